/-
  Part KG1 of the proofs of this seat: F70, F91, F69, F89, F71, F72, F88, F64, F65, F62, F63.
-/
import Derived.Test.YtfdnfkpalbihaaaK2
import Derived.Test.YtfdnfkpalbihaaaKA2
import Derived.Test.YtfdnfkpalbihaaaKA1
section
namespace Go.Proofs
open Go Go.Kx
set_option linter.unusedVariables false
set_option linter.unusedSimpArgs false
def gcm_load.b0 (b : List (BitVec 8)) (s0 : Int × BitVec 64 × BitVec 64) : Option ((Int × BitVec 64 × BitVec 64) ⊕ (BitVec 64 × BitVec 64)) :=
  if s0.1 < 8 then (if 0 ≤ s0.1 ∧ s0.1 < ((b).length : Int) then (if 0 ≤ w64 (8 + s0.1) ∧ w64 (8 + s0.1) < ((b).length : Int) then (some (.inl (w64 (s0.1 + 1), (s0.2.1 <<< 8) ||| ((lg b ((s0.1).toNat)).setWidth 64), (s0.2.2 <<< 8) ||| ((lg b ((w64 (8 + s0.1)).toNat)).setWidth 64)))) else none) else none) else (some (.inr (s0.2.1, s0.2.2)))

def gcm_load (b : List (BitVec 8)) : Option (BitVec 64 × BitVec 64) :=
  (loop (gcm_load.b0 b) BIG (0, 0#64, 0#64)).bind fun (t_1 : BitVec 64 × BitVec 64) => (some (t_1.1, t_1.2))

set_option maxHeartbeats 4000000 in
set_option maxRecDepth 20000 in
theorem F70_calls (Ab : Adr) (cb : Nat) (b : List (BitVec 8)) (hcb : (b).length ≤ cb) (r : BitVec 64 × BitVec 64) (H : gcm_load b = some r) :
    Does Try.prog 70 [sl Ab ((b).length) cb] [] [⟨Ab, e8 b⟩] (Γ := Unit) (fun g => Value.agg (flat [(1, [v64 r.1]), (1, [v64 r.2])]).toArray) (fun g => []) := by
  intro w hmem hro hd
  refine calls_of (N := 31) (m0 := [(0, sl Ab ((b).length) cb)]) Try.func70 rfl Try.ntmps70 (argM_ok [sl Ab ((b).length) cb]) rfl hmem hro hd ?_
  unfold gcm_load at H
  refine TC_seq ?_
  refine TC_region ?_
  refine TL_e rfl rfl rfl (E_allocP [(1, [v64 0#64]), (1, [v64 0#64])] TryI.inf103 TryI.zer103 ⟨rfl, rfl, trivial⟩) (fun b1 => ?_)
  refine TL_nil ?_
  refine TX_next ?_
  refine TC_seq ?_
  refine TC_region ?_
  refine TL_e rfl rfl rfl (E_allocP [(1, [v64 0#64]), (1, [v64 0#64])] TryI.inf103 TryI.zer103 ⟨rfl, rfl, trivial⟩) (fun b2 => ?_)
  refine TL_nil ?_
  refine TX_next ?_
  refine TC_seq ?_
  refine TC_seq ?_
  refine TC_region ?_
  refine TL_v rfl rfl rfl (V_move rfl) ?_
  refine TL_nil ?_
  refine TX_next ?_
  refine TC_block ?_
  obtain ⟨t_1, Hl, H⟩ := bind_elim H
  refine TC.sub (m' := [(0, sl Ab ((b).length) cb), (2, ptr (some (b1, 0)) 0), (3, ptr (some (b2, 0)) 0), (5, vi 0)]) ⟨rfl, rfl, rfl, rfl, trivial⟩ ?_
  refine TC.pull (is := [2, 2, 0, 0]) (L' := [⟨some (b1, 0), [v64 0#64]⟩, ⟨some (b1, 1), [v64 0#64]⟩, ⟨some (b2, 0), [v64 0#64]⟩, ⟨some (b2, 1), [v64 0#64]⟩]) rfl ?_
  refine TC_loopL (id := 0) (body := (gcm_load.b0 b)) (σ := Int × BitVec 64 × BitVec 64) (Γ := Unit) (Γx := Unit) (fun s0 g0_ => [(0, sl Ab ((b).length) cb), (2, ptr (some (b1, 0)) 0), (3, ptr (some (b2, 0)) 0), (5, vi s0.1)]) (fun s0 g0_ => [⟨some (b1, 0), [v64 0#64]⟩, ⟨some (b1, 1), [v64 0#64]⟩, ⟨some (b2, 0), [v64 s0.2.1]⟩, ⟨some (b2, 1), [v64 s0.2.2]⟩]) (fun t g => [(2, ptr (some (b1, 0)) 0), (3, ptr (some (b2, 0)) 0)]) (fun t g => [⟨some (b1, 0), [v64 0#64]⟩, ⟨some (b1, 1), [v64 0#64]⟩, ⟨some (b2, 0), [v64 t.1]⟩, ⟨some (b2, 1), [v64 t.2]⟩]) ?_ BIG (0, 0#64, 0#64) () t_1 Hl ?_
  · intro s0 g0_ r1 H K hK hE
    unfold gcm_load.b0 at H
    refine TC_seq ?_
    refine TC_region ?_
    refine TL_v rfl rfl rfl (V_bin rfl rfl (fun w => lssI w s0.1 8)) ?_
    refine TL_nil ?_
    refine TX_next ?_
    refine TC_seq ?_
    refine TC_cond (b := (decide (s0.1 < 8))) rfl (fun hc => ?_) (fun hc => ?_)
    · replace H := ite_t (of_decide_eq_true hc) H
      refine TC_skip ?_
      refine TX_next ?_
      refine TC_seq ?_
      refine TC_block ?_
      refine TC_seq ?_
      refine TC_region ?_
      refine TL_v rfl rfl rfl (V_move rfl) ?_
      refine TL_v rfl rfl rfl (V_assign rfl) ?_
      refine TL_nil ?_
      refine TX_next ?_
      refine TC_seq ?_
      obtain ⟨h1, H⟩ := if_elim H
      refine TA_begin [⟨some (b1, 0), [v64 0#64]⟩, ⟨some (b1, 1), [v64 0#64]⟩, ⟨some (b2, 0), [v64 s0.2.1]⟩, ⟨some (b2, 1), [v64 s0.2.2]⟩] 10 (by kernel_rfl) (N := 11) rfl ?_
      refine TA_take (i := 0) (is := [0, 0, 0, 0]) (done' := #[true, false, false, false, false, false, false, false, false, false, false]) rfl rfl rfl rfl (by kernel_rfl) (QP.then (QP.block (QP.then (QP.then (QP.block (QP.then QP.body)))))) (by kernel_rfl) rfl (V_fieldE rfl Try.underlying103 rfl rfl TryI.inf81 rfl (v := ptr (some (b2, 0)) 0) rfl) ?_
      refine TA_take (i := 1) (is := [0, 0, 0, 0]) (done' := #[true, true, false, false, false, false, false, false, false, false, false]) rfl rfl rfl rfl (by kernel_rfl) (QP.then (QP.block (QP.then (QP.then (QP.block (QP.then QP.body)))))) (by kernel_rfl) rfl (V_load rfl (Src.own (j := 2) rfl) rfl Try.isAgg81) ?_
      refine TA_take (i := 2) (is := [0, 0, 0, 0]) (done' := #[true, true, true, false, false, false, false, false, false, false, false]) rfl rfl rfl rfl (by kernel_rfl) (QP.then (QP.block (QP.then (QP.then (QP.block (QP.then QP.body)))))) (by kernel_rfl) rfl (V_bin rfl rfl (fun w => shl64 w s0.2.1 .u64 8 (by decide))) ?_
      refine TA_take (i := 3) (is := [0, 0, 0, 0]) (done' := #[true, true, true, true, false, false, false, false, false, false, false]) rfl rfl rfl rfl (by kernel_rfl) (QP.then (QP.block (QP.then (QP.then (QP.block (QP.then QP.body)))))) (by kernel_rfl) rfl (V_move rfl) ?_
      refine TA_take (i := 4) (is := [0, 0, 0, 0]) (done' := #[true, true, true, true, true, false, false, false, false, false, false]) rfl rfl rfl rfl (by kernel_rfl) (QP.then (QP.block (QP.then (QP.then (QP.block (QP.then QP.body)))))) (by kernel_rfl) rfl (V_move rfl) ?_
      refine TA_take (i := 5) (is := [0, 0, 0, 0]) (done' := #[true, true, true, true, true, true, false, false, false, false, false]) rfl rfl rfl rfl (by kernel_rfl) (QP.then (QP.block (QP.then (QP.then (QP.block (QP.then QP.body)))))) (by kernel_rfl) rfl (V_idxSlS (i := s0.1) rfl rfl Try.underlying30 TryI.inf5 rfl (Src.ro (j := 0) rfl) (map_ne (toNat_lt h1.1 h1.2)) h1.1 h1.2 (k := (s0.1).toNat) (km1 _)) ?_
      refine TA_take (i := 6) (is := [0, 0, 0, 0]) (done' := #[true, true, true, true, true, true, true, false, false, false, false]) rfl rfl rfl rfl (by kernel_rfl) (QP.then (QP.block (QP.then (QP.then (QP.block (QP.then QP.body)))))) (by kernel_rfl) rfl (V_load rfl (Src.ro (j := 0) rfl) (get_map (f := v8) (l := b) (toNat_lt h1.1 h1.2)) Try.isAgg5) ?_
      refine TA_take (i := 7) (is := [0, 0, 0, 0]) (done' := #[true, true, true, true, true, true, true, true, false, false, false]) rfl rfl rfl rfl (by kernel_rfl) (QP.then (QP.block (QP.then (QP.then (QP.block (QP.then QP.body)))))) (by kernel_rfl) rfl (V_conv rfl (fun w => cv8to64 w _ _ Try.underlying81 (TryI.und5) (lg b ((s0.1).toNat)))) ?_
      refine TA_take (i := 8) (is := [0, 0, 0, 0]) (done' := #[true, true, true, true, true, true, true, true, true, false, false]) rfl rfl rfl rfl (by kernel_rfl) (QP.then (QP.block (QP.then (QP.then (QP.block (QP.then QP.body)))))) (by kernel_rfl) rfl (V_bin rfl rfl (fun w => or64 w (s0.2.1 <<< 8) ((lg b ((s0.1).toNat)).setWidth 64))) ?_
      refine TA_take (i := 9) (is := [0, 0, 0, 0]) (done' := #[true, true, true, true, true, true, true, true, true, true, false]) rfl rfl rfl rfl (by kernel_rfl) (QP.then (QP.block (QP.then (QP.then (QP.block (QP.then QP.body)))))) (by kernel_rfl) rfl (V_fieldE rfl Try.underlying103 rfl rfl TryI.inf81 rfl (v := ptr (some (b2, 0)) 0) rfl) ?_
      refine TA_all (rs := [10]) (by kernel_rfl) rfl ?_
      refine ⟨?_, trivial⟩
      refine TO_n (is := []) (R := fun _ => []) (done' := #[true, true, true, true, true, true, true, true, true, true, true]) rfl rfl rfl (by kernel_rfl) (E_store (j := 2) rfl rfl TryI.inf81 rfl rfl rfl (Nat.lt_succ_self 0) (cs' := [v64 ((s0.2.1 <<< 8) ||| ((lg b ((s0.1).toNat)).setWidth 64))]) rfl) (fun h => by cases h) (fun _ => ?_)
      refine TA_done (by kernel_rfl) ?_ 0
      refine TX_next ?_
      obtain ⟨h2, H⟩ := if_elim H
      refine TA_begin [⟨some (b1, 0), [v64 0#64]⟩, ⟨some (b1, 1), [v64 0#64]⟩, ⟨some (b2, 0), [v64 ((s0.2.1 <<< 8) ||| ((lg b ((s0.1).toNat)).setWidth 64))]⟩, ⟨some (b2, 1), [v64 s0.2.2]⟩] 11 (by kernel_rfl) (N := 12) rfl ?_
      refine TA_take (i := 0) (is := [0, 0, 0, 0]) (done' := #[true, false, false, false, false, false, false, false, false, false, false, false]) rfl rfl rfl rfl (by kernel_rfl) (QP.block (QP.then (QP.then (QP.block (QP.then QP.body))))) (by kernel_rfl) rfl (V_fieldE rfl Try.underlying103 rfl rfl TryI.inf81 rfl (v := ptr (some (b2, 1)) 0) rfl) ?_
      refine TA_take (i := 1) (is := [0, 0, 0, 0]) (done' := #[true, true, false, false, false, false, false, false, false, false, false, false]) rfl rfl rfl rfl (by kernel_rfl) (QP.block (QP.then (QP.then (QP.block (QP.then QP.body))))) (by kernel_rfl) rfl (V_load rfl (Src.own (j := 3) rfl) rfl Try.isAgg81) ?_
      refine TA_take (i := 2) (is := [0, 0, 0, 0]) (done' := #[true, true, true, false, false, false, false, false, false, false, false, false]) rfl rfl rfl rfl (by kernel_rfl) (QP.block (QP.then (QP.then (QP.block (QP.then QP.body))))) (by kernel_rfl) rfl (V_bin rfl rfl (fun w => shl64 w s0.2.2 .u64 8 (by decide))) ?_
      refine TA_take (i := 3) (is := [0, 0, 0, 0]) (done' := #[true, true, true, true, false, false, false, false, false, false, false, false]) rfl rfl rfl rfl (by kernel_rfl) (QP.block (QP.then (QP.then (QP.block (QP.then QP.body))))) (by kernel_rfl) rfl (V_move rfl) ?_
      refine TA_take (i := 4) (is := [0, 0, 0, 0]) (done' := #[true, true, true, true, true, false, false, false, false, false, false, false]) rfl rfl rfl rfl (by kernel_rfl) (QP.block (QP.then (QP.then (QP.block (QP.then QP.body))))) (by kernel_rfl) rfl (V_move rfl) ?_
      refine TA_take (i := 5) (is := [0, 0, 0, 0]) (done' := #[true, true, true, true, true, true, false, false, false, false, false, false]) rfl rfl rfl rfl (by kernel_rfl) (QP.block (QP.then (QP.then (QP.block (QP.then QP.body))))) (by kernel_rfl) rfl (V_bin rfl rfl (fun w => addI w 8 s0.1)) ?_
      refine TA_take (i := 6) (is := [0, 0, 0, 0]) (done' := #[true, true, true, true, true, true, true, false, false, false, false, false]) rfl rfl rfl rfl (by kernel_rfl) (QP.block (QP.then (QP.then (QP.block (QP.then QP.body))))) (by kernel_rfl) rfl (V_idxSlS (i := w64 (8 + s0.1)) rfl rfl Try.underlying30 TryI.inf5 rfl (Src.ro (j := 0) rfl) (map_ne (toNat_lt h2.1 h2.2)) h2.1 h2.2 (k := (w64 (8 + s0.1)).toNat) (km1 _)) ?_
      refine TA_take (i := 7) (is := [0, 0, 0, 0]) (done' := #[true, true, true, true, true, true, true, true, false, false, false, false]) rfl rfl rfl rfl (by kernel_rfl) (QP.block (QP.then (QP.then (QP.block (QP.then QP.body))))) (by kernel_rfl) rfl (V_load rfl (Src.ro (j := 0) rfl) (get_map (f := v8) (l := b) (toNat_lt h2.1 h2.2)) Try.isAgg5) ?_
      refine TA_take (i := 8) (is := [0, 0, 0, 0]) (done' := #[true, true, true, true, true, true, true, true, true, false, false, false]) rfl rfl rfl rfl (by kernel_rfl) (QP.block (QP.then (QP.then (QP.block (QP.then QP.body))))) (by kernel_rfl) rfl (V_conv rfl (fun w => cv8to64 w _ _ Try.underlying81 (TryI.und5) (lg b ((w64 (8 + s0.1)).toNat)))) ?_
      refine TA_take (i := 9) (is := [0, 0, 0, 0]) (done' := #[true, true, true, true, true, true, true, true, true, true, false, false]) rfl rfl rfl rfl (by kernel_rfl) (QP.block (QP.then (QP.then (QP.block (QP.then QP.body))))) (by kernel_rfl) rfl (V_bin rfl rfl (fun w => or64 w (s0.2.2 <<< 8) ((lg b ((w64 (8 + s0.1)).toNat)).setWidth 64))) ?_
      refine TA_take (i := 10) (is := [0, 0, 0, 0]) (done' := #[true, true, true, true, true, true, true, true, true, true, true, false]) rfl rfl rfl rfl (by kernel_rfl) (QP.block (QP.then (QP.then (QP.block (QP.then QP.body))))) (by kernel_rfl) rfl (V_fieldE rfl Try.underlying103 rfl rfl TryI.inf81 rfl (v := ptr (some (b2, 1)) 0) rfl) ?_
      refine TA_all (rs := [11]) (by kernel_rfl) rfl ?_
      refine ⟨?_, trivial⟩
      refine TO_n (is := []) (R := fun _ => []) (done' := #[true, true, true, true, true, true, true, true, true, true, true, true]) rfl rfl rfl (by kernel_rfl) (E_store (j := 3) rfl rfl TryI.inf81 rfl rfl rfl (Nat.lt_succ_self 0) (cs' := [v64 ((s0.2.2 <<< 8) ||| ((lg b ((w64 (8 + s0.1)).toNat)).setWidth 64))]) rfl) (fun h => by cases h) (fun _ => ?_)
      refine TA_done (by kernel_rfl) ?_ 0
      refine TX_block_normal ?_
      refine TX_next ?_
      refine TC_region ?_
      refine TL_v rfl rfl rfl (V_bin rfl rfl (fun w => addI w s0.1 1)) ?_
      refine TL_v rfl rfl rfl (V_move rfl) ?_
      refine TL_nil ?_
      refine TX.sub (m' := [(0, sl Ab ((b).length) cb), (2, ptr (some (b1, 0)) 0), (3, ptr (some (b2, 0)) 0), (5, vi (w64 (s0.1 + 1)))]) ⟨rfl, rfl, rfl, rfl, trivial⟩ ?_
      refine TX.pull (is := [0, 0, 0, 0]) (L' := [⟨some (b1, 0), [v64 0#64]⟩, ⟨some (b1, 1), [v64 0#64]⟩, ⟨some (b2, 0), [v64 ((s0.2.1 <<< 8) ||| ((lg b ((s0.1).toNat)).setWidth 64))]⟩, ⟨some (b2, 1), [v64 ((s0.2.2 <<< 8) ||| ((lg b ((w64 (8 + s0.1)).toNat)).setWidth 64))]⟩]) rfl ?_
      obtain rfl := Option.some.inj H
      exact fun a w hs => hK (w64 (s0.1 + 1), (s0.2.1 <<< 8) ||| ((lg b ((s0.1).toNat)).setWidth 64), (s0.2.2 <<< 8) ||| ((lg b ((w64 (8 + s0.1)).toNat)).setWidth 64)) rfl () a w hs
    · replace H := ite_f (of_decide_eq_false hc) H
      refine TC_exit ?_
      refine TX_then_exit ?_
      refine TX_then_exit ?_
      refine TX.sub (m' := [(2, ptr (some (b1, 0)) 0), (3, ptr (some (b2, 0)) 0)]) ⟨rfl, rfl, trivial⟩ ?_
      refine TX.pull (is := [0, 0, 0, 0]) (L' := [⟨some (b1, 0), [v64 0#64]⟩, ⟨some (b1, 1), [v64 0#64]⟩, ⟨some (b2, 0), [v64 s0.2.1]⟩, ⟨some (b2, 1), [v64 s0.2.2]⟩]) rfl ?_
      obtain rfl := Option.some.inj H
      exact hE (s0.2.1, s0.2.2) rfl ()
  · intro g
    refine TX_block_exit ?_
    refine TX_next ?_
    refine TC_seq ?_
    refine TC_region ?_
    refine TL_v rfl rfl rfl (V_loadAgg (n := 2) (cs := flat [(1, [v64 t_1.1]), (1, [v64 t_1.2])]) rfl (by simp) (SrcEnts (b := b2) [(1, [v64 t_1.1]), (1, [v64 t_1.2])] 0 ⟨rfl, rfl, trivial⟩ (AllSrc.all (M := ents b2 0 [(1, [v64 t_1.1]), (1, [v64 t_1.2])]) ⟨Src.own (j := 2) rfl, Src.own (j := 3) rfl, trivial⟩)) Try.isAgg103 TryI.inf103 rfl (flat_len ⟨rfl, rfl, trivial⟩ rfl)) ?_
    refine TL_n rfl rfl (E_storeParts (b := b1) (o := 0) (n := 2) (is := [0, 0]) [(1, [v64 0#64]), (1, [v64 0#64])] [(1, [v64 t_1.1]), (1, [v64 t_1.2])] rfl rfl rfl TryI.inf103 rfl ⟨rfl, rfl, trivial⟩ ⟨rfl, rfl, trivial⟩ (flat_len ⟨rfl, rfl, trivial⟩ rfl) (flat_len ⟨rfl, rfl, trivial⟩ rfl) (flat_onec ⟨(OneC.cons rfl OneC.nil), (OneC.cons rfl OneC.nil), trivial⟩)) (fun _ => ?_)
    refine TL_nil ?_
    refine TX_next ?_
    refine TC_ret ?_
    have hrv := Option.some.inj H
    subst hrv
    exact TX_ret (rs := [.cell 2 103]) (vs := [Value.agg (flat [(1, [v64 t_1.1]), (1, [v64 t_1.2])]).toArray]) rfl ⟨(Res_agg (n := 2) (cs := flat [(1, [v64 t_1.1]), (1, [v64 t_1.2])]) rfl (by simp) (SrcEnts (b := b1) [(1, [v64 t_1.1]), (1, [v64 t_1.2])] 0 ⟨rfl, rfl, trivial⟩ (AllSrc.all (M := ents b1 0 [(1, [v64 t_1.1]), (1, [v64 t_1.2])]) ⟨Src.own (j := 0) rfl, Src.own (j := 1) rfl, trivial⟩)) Try.isAgg103 TryI.inf103 rfl (by simp [flat])), trivial⟩ (fun w' hs' => ⟨(), rfl, Step.left (Step.pulled (is := []) (A := []) hs' rfl)⟩)

end Go.Proofs
end

section
namespace Go.Proofs
open Go Go.Kx
set_option linter.unusedVariables false
set_option linter.unusedSimpArgs false
def gcm_element_half (e_high : BitVec 64) (e_low : BitVec 64) : Option (BitVec 64 × BitVec 64) :=
  some ((e_high >>> 1) ^^^ (16212958658533785600#64 &&& (-(e_low &&& 1#64))), (e_low >>> 1) ||| (e_high <<< 63))

set_option maxHeartbeats 4000000 in
set_option maxRecDepth 20000 in
theorem F91_calls (e_high : BitVec 64) (e_low : BitVec 64) (r : BitVec 64 × BitVec 64) (H : gcm_element_half e_high e_low = some r) :
    Does Try.prog 91 [Value.agg (flat [(1, [v64 e_high]), (1, [v64 e_low])]).toArray] [] [] (Γ := Unit) (fun g => Value.agg (flat [(1, [v64 r.1]), (1, [v64 r.2])]).toArray) (fun g => []) := by
  intro w hmem hro hd
  refine calls_of (N := 20) (m0 := [(0, Value.agg (flat [(1, [v64 e_high]), (1, [v64 e_low])]).toArray)]) Try.func91 rfl Try.ntmps91 (argM_ok [Value.agg (flat [(1, [v64 e_high]), (1, [v64 e_low])]).toArray]) rfl hmem hro hd ?_
  unfold gcm_element_half at H
  refine TC_seq ?_
  refine TC_region ?_
  refine TL_e rfl rfl rfl (E_boxP [(1, [v64 e_high]), (1, [v64 e_low])] rfl rfl ⟨rfl, rfl, trivial⟩) (fun b1 => ?_)
  refine TL_e rfl rfl rfl (E_allocP [(1, [v64 0#64]), (1, [v64 0#64])] TryI.inf103 TryI.zer103 ⟨rfl, rfl, trivial⟩) (fun b2 => ?_)
  refine TL_nil ?_
  refine TX_next ?_
  refine TC_seq ?_
  refine TC_region ?_
  refine TL_v rfl rfl rfl (V_fieldE rfl Try.underlying103 rfl rfl TryI.inf81 rfl (v := ptr (some (b1, 0)) 0) rfl) ?_
  refine TL_v rfl rfl rfl (V_load rfl (Src.own (j := 2) rfl) rfl Try.isAgg81) ?_
  refine TL_v rfl rfl rfl (V_bin rfl rfl (fun w => shr64 w e_high .u64 1 (by decide))) ?_
  refine TL_v rfl rfl rfl (V_fieldE rfl Try.underlying103 rfl rfl TryI.inf81 rfl (v := ptr (some (b1, 1)) 0) rfl) ?_
  refine TL_v rfl rfl rfl (V_load rfl (Src.own (j := 3) rfl) rfl Try.isAgg81) ?_
  refine TL_v rfl rfl rfl (V_bin rfl rfl (fun w => and64 w e_low 1#64)) ?_
  refine TL_v rfl rfl rfl (V_un rfl (fun w => neg64 w (e_low &&& 1#64))) ?_
  refine TL_v rfl rfl rfl (V_bin rfl rfl (fun w => and64 w 16212958658533785600#64 (-(e_low &&& 1#64)))) ?_
  refine TL_v rfl rfl rfl (V_bin rfl rfl (fun w => xor64 w (e_high >>> 1) (16212958658533785600#64 &&& (-(e_low &&& 1#64))))) ?_
  refine TL_v rfl rfl rfl (V_fieldE rfl Try.underlying103 rfl rfl TryI.inf81 rfl (v := ptr (some (b1, 1)) 0) rfl) ?_
  refine TL_v rfl rfl rfl (V_load rfl (Src.own (j := 3) rfl) rfl Try.isAgg81) ?_
  refine TL_v rfl rfl rfl (V_bin rfl rfl (fun w => shr64 w e_low .u64 1 (by decide))) ?_
  refine TL_v rfl rfl rfl (V_fieldE rfl Try.underlying103 rfl rfl TryI.inf81 rfl (v := ptr (some (b1, 0)) 0) rfl) ?_
  refine TL_v rfl rfl rfl (V_load rfl (Src.own (j := 2) rfl) rfl Try.isAgg81) ?_
  refine TL_v rfl rfl rfl (V_bin rfl rfl (fun w => shl64 w e_high .u64 63 (by decide))) ?_
  refine TL_v rfl rfl rfl (V_bin rfl rfl (fun w => or64 w (e_low >>> 1) (e_high <<< 63))) ?_
  refine TL_v rfl rfl rfl (V_buildStruct (pv := [(0, v64 ((e_high >>> 1) ^^^ (16212958658533785600#64 &&& (-(e_low &&& 1#64))))), (1, v64 ((e_low >>> 1) ||| (e_high <<< 63)))]) (pl := [(0, 1), (1, 1)]) rfl rfl Try.underlying103 TryI.inf103 TryI.places103 TryI.zer103 (cs := flat [(1, [v64 ((e_high >>> 1) ^^^ (16212958658533785600#64 &&& (-(e_low &&& 1#64))))]), (1, [v64 ((e_low >>> 1) ||| (e_high <<< 63))])]) (by kernel_rfl)) ?_
  refine TL_n rfl rfl (E_storeParts (b := b2) (o := 0) (n := 2) (is := [0, 0]) [(1, [v64 0#64]), (1, [v64 0#64])] [(1, [v64 ((e_high >>> 1) ^^^ (16212958658533785600#64 &&& (-(e_low &&& 1#64))))]), (1, [v64 ((e_low >>> 1) ||| (e_high <<< 63))])] rfl rfl rfl TryI.inf103 rfl ⟨rfl, rfl, trivial⟩ ⟨rfl, rfl, trivial⟩ (flat_len ⟨rfl, rfl, trivial⟩ rfl) (flat_len ⟨rfl, rfl, trivial⟩ rfl) (flat_onec ⟨(OneC.cons rfl OneC.nil), (OneC.cons rfl OneC.nil), trivial⟩)) (fun _ => ?_)
  refine TL_nil ?_
  refine TX_next ?_
  refine TC_ret ?_
  have hrv := Option.some.inj H
  subst hrv
  exact TX_ret (rs := [.cell 2 103]) (vs := [Value.agg (flat [(1, [v64 ((e_high >>> 1) ^^^ (16212958658533785600#64 &&& (-(e_low &&& 1#64))))]), (1, [v64 ((e_low >>> 1) ||| (e_high <<< 63))])]).toArray]) rfl ⟨(Res_agg (n := 2) (cs := flat [(1, [v64 ((e_high >>> 1) ^^^ (16212958658533785600#64 &&& (-(e_low &&& 1#64))))]), (1, [v64 ((e_low >>> 1) ||| (e_high <<< 63))])]) rfl (by simp) (SrcEnts (b := b2) [(1, [v64 ((e_high >>> 1) ^^^ (16212958658533785600#64 &&& (-(e_low &&& 1#64))))]), (1, [v64 ((e_low >>> 1) ||| (e_high <<< 63))])] 0 ⟨rfl, rfl, trivial⟩ (AllSrc.all (M := ents b2 0 [(1, [v64 ((e_high >>> 1) ^^^ (16212958658533785600#64 &&& (-(e_low &&& 1#64))))]), (1, [v64 ((e_low >>> 1) ||| (e_high <<< 63))])]) ⟨Src.own (j := 0) rfl, Src.own (j := 1) rfl, trivial⟩)) Try.isAgg103 TryI.inf103 rfl (by simp [flat])), trivial⟩ (fun w' hs' => ⟨(), rfl, Step.left (Step.pulled (is := []) (A := []) hs' rfl)⟩)

end Go.Proofs
end

section
namespace Go.Proofs
open Go Go.Kx
set_option linter.unusedVariables false
set_option linter.unusedSimpArgs false
def gcm_newSum.b1 (s0 : Int × (Vector (BitVec 64 × BitVec 64) 16) × BitVec 64 × BitVec 64) (s1 : Int × (Vector (BitVec 64 × BitVec 64) 16)) : Option ((Int × (Vector (BitVec 64 × BitVec 64) 16)) ⊕ ((Vector (BitVec 64 × BitVec 64) 16))) :=
  if s1.1 < 16 then (if (iop (· &&& ·) s1.1 s0.1) ≠ 0 then (if 0 ≤ s1.1 ∧ s1.1 < (16 : Int) then (if 0 ≤ s1.1 ∧ s1.1 < (16 : Int) then (ltt (vp s1.2 ((s1.1).toNat) ((((vg s1.2 ((s1.1).toNat)).1) ^^^ s0.2.2.1), (vg s1.2 ((s1.1).toNat)).2)) fun (m_1 : Vector (BitVec 64 × BitVec 64) 16) => (if 0 ≤ s1.1 ∧ s1.1 < (16 : Int) then (if 0 ≤ s1.1 ∧ s1.1 < (16 : Int) then (ltt (vp m_1 ((s1.1).toNat) ((vg m_1 ((s1.1).toNat)).1, (((vg m_1 ((s1.1).toNat)).2) ^^^ s0.2.2.2))) fun (m_2 : Vector (BitVec 64 × BitVec 64) 16) => (some (.inl (w64 (s1.1 + 1), m_2)))) else none) else none)) else none) else none) else (some (.inl (w64 (s1.1 + 1), s1.2)))) else (some (.inr s1.2))

def gcm_newSum.b0  (s0 : Int × (Vector (BitVec 64 × BitVec 64) 16) × BitVec 64 × BitVec 64) : Option ((Int × (Vector (BitVec 64 × BitVec 64) 16) × BitVec 64 × BitVec 64) ⊕ ((Vector (BitVec 64 × BitVec 64) 16))) :=
  if 0 < s0.1 then ((loop (gcm_newSum.b1 s0) BIG (0, s0.2.1)).bind fun (t_2 : (Vector (BitVec 64 × BitVec 64) 16)) => ((gcm_element_half s0.2.2.1 s0.2.2.2).bind fun (r_1 : BitVec 64 × BitVec 64) => (ltt (w64 (s0.1.tdiv 2)) fun (bit1 : Int) => (some (.inl (bit1, t_2, r_1.1, r_1.2)))))) else (some (.inr s0.2.1))

def gcm_newSum.b3  (s3 : Int × BitVec 64 × BitVec 64) : Option ((Int × BitVec 64 × BitVec 64) ⊕ (BitVec 64 × BitVec 64)) :=
  if s3.1 < 4 then ((gcm_element_half s3.2.1 s3.2.2).bind fun (r_2 : BitVec 64 × BitVec 64) => (some (.inl (w64 (s3.1 + 1), r_2.1, r_2.2)))) else (some (.inr (s3.2.1, s3.2.2)))

def gcm_newSum.b2  (s2 : Int × Vector (BitVec 64) 16) : Option ((Int × Vector (BitVec 64) 16) ⊕ (Vector (BitVec 64) 16)) :=
  if s2.1 < 16 then ((loop (gcm_newSum.b3) BIG (0, 0#64, BitVec.ofInt 64 s2.1)).bind fun (t_4 : BitVec 64 × BitVec 64) => (if 0 ≤ s2.1 ∧ s2.1 < (16 : Int) then (ltt (vp s2.2 ((s2.1).toNat) t_4.1) fun (m_3 : Vector (BitVec 64) 16) => (some (.inl (w64 (s2.1 + 1), m_3)))) else none)) else (some (.inr s2.2))

def gcm_newSum (h_high : BitVec 64) (h_low : BitVec 64) : Option ((Vector (BitVec 64 × BitVec 64) 16) × Vector (BitVec 64) 16) :=
  (loop (gcm_newSum.b0) BIG (8, Vector.replicate 16 (0#64, 0#64), h_high, h_low)).bind fun (t_1 : (Vector (BitVec 64 × BitVec 64) 16)) => ((loop (gcm_newSum.b2) BIG (0, Vector.replicate 16 0#64)).bind fun (t_3 : Vector (BitVec 64) 16) => (some (t_1, t_3)))

set_option maxHeartbeats 4000000 in
set_option maxRecDepth 20000 in
theorem F69_calls (h_high : BitVec 64) (h_low : BitVec 64) (r : (Vector (BitVec 64 × BitVec 64) 16) × Vector (BitVec 64) 16) (H : gcm_newSum h_high h_low = some r) :
    Does Try.prog 69 [Value.agg (flat [(1, [v64 h_high]), (1, [v64 h_low])]).toArray] [] [] (Γ := Nat) (fun g => ptr (some (g, 0)) 0) (fun g => [⟨some (g, 0), eF (fun p : BitVec 64 × BitVec 64 => [v64 p.1, v64 p.2]) r.1.toList⟩, ⟨some (g, 32), e64 r.2.toList⟩, ⟨some (g, 48), [v64 0#64]⟩, ⟨some (g, 49), [v64 0#64]⟩]) := by
  intro w hmem hro hd
  refine calls_of (N := 75) (m0 := [(0, Value.agg (flat [(1, [v64 h_high]), (1, [v64 h_low])]).toArray)]) Try.func69 rfl Try.ntmps69 (argM_ok [Value.agg (flat [(1, [v64 h_high]), (1, [v64 h_low])]).toArray]) rfl hmem hro hd ?_
  unfold gcm_newSum at H
  refine TC_seq ?_
  refine TC_region ?_
  refine TL_e rfl rfl rfl (E_boxP [(1, [v64 h_high]), (1, [v64 h_low])] rfl rfl ⟨rfl, rfl, trivial⟩) (fun b1 => ?_)
  refine TL_v rfl rfl rfl (V_assign rfl) ?_
  refine TL_nil ?_
  refine TX_next ?_
  refine TC_seq ?_
  refine TC_region ?_
  refine TL_v rfl rfl rfl (V_buildStruct (pv := []) (pl := [(0, 32), (32, 16), (48, 2)]) rfl rfl Try.underlying108 TryI.inf108 TryI.places108 TryI.zer108 (cs := flat [(32, eF (fun p : BitVec 64 × BitVec 64 => [v64 p.1, v64 p.2]) ((Vector.replicate 16 (0#64, 0#64)).toList)), (16, e64 ((Vector.replicate 16 0#64).toList)), (1, [v64 0#64]), (1, [v64 0#64])]) fill_end) ?_
  refine TL_e rfl rfl rfl (E_boxP [(32, eF (fun p : BitVec 64 × BitVec 64 => [v64 p.1, v64 p.2]) ((Vector.replicate 16 (0#64, 0#64)).toList)), (16, e64 ((Vector.replicate 16 0#64).toList)), (1, [v64 0#64]), (1, [v64 0#64])] rfl rfl ⟨(lenVF (g := fun p : BitVec 64 × BitVec 64 => [v64 p.1, v64 p.2]) (s := 2) (fun _ => rfl) (Vector.replicate 16 (0#64, 0#64))), (lenV (f := v64) (Vector.replicate 16 0#64)), rfl, rfl, trivial⟩) (fun b2 => ?_)
  refine TL_v rfl rfl rfl (V_assign rfl) ?_
  refine TL_nil ?_
  refine TX_next ?_
  refine TC_seq ?_
  refine TC_seq ?_
  refine TA_begin [⟨some (b2, 0), eF (fun p : BitVec 64 × BitVec 64 => [v64 p.1, v64 p.2]) ((Vector.replicate 16 (0#64, 0#64)).toList)⟩, ⟨some (b2, 32), e64 ((Vector.replicate 16 0#64).toList)⟩, ⟨some (b2, 48), [v64 0#64]⟩, ⟨some (b2, 49), [v64 0#64]⟩, ⟨some (b1, 0), [v64 h_high]⟩, ⟨some (b1, 1), [v64 h_low]⟩] 3 (by kernel_rfl) (N := 4) rfl ?_
  refine TA_take (i := 0) (is := [0, 0, 0, 0, 0, 0]) (done' := #[true, false, false, false]) rfl rfl rfl rfl (by kernel_rfl) (QP.then (QP.then QP.body)) (by kernel_rfl) rfl (V_loadAgg (n := 2) (cs := flat [(1, [v64 h_high]), (1, [v64 h_low])]) rfl (by simp) (SrcEnts (b := b1) [(1, [v64 h_high]), (1, [v64 h_low])] 0 ⟨rfl, rfl, trivial⟩ (AllSrc.all (M := ents b1 0 [(1, [v64 h_high]), (1, [v64 h_low])]) ⟨Src.own (j := 4) rfl, Src.own (j := 5) rfl, trivial⟩)) Try.isAgg103 TryI.inf103 rfl (flat_len ⟨rfl, rfl, trivial⟩ rfl)) ?_
  refine TA_all (rs := [1]) (by kernel_rfl) rfl ?_
  refine ⟨?_, trivial⟩
  refine TO_e (is := [2, 2, 2, 2, 2, 2]) (done' := #[true, true, false, false]) rfl rfl rfl rfl (by kernel_rfl) (E_allocP [(1, [v64 0#64]), (1, [v64 0#64])] TryI.inf103 TryI.zer103 ⟨rfl, rfl, trivial⟩) (fun _ _ => rfl) (fun b3 => ?_)
  refine TA_more (Lr2 := [⟨some (b3, 0), [v64 0#64]⟩, ⟨some (b3, 1), [v64 0#64]⟩, ⟨some (b2, 0), eF (fun p : BitVec 64 × BitVec 64 => [v64 p.1, v64 p.2]) ((Vector.replicate 16 (0#64, 0#64)).toList)⟩, ⟨some (b2, 32), e64 ((Vector.replicate 16 0#64).toList)⟩, ⟨some (b2, 48), [v64 0#64]⟩, ⟨some (b2, 49), [v64 0#64]⟩, ⟨some (b1, 0), [v64 h_high]⟩, ⟨some (b1, 1), [v64 h_low]⟩]) (is := [2, 2, 2, 2, 2, 2]) (is2 := [0, 0, 0, 0, 0, 0, 0, 0]) rfl rfl ?_
  refine TA_take (i := 2) (is := [0, 0, 0, 0, 0, 0, 0, 0]) (done' := #[true, true, true, false]) rfl rfl rfl rfl (by kernel_rfl) (QP.then (QP.then QP.body)) (by kernel_rfl) rfl (V_assign rfl) ?_
  refine TA_all (rs := [3]) (by kernel_rfl) rfl ?_
  refine ⟨?_, trivial⟩
  refine TO_n (is := []) (R := fun _ => []) (done' := #[true, true, true, true]) rfl rfl rfl (by kernel_rfl) (E_storeParts (b := b3) (o := 0) (n := 2) (is := [0, 0]) [(1, [v64 0#64]), (1, [v64 0#64])] [(1, [v64 h_high]), (1, [v64 h_low])] rfl rfl rfl TryI.inf103 rfl ⟨rfl, rfl, trivial⟩ ⟨rfl, rfl, trivial⟩ (flat_len ⟨rfl, rfl, trivial⟩ rfl) (flat_len ⟨rfl, rfl, trivial⟩ rfl) (flat_onec ⟨(OneC.cons rfl OneC.nil), (OneC.cons rfl OneC.nil), trivial⟩)) (fun h => by cases h) (fun _ => ?_)
  refine TA_done (by kernel_rfl) ?_ 0
  refine TX_next ?_
  refine TC_block ?_
  obtain ⟨t_1, Hl, H⟩ := bind_elim H
  refine TC.sub (m' := [(3, ptr (some (b2, 0)) 0), (4, vi 8), (5, ptr (some (b3, 0)) 0)]) ⟨rfl, rfl, rfl, trivial⟩ ?_
  refine TC.pull (is := [2, 2, 2, 2, 0, 0]) (L' := [⟨some (b2, 0), eF (fun p : BitVec 64 × BitVec 64 => [v64 p.1, v64 p.2]) ((Vector.replicate 16 (0#64, 0#64)).toList)⟩, ⟨some (b2, 32), e64 ((Vector.replicate 16 0#64).toList)⟩, ⟨some (b2, 48), [v64 0#64]⟩, ⟨some (b2, 49), [v64 0#64]⟩, ⟨some (b3, 0), [v64 h_high]⟩, ⟨some (b3, 1), [v64 h_low]⟩]) rfl ?_
  refine TC_loopL (id := 0) (body := (gcm_newSum.b0)) (σ := Int × (Vector (BitVec 64 × BitVec 64) 16) × BitVec 64 × BitVec 64) (Γ := Nat) (Γx := Unit) (fun s0 g0_ => [(3, ptr (some (b2, 0)) 0), (4, vi s0.1), (5, ptr (some (g0_, 0)) 0)]) (fun s0 g0_ => [⟨some (b2, 0), eF (fun p : BitVec 64 × BitVec 64 => [v64 p.1, v64 p.2]) s0.2.1.toList⟩, ⟨some (b2, 32), e64 ((Vector.replicate 16 0#64).toList)⟩, ⟨some (b2, 48), [v64 0#64]⟩, ⟨some (b2, 49), [v64 0#64]⟩, ⟨some (g0_, 0), [v64 s0.2.2.1]⟩, ⟨some (g0_, 1), [v64 s0.2.2.2]⟩]) (fun t g => [(3, ptr (some (b2, 0)) 0)]) (fun t g => [⟨some (b2, 0), eF (fun p : BitVec 64 × BitVec 64 => [v64 p.1, v64 p.2]) t.toList⟩, ⟨some (b2, 32), e64 ((Vector.replicate 16 0#64).toList)⟩, ⟨some (b2, 48), [v64 0#64]⟩, ⟨some (b2, 49), [v64 0#64]⟩]) ?_ BIG (8, Vector.replicate 16 (0#64, 0#64), h_high, h_low) b3 t_1 Hl ?_
  · intro s0 g0_ r1 H K hK hE
    unfold gcm_newSum.b0 at H
    refine TC_seq ?_
    refine TC_seq ?_
    refine TC_region ?_
    refine TL_v rfl rfl rfl (V_move rfl) ?_
    refine TL_v rfl rfl rfl (V_bin rfl rfl (fun w => gtrI w s0.1 0)) ?_
    refine TL_nil ?_
    refine TX_next ?_
    refine TC_cond (b := (decide (0 < s0.1))) rfl (fun hc => ?_) (fun hc => ?_)
    · replace H := ite_t (of_decide_eq_true hc) H
      refine TC_skip ?_
      refine TX_next ?_
      refine TC_seq ?_
      refine TC_block ?_
      refine TC_seq ?_
      refine TC_region ?_
      refine TL_v rfl rfl rfl (V_move rfl) ?_
      refine TL_nil ?_
      refine TX_next ?_
      refine TC_block ?_
      obtain ⟨t_2, Hl, H⟩ := bind_elim H
      refine TC.sub (m' := [(3, ptr (some (b2, 0)) 0), (4, vi s0.1), (5, ptr (some (g0_, 0)) 0), (18, vi 0)]) ⟨rfl, rfl, rfl, rfl, trivial⟩ ?_
      refine TC.pull (is := [0, 0, 0, 0, 0, 0]) (L' := [⟨some (b2, 0), eF (fun p : BitVec 64 × BitVec 64 => [v64 p.1, v64 p.2]) s0.2.1.toList⟩, ⟨some (b2, 32), e64 ((Vector.replicate 16 0#64).toList)⟩, ⟨some (b2, 48), [v64 0#64]⟩, ⟨some (b2, 49), [v64 0#64]⟩, ⟨some (g0_, 0), [v64 s0.2.2.1]⟩, ⟨some (g0_, 1), [v64 s0.2.2.2]⟩]) rfl ?_
      refine TC_loopL (id := 2) (body := (gcm_newSum.b1 s0)) (σ := Int × (Vector (BitVec 64 × BitVec 64) 16)) (Γ := Unit) (Γx := Unit) (fun s1 g1_ => [(3, ptr (some (b2, 0)) 0), (4, vi s0.1), (5, ptr (some (g0_, 0)) 0), (18, vi s1.1)]) (fun s1 g1_ => [⟨some (b2, 0), eF (fun p : BitVec 64 × BitVec 64 => [v64 p.1, v64 p.2]) s1.2.toList⟩, ⟨some (b2, 32), e64 ((Vector.replicate 16 0#64).toList)⟩, ⟨some (b2, 48), [v64 0#64]⟩, ⟨some (b2, 49), [v64 0#64]⟩, ⟨some (g0_, 0), [v64 s0.2.2.1]⟩, ⟨some (g0_, 1), [v64 s0.2.2.2]⟩]) (fun t g => [(3, ptr (some (b2, 0)) 0), (4, vi s0.1), (5, ptr (some (g0_, 0)) 0)]) (fun t g => [⟨some (b2, 0), eF (fun p : BitVec 64 × BitVec 64 => [v64 p.1, v64 p.2]) t.toList⟩, ⟨some (b2, 32), e64 ((Vector.replicate 16 0#64).toList)⟩, ⟨some (b2, 48), [v64 0#64]⟩, ⟨some (b2, 49), [v64 0#64]⟩, ⟨some (g0_, 0), [v64 s0.2.2.1]⟩, ⟨some (g0_, 1), [v64 s0.2.2.2]⟩]) ?_ BIG (0, s0.2.1) () t_2 Hl ?_
      · intro s1 g1_ r1 H K hK hE
        unfold gcm_newSum.b1 at H
        refine TC_seq ?_
        refine TC_region ?_
        refine TL_v rfl rfl rfl (V_bin rfl rfl (fun w => lssI w s1.1 16)) ?_
        refine TL_nil ?_
        refine TX_next ?_
        refine TC_seq ?_
        refine TC_cond (b := (decide (s1.1 < 16))) rfl (fun hc => ?_) (fun hc => ?_)
        · replace H := ite_t (of_decide_eq_true hc) H
          refine TC_skip ?_
          refine TX_next ?_
          refine TC_seq ?_
          refine TC_block ?_
          refine TC_seq ?_
          refine TC_region ?_
          refine TL_v rfl rfl rfl (V_move rfl) ?_
          refine TL_v rfl rfl rfl (V_assign rfl) ?_
          refine TL_nil ?_
          refine TX_next ?_
          refine TC_seq ?_
          refine TC_region ?_
          refine TL_v rfl rfl rfl (V_move rfl) ?_
          refine TL_v rfl rfl rfl (V_move rfl) ?_
          refine TL_v rfl rfl rfl (V_bin rfl rfl (fun w => andI w s1.1 s0.1)) ?_
          refine TL_v rfl rfl rfl (V_bin rfl rfl (fun w => neqI w (iop (· &&& ·) s1.1 s0.1) 0)) ?_
          refine TL_nil ?_
          refine TX_next ?_
          refine TC_cond (b := (decide ((iop (· &&& ·) s1.1 s0.1) ≠ 0))) rfl (fun hc => ?_) (fun hc => ?_)
          · replace H := ite_t (of_decide_eq_true hc) H
            refine TC_seq ?_
            obtain ⟨h1, H⟩ := if_elim H
            obtain ⟨h2, H⟩ := if_elim H
            obtain ⟨m_1, hm_1, H⟩ := ltt_elim H
            refine TA_begin [⟨some (b2, 0), eF (fun p : BitVec 64 × BitVec 64 => [v64 p.1, v64 p.2]) s1.2.toList⟩, ⟨some (b2, 32), e64 ((Vector.replicate 16 0#64).toList)⟩, ⟨some (b2, 48), [v64 0#64]⟩, ⟨some (b2, 49), [v64 0#64]⟩, ⟨some (g0_, 0), [v64 s0.2.2.1]⟩, ⟨some (g0_, 1), [v64 s0.2.2.2]⟩] 14 (by kernel_rfl) (N := 15) rfl ?_
            refine TA_take (i := 0) (is := [0, 0, 0, 0, 0, 0]) (done' := #[true, false, false, false, false, false, false, false, false, false, false, false, false, false, false]) rfl rfl rfl rfl (by kernel_rfl) (QP.then (QP.block (QP.then (QP.then (QP.block (QP.block (QP.then (QP.then (QP.block (QP.then QP.body)))))))))) (by kernel_rfl) rfl (V_move rfl) ?_
            refine TA_take (i := 1) (is := [0, 0, 0, 0, 0, 0]) (done' := #[true, true, false, false, false, false, false, false, false, false, false, false, false, false, false]) rfl rfl rfl rfl (by kernel_rfl) (QP.then (QP.block (QP.then (QP.then (QP.block (QP.block (QP.then (QP.then (QP.block (QP.then QP.body)))))))))) (by kernel_rfl) rfl (V_move rfl) ?_
            refine TA_take (i := 2) (is := [0, 0, 0, 0, 0, 0]) (done' := #[true, true, true, false, false, false, false, false, false, false, false, false, false, false, false]) rfl rfl rfl rfl (by kernel_rfl) (QP.then (QP.block (QP.then (QP.then (QP.block (QP.block (QP.then (QP.then (QP.block (QP.then QP.body)))))))))) (by kernel_rfl) rfl (V_nilCheck rfl) ?_
            refine TA_take (i := 3) (is := [0, 0, 0, 0, 0, 0]) (done' := #[true, true, true, true, false, false, false, false, false, false, false, false, false, false, false]) rfl rfl rfl rfl (by kernel_rfl) (QP.then (QP.block (QP.then (QP.then (QP.block (QP.block (QP.then (QP.then (QP.block (QP.then QP.body)))))))))) (by kernel_rfl) rfl (V_fieldE rfl Try.underlying108 rfl rfl TryI.inf105 rfl (v := ptr (some (b2, 0)) 0) rfl) ?_
            refine TA_take (i := 4) (is := [0, 0, 0, 0, 0, 0]) (done' := #[true, true, true, true, true, false, false, false, false, false, false, false, false, false, false]) rfl rfl rfl rfl (by kernel_rfl) (QP.then (QP.block (QP.then (QP.then (QP.block (QP.block (QP.then (QP.then (QP.block (QP.then QP.body)))))))))) (by kernel_rfl) rfl (V_idxArr (i := s1.1) rfl rfl Try.underlying105 TryI.inf103 rfl h1.1 h1.2 (k := ((s1.1).toNat) * 2) (k0 _ _)) ?_
            refine TA_take (i := 5) (is := [0, 0, 0, 0, 0, 0]) (done' := #[true, true, true, true, true, true, false, false, false, false, false, false, false, false, false]) rfl rfl rfl rfl (by kernel_rfl) (QP.then (QP.block (QP.then (QP.then (QP.block (QP.block (QP.then (QP.then (QP.block (QP.then QP.body)))))))))) (by kernel_rfl) rfl (V_field rfl Try.underlying103 rfl (k := 0) rfl TryI.inf81 rfl) ?_
            refine TA_take (i := 6) (is := [0, 0, 0, 0, 0, 0]) (done' := #[true, true, true, true, true, true, true, false, false, false, false, false, false, false, false]) rfl rfl rfl rfl (by kernel_rfl) (QP.then (QP.block (QP.then (QP.then (QP.block (QP.block (QP.then (QP.then (QP.block (QP.then QP.body)))))))))) (by kernel_rfl) rfl (V_load rfl (Src.own (j := 0) rfl) ((get_eF (g := fun p : BitVec 64 × BitVec 64 => [v64 p.1, v64 p.2]) (s := 2) (fun _ => rfl) s1.2.toList ((s1.1).toNat) 0 (lt_list (toNat_lt h1.1 h1.2)) (by decide : 0 < 2)).trans rfl) Try.isAgg81) ?_
            refine TA_take (i := 7) (is := [0, 0, 0, 0, 0, 0]) (done' := #[true, true, true, true, true, true, true, true, false, false, false, false, false, false, false]) rfl rfl rfl rfl (by kernel_rfl) (QP.then (QP.block (QP.then (QP.then (QP.block (QP.block (QP.then (QP.then (QP.block (QP.then QP.body)))))))))) (by kernel_rfl) rfl (V_fieldE rfl Try.underlying103 rfl rfl TryI.inf81 rfl (v := ptr (some (g0_, 0)) 0) rfl) ?_
            refine TA_take (i := 8) (is := [0, 0, 0, 0, 0, 0]) (done' := #[true, true, true, true, true, true, true, true, true, false, false, false, false, false, false]) rfl rfl rfl rfl (by kernel_rfl) (QP.then (QP.block (QP.then (QP.then (QP.block (QP.block (QP.then (QP.then (QP.block (QP.then QP.body)))))))))) (by kernel_rfl) rfl (V_load rfl (Src.own (j := 4) rfl) rfl Try.isAgg81) ?_
            refine TA_take (i := 9) (is := [0, 0, 0, 0, 0, 0]) (done' := #[true, true, true, true, true, true, true, true, true, true, false, false, false, false, false]) rfl rfl rfl rfl (by kernel_rfl) (QP.then (QP.block (QP.then (QP.then (QP.block (QP.block (QP.then (QP.then (QP.block (QP.then QP.body)))))))))) (by kernel_rfl) rfl (V_bin rfl rfl (fun w => xor64 w ((vg s1.2 ((s1.1).toNat)).1) s0.2.2.1)) ?_
            refine TA_all (rs := [10]) (by kernel_rfl) rfl ?_
            refine ⟨?_, trivial⟩
            refine TO_v (is := [0, 0, 0, 0, 0, 0]) (done' := #[true, true, true, true, true, true, true, true, true, true, true, false, false, false, false]) rfl rfl rfl rfl (by kernel_rfl) (V_nilCheck rfl) (fun _ => rfl) ?_
            refine TA_all (rs := [11]) (by kernel_rfl) rfl ?_
            refine ⟨?_, trivial⟩
            refine TO_v (is := [0, 0, 0, 0, 0, 0]) (done' := #[true, true, true, true, true, true, true, true, true, true, true, true, false, false, false]) rfl rfl rfl rfl (by kernel_rfl) (V_fieldE rfl Try.underlying108 rfl rfl TryI.inf105 rfl (v := ptr (some (b2, 0)) 0) rfl) (fun _ => rfl) ?_
            refine TA_all (rs := [12]) (by kernel_rfl) rfl ?_
            refine ⟨?_, trivial⟩
            refine TO_v (is := [0, 0, 0, 0, 0, 0]) (done' := #[true, true, true, true, true, true, true, true, true, true, true, true, true, false, false]) rfl rfl rfl rfl (by kernel_rfl) (V_idxArr (i := s1.1) rfl rfl Try.underlying105 TryI.inf103 rfl h2.1 h2.2 (k := ((s1.1).toNat) * 2) (k0 _ _)) (fun _ => rfl) ?_
            refine TA_take (i := 13) (is := [0, 0, 0, 0, 0, 0]) (done' := #[true, true, true, true, true, true, true, true, true, true, true, true, true, true, false]) rfl rfl rfl rfl (by kernel_rfl) (QP.then (QP.block (QP.then (QP.then (QP.block (QP.block (QP.then (QP.then (QP.block (QP.then QP.body)))))))))) (by kernel_rfl) rfl (V_field rfl Try.underlying103 rfl (k := 0) rfl TryI.inf81 rfl) ?_
            refine TA_all (rs := [14]) (by kernel_rfl) rfl ?_
            refine ⟨?_, trivial⟩
            refine TO_n (is := []) (R := fun _ => []) (done' := #[true, true, true, true, true, true, true, true, true, true, true, true, true, true, true]) rfl rfl rfl (by kernel_rfl) (E_store (j := 0) rfl rfl TryI.inf81 rfl rfl rfl (lt_eF (g := fun p : BitVec 64 × BitVec 64 => [v64 p.1, v64 p.2]) (s := 2) (fun _ => rfl) (lt_list (toNat_lt h2.1 h2.2)) (by decide : 0 < 2)) (cs' := eF (fun p : BitVec 64 × BitVec 64 => [v64 p.1, v64 p.2]) ((vp s1.2 ((s1.1).toNat) ((((vg s1.2 ((s1.1).toNat)).1) ^^^ s0.2.2.1), (vg s1.2 ((s1.1).toNat)).2)).toList)) (set_vF (g := fun p : BitVec 64 × BitVec 64 => [v64 p.1, v64 p.2]) (s := 2) (fun _ => rfl) s1.2 ((s1.1).toNat) 0 _ _ (toNat_lt h2.1 h2.2) (by decide : 0 < 2) rfl)) (fun h => by cases h) (fun _ => ?_)
            refine TA_reE (j := 0) (A := some (b2, 0)) (cs := eF (fun p : BitVec 64 × BitVec 64 => [v64 p.1, v64 p.2]) ((vp s1.2 ((s1.1).toNat) ((((vg s1.2 ((s1.1).toNat)).1) ^^^ s0.2.2.1), (vg s1.2 ((s1.1).toNat)).2)).toList)) (cs' := eF (fun p : BitVec 64 × BitVec 64 => [v64 p.1, v64 p.2]) m_1.toList) rfl (congrArg (fun z : Vector (BitVec 64 × BitVec 64) 16 => eF (fun p : BitVec 64 × BitVec 64 => [v64 p.1, v64 p.2]) (Vector.toList z)) hm_1) ?_
            refine TA_done (by kernel_rfl) ?_ 0
            refine TX_next ?_
            obtain ⟨h3, H⟩ := if_elim H
            obtain ⟨h4, H⟩ := if_elim H
            obtain ⟨m_2, hm_2, H⟩ := ltt_elim H
            refine TA_begin [⟨some (b2, 0), eF (fun p : BitVec 64 × BitVec 64 => [v64 p.1, v64 p.2]) m_1.toList⟩, ⟨some (b2, 32), e64 ((Vector.replicate 16 0#64).toList)⟩, ⟨some (b2, 48), [v64 0#64]⟩, ⟨some (b2, 49), [v64 0#64]⟩, ⟨some (g0_, 0), [v64 s0.2.2.1]⟩, ⟨some (g0_, 1), [v64 s0.2.2.2]⟩] 14 (by kernel_rfl) (N := 15) rfl ?_
            refine TA_take (i := 0) (is := [0, 0, 0, 0, 0, 0]) (done' := #[true, false, false, false, false, false, false, false, false, false, false, false, false, false, false]) rfl rfl rfl rfl (by kernel_rfl) (QP.block (QP.then (QP.then (QP.block (QP.block (QP.then (QP.then (QP.block (QP.then QP.body))))))))) (by kernel_rfl) rfl (V_move rfl) ?_
            refine TA_take (i := 1) (is := [0, 0, 0, 0, 0, 0]) (done' := #[true, true, false, false, false, false, false, false, false, false, false, false, false, false, false]) rfl rfl rfl rfl (by kernel_rfl) (QP.block (QP.then (QP.then (QP.block (QP.block (QP.then (QP.then (QP.block (QP.then QP.body))))))))) (by kernel_rfl) rfl (V_move rfl) ?_
            refine TA_take (i := 2) (is := [0, 0, 0, 0, 0, 0]) (done' := #[true, true, true, false, false, false, false, false, false, false, false, false, false, false, false]) rfl rfl rfl rfl (by kernel_rfl) (QP.block (QP.then (QP.then (QP.block (QP.block (QP.then (QP.then (QP.block (QP.then QP.body))))))))) (by kernel_rfl) rfl (V_nilCheck rfl) ?_
            refine TA_take (i := 3) (is := [0, 0, 0, 0, 0, 0]) (done' := #[true, true, true, true, false, false, false, false, false, false, false, false, false, false, false]) rfl rfl rfl rfl (by kernel_rfl) (QP.block (QP.then (QP.then (QP.block (QP.block (QP.then (QP.then (QP.block (QP.then QP.body))))))))) (by kernel_rfl) rfl (V_fieldE rfl Try.underlying108 rfl rfl TryI.inf105 rfl (v := ptr (some (b2, 0)) 0) rfl) ?_
            refine TA_take (i := 4) (is := [0, 0, 0, 0, 0, 0]) (done' := #[true, true, true, true, true, false, false, false, false, false, false, false, false, false, false]) rfl rfl rfl rfl (by kernel_rfl) (QP.block (QP.then (QP.then (QP.block (QP.block (QP.then (QP.then (QP.block (QP.then QP.body))))))))) (by kernel_rfl) rfl (V_idxArr (i := s1.1) rfl rfl Try.underlying105 TryI.inf103 rfl h3.1 h3.2 (k := ((s1.1).toNat) * 2) (k0 _ _)) ?_
            refine TA_take (i := 5) (is := [0, 0, 0, 0, 0, 0]) (done' := #[true, true, true, true, true, true, false, false, false, false, false, false, false, false, false]) rfl rfl rfl rfl (by kernel_rfl) (QP.block (QP.then (QP.then (QP.block (QP.block (QP.then (QP.then (QP.block (QP.then QP.body))))))))) (by kernel_rfl) rfl (V_field rfl Try.underlying103 rfl (k := 1) rfl TryI.inf81 rfl) ?_
            refine TA_take (i := 6) (is := [0, 0, 0, 0, 0, 0]) (done' := #[true, true, true, true, true, true, true, false, false, false, false, false, false, false, false]) rfl rfl rfl rfl (by kernel_rfl) (QP.block (QP.then (QP.then (QP.block (QP.block (QP.then (QP.then (QP.block (QP.then QP.body))))))))) (by kernel_rfl) rfl (V_load rfl (Src.own (j := 0) rfl) ((get_eF (g := fun p : BitVec 64 × BitVec 64 => [v64 p.1, v64 p.2]) (s := 2) (fun _ => rfl) m_1.toList ((s1.1).toNat) 1 (lt_list (toNat_lt h3.1 h3.2)) (by decide : 1 < 2)).trans rfl) Try.isAgg81) ?_
            refine TA_take (i := 7) (is := [0, 0, 0, 0, 0, 0]) (done' := #[true, true, true, true, true, true, true, true, false, false, false, false, false, false, false]) rfl rfl rfl rfl (by kernel_rfl) (QP.block (QP.then (QP.then (QP.block (QP.block (QP.then (QP.then (QP.block (QP.then QP.body))))))))) (by kernel_rfl) rfl (V_fieldE rfl Try.underlying103 rfl rfl TryI.inf81 rfl (v := ptr (some (g0_, 1)) 0) rfl) ?_
            refine TA_take (i := 8) (is := [0, 0, 0, 0, 0, 0]) (done' := #[true, true, true, true, true, true, true, true, true, false, false, false, false, false, false]) rfl rfl rfl rfl (by kernel_rfl) (QP.block (QP.then (QP.then (QP.block (QP.block (QP.then (QP.then (QP.block (QP.then QP.body))))))))) (by kernel_rfl) rfl (V_load rfl (Src.own (j := 5) rfl) rfl Try.isAgg81) ?_
            refine TA_take (i := 9) (is := [0, 0, 0, 0, 0, 0]) (done' := #[true, true, true, true, true, true, true, true, true, true, false, false, false, false, false]) rfl rfl rfl rfl (by kernel_rfl) (QP.block (QP.then (QP.then (QP.block (QP.block (QP.then (QP.then (QP.block (QP.then QP.body))))))))) (by kernel_rfl) rfl (V_bin rfl rfl (fun w => xor64 w ((vg m_1 ((s1.1).toNat)).2) s0.2.2.2)) ?_
            refine TA_all (rs := [10]) (by kernel_rfl) rfl ?_
            refine ⟨?_, trivial⟩
            refine TO_v (is := [0, 0, 0, 0, 0, 0]) (done' := #[true, true, true, true, true, true, true, true, true, true, true, false, false, false, false]) rfl rfl rfl rfl (by kernel_rfl) (V_nilCheck rfl) (fun _ => rfl) ?_
            refine TA_all (rs := [11]) (by kernel_rfl) rfl ?_
            refine ⟨?_, trivial⟩
            refine TO_v (is := [0, 0, 0, 0, 0, 0]) (done' := #[true, true, true, true, true, true, true, true, true, true, true, true, false, false, false]) rfl rfl rfl rfl (by kernel_rfl) (V_fieldE rfl Try.underlying108 rfl rfl TryI.inf105 rfl (v := ptr (some (b2, 0)) 0) rfl) (fun _ => rfl) ?_
            refine TA_all (rs := [12]) (by kernel_rfl) rfl ?_
            refine ⟨?_, trivial⟩
            refine TO_v (is := [0, 0, 0, 0, 0, 0]) (done' := #[true, true, true, true, true, true, true, true, true, true, true, true, true, false, false]) rfl rfl rfl rfl (by kernel_rfl) (V_idxArr (i := s1.1) rfl rfl Try.underlying105 TryI.inf103 rfl h4.1 h4.2 (k := ((s1.1).toNat) * 2) (k0 _ _)) (fun _ => rfl) ?_
            refine TA_take (i := 13) (is := [0, 0, 0, 0, 0, 0]) (done' := #[true, true, true, true, true, true, true, true, true, true, true, true, true, true, false]) rfl rfl rfl rfl (by kernel_rfl) (QP.block (QP.then (QP.then (QP.block (QP.block (QP.then (QP.then (QP.block (QP.then QP.body))))))))) (by kernel_rfl) rfl (V_field rfl Try.underlying103 rfl (k := 1) rfl TryI.inf81 rfl) ?_
            refine TA_all (rs := [14]) (by kernel_rfl) rfl ?_
            refine ⟨?_, trivial⟩
            refine TO_n (is := []) (R := fun _ => []) (done' := #[true, true, true, true, true, true, true, true, true, true, true, true, true, true, true]) rfl rfl rfl (by kernel_rfl) (E_store (j := 0) rfl rfl TryI.inf81 rfl rfl rfl (lt_eF (g := fun p : BitVec 64 × BitVec 64 => [v64 p.1, v64 p.2]) (s := 2) (fun _ => rfl) (lt_list (toNat_lt h4.1 h4.2)) (by decide : 1 < 2)) (cs' := eF (fun p : BitVec 64 × BitVec 64 => [v64 p.1, v64 p.2]) ((vp m_1 ((s1.1).toNat) ((vg m_1 ((s1.1).toNat)).1, (((vg m_1 ((s1.1).toNat)).2) ^^^ s0.2.2.2))).toList)) (set_vF (g := fun p : BitVec 64 × BitVec 64 => [v64 p.1, v64 p.2]) (s := 2) (fun _ => rfl) m_1 ((s1.1).toNat) 1 _ _ (toNat_lt h4.1 h4.2) (by decide : 1 < 2) rfl)) (fun h => by cases h) (fun _ => ?_)
            refine TA_reE (j := 0) (A := some (b2, 0)) (cs := eF (fun p : BitVec 64 × BitVec 64 => [v64 p.1, v64 p.2]) ((vp m_1 ((s1.1).toNat) ((vg m_1 ((s1.1).toNat)).1, (((vg m_1 ((s1.1).toNat)).2) ^^^ s0.2.2.2))).toList)) (cs' := eF (fun p : BitVec 64 × BitVec 64 => [v64 p.1, v64 p.2]) m_2.toList) rfl (congrArg (fun z : Vector (BitVec 64 × BitVec 64) 16 => eF (fun p : BitVec 64 × BitVec 64 => [v64 p.1, v64 p.2]) (Vector.toList z)) hm_2) ?_
            refine TA_done (by kernel_rfl) ?_ 0
            refine TX_block_normal ?_
            refine TX_next ?_
            refine TC.sub (m' := [(3, ptr (some (b2, 0)) 0), (4, vi s0.1), (5, ptr (some (g0_, 0)) 0), (18, vi s1.1)]) ⟨rfl, rfl, rfl, rfl, trivial⟩ ?_
            refine TC_region ?_
            refine TL_v rfl rfl rfl (V_bin rfl rfl (fun w => addI w s1.1 1)) ?_
            refine TL_v rfl rfl rfl (V_move rfl) ?_
            refine TL_nil ?_
            refine TX.sub (m' := [(3, ptr (some (b2, 0)) 0), (4, vi s0.1), (5, ptr (some (g0_, 0)) 0), (18, vi (w64 (s1.1 + 1)))]) ⟨rfl, rfl, rfl, rfl, trivial⟩ ?_
            refine TX.pull (is := [0, 0, 0, 0, 0, 0]) (L' := [⟨some (b2, 0), eF (fun p : BitVec 64 × BitVec 64 => [v64 p.1, v64 p.2]) m_2.toList⟩, ⟨some (b2, 32), e64 ((Vector.replicate 16 0#64).toList)⟩, ⟨some (b2, 48), [v64 0#64]⟩, ⟨some (b2, 49), [v64 0#64]⟩, ⟨some (g0_, 0), [v64 s0.2.2.1]⟩, ⟨some (g0_, 1), [v64 s0.2.2.2]⟩]) rfl ?_
            obtain rfl := Option.some.inj H
            exact fun a w hs => hK (w64 (s1.1 + 1), m_2) rfl () a w hs
          · replace H := ite_f (of_decide_eq_false hc) H
            refine TC_skip ?_
            refine TX_block_normal ?_
            refine TX_next ?_
            refine TC_region ?_
            refine TL_v rfl rfl rfl (V_bin rfl rfl (fun w => addI w s1.1 1)) ?_
            refine TL_v rfl rfl rfl (V_move rfl) ?_
            refine TL_nil ?_
            refine TX.sub (m' := [(3, ptr (some (b2, 0)) 0), (4, vi s0.1), (5, ptr (some (g0_, 0)) 0), (18, vi (w64 (s1.1 + 1)))]) ⟨rfl, rfl, rfl, rfl, trivial⟩ ?_
            refine TX.pull (is := [0, 0, 0, 0, 0, 0]) (L' := [⟨some (b2, 0), eF (fun p : BitVec 64 × BitVec 64 => [v64 p.1, v64 p.2]) s1.2.toList⟩, ⟨some (b2, 32), e64 ((Vector.replicate 16 0#64).toList)⟩, ⟨some (b2, 48), [v64 0#64]⟩, ⟨some (b2, 49), [v64 0#64]⟩, ⟨some (g0_, 0), [v64 s0.2.2.1]⟩, ⟨some (g0_, 1), [v64 s0.2.2.2]⟩]) rfl ?_
            obtain rfl := Option.some.inj H
            exact fun a w hs => hK (w64 (s1.1 + 1), s1.2) rfl () a w hs
        · replace H := ite_f (of_decide_eq_false hc) H
          refine TC_exit ?_
          refine TX_then_exit ?_
          refine TX_then_exit ?_
          refine TX.sub (m' := [(3, ptr (some (b2, 0)) 0), (4, vi s0.1), (5, ptr (some (g0_, 0)) 0)]) ⟨rfl, rfl, rfl, trivial⟩ ?_
          refine TX.pull (is := [0, 0, 0, 0, 0, 0]) (L' := [⟨some (b2, 0), eF (fun p : BitVec 64 × BitVec 64 => [v64 p.1, v64 p.2]) s1.2.toList⟩, ⟨some (b2, 32), e64 ((Vector.replicate 16 0#64).toList)⟩, ⟨some (b2, 48), [v64 0#64]⟩, ⟨some (b2, 49), [v64 0#64]⟩, ⟨some (g0_, 0), [v64 s0.2.2.1]⟩, ⟨some (g0_, 1), [v64 s0.2.2.2]⟩]) rfl ?_
          obtain rfl := Option.some.inj H
          exact hE s1.2 rfl ()
      · intro g
        refine TX_block_exit ?_
        refine TX_block_normal ?_
        refine TX_next ?_
        refine TC_seq ?_
        refine TC_seq ?_
        refine TC_region ?_
        refine TL_v rfl rfl rfl (V_loadAgg (n := 2) (cs := flat [(1, [v64 s0.2.2.1]), (1, [v64 s0.2.2.2])]) rfl (by simp) (SrcEnts (b := g0_) [(1, [v64 s0.2.2.1]), (1, [v64 s0.2.2.2])] 0 ⟨rfl, rfl, trivial⟩ (AllSrc.all (M := ents g0_ 0 [(1, [v64 s0.2.2.1]), (1, [v64 s0.2.2.2])]) ⟨Src.own (j := 4) rfl, Src.own (j := 5) rfl, trivial⟩)) Try.isAgg103 TryI.inf103 rfl (flat_len ⟨rfl, rfl, trivial⟩ rfl)) ?_
        refine TL_nil ?_
        refine TX_next ?_
        refine TC_region ?_
        refine TL_e rfl rfl rfl (E_allocP [(1, [v64 0#64]), (1, [v64 0#64])] TryI.inf103 TryI.zer103 ⟨rfl, rfl, trivial⟩) (fun b4 => ?_)
        refine TL_n rfl rfl (E_storeParts (b := b4) (o := 0) (n := 2) (is := [0, 0]) [(1, [v64 0#64]), (1, [v64 0#64])] [(1, [v64 s0.2.2.1]), (1, [v64 s0.2.2.2])] rfl rfl rfl TryI.inf103 rfl ⟨rfl, rfl, trivial⟩ ⟨rfl, rfl, trivial⟩ (flat_len ⟨rfl, rfl, trivial⟩ rfl) (flat_len ⟨rfl, rfl, trivial⟩ rfl) (flat_onec ⟨(OneC.cons rfl OneC.nil), (OneC.cons rfl OneC.nil), trivial⟩)) (fun _ => ?_)
        refine TL_nil ?_
        refine TX_next ?_
        refine TC_region ?_
        refine TL_v rfl rfl rfl (V_move rfl) ?_
        refine TL_v rfl rfl rfl (V_bin rfl rfl (fun w => quoI w s0.1 2 (by decide))) ?_
        refine TL_v rfl rfl rfl (V_loadAgg (n := 2) (cs := flat [(1, [v64 s0.2.2.1]), (1, [v64 s0.2.2.2])]) rfl (by simp) (SrcEnts (b := b4) [(1, [v64 s0.2.2.1]), (1, [v64 s0.2.2.2])] 0 ⟨rfl, rfl, trivial⟩ (AllSrc.all (M := ents b4 0 [(1, [v64 s0.2.2.1]), (1, [v64 s0.2.2.2])]) ⟨Src.own (j := 0) rfl, Src.own (j := 1) rfl, trivial⟩)) Try.isAgg103 TryI.inf103 rfl (flat_len ⟨rfl, rfl, trivial⟩ rfl)) ?_
        obtain ⟨r_1, hr_1, H⟩ := bind_elim H
        refine TL_e rfl rfl rfl (E_call (Γ := Unit) (val := fun g => Value.agg (flat [(1, [v64 r_1.1]), (1, [v64 r_1.2])]).toArray) (mem := fun g => []) (vs := [Value.agg (flat [(1, [v64 s0.2.2.1]), (1, [v64 s0.2.2.2])]).toArray]) (Lin := []) (Ro := []) (is := []) rfl Try.call91 (F91_calls s0.2.2.1 s0.2.2.2 r_1 hr_1) rfl trivial) (fun g_1 => ?_)
        refine TL_v rfl rfl rfl (V_assign rfl) ?_
        obtain ⟨bit1, hbit1, H⟩ := ltt_elim H
        refine TL_re (d := 4) (v := vi (w64 (s0.1.tdiv 2))) (v' := vi bit1) rfl (congrArg vi hbit1) ?_
        refine TL_n rfl rfl (E_storeParts (b := b4) (o := 0) (n := 2) (is := [0, 0]) [(1, [v64 s0.2.2.1]), (1, [v64 s0.2.2.2])] [(1, [v64 r_1.1]), (1, [v64 r_1.2])] rfl rfl rfl TryI.inf103 rfl ⟨rfl, rfl, trivial⟩ ⟨rfl, rfl, trivial⟩ (flat_len ⟨rfl, rfl, trivial⟩ rfl) (flat_len ⟨rfl, rfl, trivial⟩ rfl) (flat_onec ⟨(OneC.cons rfl OneC.nil), (OneC.cons rfl OneC.nil), trivial⟩)) (fun _ => ?_)
        refine TL_nil ?_
        refine TX.sub (m' := [(3, ptr (some (b2, 0)) 0), (4, vi bit1), (5, ptr (some (b4, 0)) 0)]) ⟨rfl, rfl, rfl, trivial⟩ ?_
        refine TX.pull (is := [2, 2, 2, 2, 0, 0]) (L' := [⟨some (b2, 0), eF (fun p : BitVec 64 × BitVec 64 => [v64 p.1, v64 p.2]) t_2.toList⟩, ⟨some (b2, 32), e64 ((Vector.replicate 16 0#64).toList)⟩, ⟨some (b2, 48), [v64 0#64]⟩, ⟨some (b2, 49), [v64 0#64]⟩, ⟨some (b4, 0), [v64 r_1.1]⟩, ⟨some (b4, 1), [v64 r_1.2]⟩]) rfl ?_
        obtain rfl := Option.some.inj H
        exact fun a w hs => hK (bit1, t_2, r_1.1, r_1.2) rfl b4 a w hs
    · replace H := ite_f (of_decide_eq_false hc) H
      refine TC_exit ?_
      refine TX_then_exit ?_
      refine TX_then_exit ?_
      refine TX.sub (m' := [(3, ptr (some (b2, 0)) 0)]) ⟨rfl, trivial⟩ ?_
      refine TX.pull (is := [0, 0, 0, 0]) (L' := [⟨some (b2, 0), eF (fun p : BitVec 64 × BitVec 64 => [v64 p.1, v64 p.2]) s0.2.1.toList⟩, ⟨some (b2, 32), e64 ((Vector.replicate 16 0#64).toList)⟩, ⟨some (b2, 48), [v64 0#64]⟩, ⟨some (b2, 49), [v64 0#64]⟩]) rfl ?_
      obtain rfl := Option.some.inj H
      exact hE s0.2.1 rfl ()
  · intro g
    refine TX_block_exit ?_
    refine TX_next ?_
    refine TC_seq ?_
    refine TC_seq ?_
    refine TC_region ?_
    refine TL_v rfl rfl rfl (V_move rfl) ?_
    refine TL_nil ?_
    refine TX_next ?_
    refine TC_block ?_
    obtain ⟨t_3, Hl, H⟩ := bind_elim H
    refine TC.sub (m' := [(3, ptr (some (b2, 0)) 0), (55, vi 0)]) ⟨rfl, rfl, trivial⟩ ?_
    refine TC.pull (is := [0, 0, 0, 0]) (L' := [⟨some (b2, 0), eF (fun p : BitVec 64 × BitVec 64 => [v64 p.1, v64 p.2]) t_1.toList⟩, ⟨some (b2, 32), e64 ((Vector.replicate 16 0#64).toList)⟩, ⟨some (b2, 48), [v64 0#64]⟩, ⟨some (b2, 49), [v64 0#64]⟩]) rfl ?_
    refine TC_loopL (id := 4) (body := (gcm_newSum.b2)) (σ := Int × Vector (BitVec 64) 16) (Γ := Unit) (Γx := Unit) (fun s2 g2_ => [(3, ptr (some (b2, 0)) 0), (55, vi s2.1)]) (fun s2 g2_ => [⟨some (b2, 0), eF (fun p : BitVec 64 × BitVec 64 => [v64 p.1, v64 p.2]) t_1.toList⟩, ⟨some (b2, 32), e64 s2.2.toList⟩, ⟨some (b2, 48), [v64 0#64]⟩, ⟨some (b2, 49), [v64 0#64]⟩]) (fun t g => [(3, ptr (some (b2, 0)) 0)]) (fun t g => [⟨some (b2, 0), eF (fun p : BitVec 64 × BitVec 64 => [v64 p.1, v64 p.2]) t_1.toList⟩, ⟨some (b2, 32), e64 t.toList⟩, ⟨some (b2, 48), [v64 0#64]⟩, ⟨some (b2, 49), [v64 0#64]⟩]) ?_ BIG (0, Vector.replicate 16 0#64) () t_3 Hl ?_
    · intro s2 g2_ r1 H K hK hE
      unfold gcm_newSum.b2 at H
      refine TC_seq ?_
      refine TC_region ?_
      refine TL_v rfl rfl rfl (V_bin rfl rfl (fun w => lssI w s2.1 16)) ?_
      refine TL_nil ?_
      refine TX_next ?_
      refine TC_seq ?_
      refine TC_cond (b := (decide (s2.1 < 16))) rfl (fun hc => ?_) (fun hc => ?_)
      · replace H := ite_t (of_decide_eq_true hc) H
        refine TC_skip ?_
        refine TX_next ?_
        refine TC_seq ?_
        refine TC_block ?_
        refine TC_seq ?_
        refine TC_region ?_
        refine TL_v rfl rfl rfl (V_move rfl) ?_
        refine TL_v rfl rfl rfl (V_assign rfl) ?_
        refine TL_nil ?_
        refine TX_next ?_
        refine TC_seq ?_
        refine TC_region ?_
        refine TL_v rfl rfl rfl (V_move rfl) ?_
        refine TL_v rfl rfl rfl (V_conv rfl (fun w => cvI64 w _ _ Try.underlying81 (TryI.und3) .i64 s2.1)) ?_
        refine TL_v rfl rfl rfl (V_buildStruct (pv := [(0, v64 0#64), (1, v64 (BitVec.ofInt 64 s2.1))]) (pl := [(0, 1), (1, 1)]) rfl rfl Try.underlying103 TryI.inf103 TryI.places103 TryI.zer103 (cs := flat [(1, [v64 0#64]), (1, [v64 (BitVec.ofInt 64 s2.1)])]) (by kernel_rfl)) ?_
        refine TL_e rfl rfl rfl (E_allocP [(1, [v64 0#64]), (1, [v64 0#64])] TryI.inf103 TryI.zer103 ⟨rfl, rfl, trivial⟩) (fun b5 => ?_)
        refine TL_n rfl rfl (E_storeParts (b := b5) (o := 0) (n := 2) (is := [0, 0]) [(1, [v64 0#64]), (1, [v64 0#64])] [(1, [v64 0#64]), (1, [v64 (BitVec.ofInt 64 s2.1)])] rfl rfl rfl TryI.inf103 rfl ⟨rfl, rfl, trivial⟩ ⟨rfl, rfl, trivial⟩ (flat_len ⟨rfl, rfl, trivial⟩ rfl) (flat_len ⟨rfl, rfl, trivial⟩ rfl) (flat_onec ⟨(OneC.cons rfl OneC.nil), (OneC.cons rfl OneC.nil), trivial⟩)) (fun _ => ?_)
        refine TL_nil ?_
        refine TX_next ?_
        refine TC_seq ?_
        refine TC_seq ?_
        refine TC_region ?_
        refine TL_v rfl rfl rfl (V_move rfl) ?_
        refine TL_nil ?_
        refine TX_next ?_
        refine TC_block ?_
        obtain ⟨t_4, Hl, H⟩ := bind_elim H
        refine TC.sub (m' := [(3, ptr (some (b2, 0)) 0), (7, vi s2.1), (8, ptr (some (b5, 0)) 0), (55, vi s2.1), (61, vi 0)]) ⟨rfl, rfl, rfl, rfl, rfl, trivial⟩ ?_
        refine TC.pull (is := [2, 2, 2, 2, 0, 0]) (L' := [⟨some (b2, 0), eF (fun p : BitVec 64 × BitVec 64 => [v64 p.1, v64 p.2]) t_1.toList⟩, ⟨some (b2, 32), e64 s2.2.toList⟩, ⟨some (b2, 48), [v64 0#64]⟩, ⟨some (b2, 49), [v64 0#64]⟩, ⟨some (b5, 0), [v64 0#64]⟩, ⟨some (b5, 1), [v64 (BitVec.ofInt 64 s2.1)]⟩]) rfl ?_
        refine TC_loopL (id := 6) (body := (gcm_newSum.b3)) (σ := Int × BitVec 64 × BitVec 64) (Γ := Unit) (Γx := Unit) (fun s3 g3_ => [(3, ptr (some (b2, 0)) 0), (7, vi s2.1), (8, ptr (some (b5, 0)) 0), (55, vi s2.1), (61, vi s3.1)]) (fun s3 g3_ => [⟨some (b2, 0), eF (fun p : BitVec 64 × BitVec 64 => [v64 p.1, v64 p.2]) t_1.toList⟩, ⟨some (b2, 32), e64 s2.2.toList⟩, ⟨some (b2, 48), [v64 0#64]⟩, ⟨some (b2, 49), [v64 0#64]⟩, ⟨some (b5, 0), [v64 s3.2.1]⟩, ⟨some (b5, 1), [v64 s3.2.2]⟩]) (fun t g => [(3, ptr (some (b2, 0)) 0), (7, vi s2.1), (8, ptr (some (b5, 0)) 0), (55, vi s2.1)]) (fun t g => [⟨some (b2, 0), eF (fun p : BitVec 64 × BitVec 64 => [v64 p.1, v64 p.2]) t_1.toList⟩, ⟨some (b2, 32), e64 s2.2.toList⟩, ⟨some (b2, 48), [v64 0#64]⟩, ⟨some (b2, 49), [v64 0#64]⟩, ⟨some (b5, 0), [v64 t.1]⟩, ⟨some (b5, 1), [v64 t.2]⟩]) ?_ BIG (0, 0#64, BitVec.ofInt 64 s2.1) () t_4 Hl ?_
        · intro s3 g3_ r1 H K hK hE
          unfold gcm_newSum.b3 at H
          refine TC_seq ?_
          refine TC_region ?_
          refine TL_v rfl rfl rfl (V_bin rfl rfl (fun w => lssI w s3.1 4)) ?_
          refine TL_nil ?_
          refine TX_next ?_
          refine TC_seq ?_
          refine TC_cond (b := (decide (s3.1 < 4))) rfl (fun hc => ?_) (fun hc => ?_)
          · replace H := ite_t (of_decide_eq_true hc) H
            refine TC_skip ?_
            refine TX_next ?_
            refine TC_seq ?_
            refine TC_block ?_
            refine TC_region ?_
            refine TL_v rfl rfl rfl (V_loadAgg (n := 2) (cs := flat [(1, [v64 s3.2.1]), (1, [v64 s3.2.2])]) rfl (by simp) (SrcEnts (b := b5) [(1, [v64 s3.2.1]), (1, [v64 s3.2.2])] 0 ⟨rfl, rfl, trivial⟩ (AllSrc.all (M := ents b5 0 [(1, [v64 s3.2.1]), (1, [v64 s3.2.2])]) ⟨Src.own (j := 4) rfl, Src.own (j := 5) rfl, trivial⟩)) Try.isAgg103 TryI.inf103 rfl (flat_len ⟨rfl, rfl, trivial⟩ rfl)) ?_
            obtain ⟨r_2, hr_2, H⟩ := bind_elim H
            refine TL_e rfl rfl rfl (E_call (Γ := Unit) (val := fun g => Value.agg (flat [(1, [v64 r_2.1]), (1, [v64 r_2.2])]).toArray) (mem := fun g => []) (vs := [Value.agg (flat [(1, [v64 s3.2.1]), (1, [v64 s3.2.2])]).toArray]) (Lin := []) (Ro := []) (is := []) rfl Try.call91 (F91_calls s3.2.1 s3.2.2 r_2 hr_2) rfl trivial) (fun g_2 => ?_)
            refine TL_n rfl rfl (E_storeParts (b := b5) (o := 0) (n := 2) (is := [4, 4]) [(1, [v64 s3.2.1]), (1, [v64 s3.2.2])] [(1, [v64 r_2.1]), (1, [v64 r_2.2])] rfl rfl rfl TryI.inf103 rfl ⟨rfl, rfl, trivial⟩ ⟨rfl, rfl, trivial⟩ (flat_len ⟨rfl, rfl, trivial⟩ rfl) (flat_len ⟨rfl, rfl, trivial⟩ rfl) (flat_onec ⟨(OneC.cons rfl OneC.nil), (OneC.cons rfl OneC.nil), trivial⟩)) (fun _ => ?_)
            refine TL_nil ?_
            refine TX_block_normal ?_
            refine TX_next ?_
            refine TC_region ?_
            refine TL_v rfl rfl rfl (V_bin rfl rfl (fun w => addI w s3.1 1)) ?_
            refine TL_v rfl rfl rfl (V_move rfl) ?_
            refine TL_nil ?_
            refine TX.sub (m' := [(3, ptr (some (b2, 0)) 0), (7, vi s2.1), (8, ptr (some (b5, 0)) 0), (55, vi s2.1), (61, vi (w64 (s3.1 + 1)))]) ⟨rfl, rfl, rfl, rfl, rfl, trivial⟩ ?_
            refine TX.pull (is := [2, 2, 2, 2, 0, 0]) (L' := [⟨some (b2, 0), eF (fun p : BitVec 64 × BitVec 64 => [v64 p.1, v64 p.2]) t_1.toList⟩, ⟨some (b2, 32), e64 s2.2.toList⟩, ⟨some (b2, 48), [v64 0#64]⟩, ⟨some (b2, 49), [v64 0#64]⟩, ⟨some (b5, 0), [v64 r_2.1]⟩, ⟨some (b5, 1), [v64 r_2.2]⟩]) rfl ?_
            obtain rfl := Option.some.inj H
            exact fun a w hs => hK (w64 (s3.1 + 1), r_2.1, r_2.2) rfl () a w hs
          · replace H := ite_f (of_decide_eq_false hc) H
            refine TC_exit ?_
            refine TX_then_exit ?_
            refine TX_then_exit ?_
            refine TX.sub (m' := [(3, ptr (some (b2, 0)) 0), (7, vi s2.1), (8, ptr (some (b5, 0)) 0), (55, vi s2.1)]) ⟨rfl, rfl, rfl, rfl, trivial⟩ ?_
            refine TX.pull (is := [0, 0, 0, 0, 0, 0]) (L' := [⟨some (b2, 0), eF (fun p : BitVec 64 × BitVec 64 => [v64 p.1, v64 p.2]) t_1.toList⟩, ⟨some (b2, 32), e64 s2.2.toList⟩, ⟨some (b2, 48), [v64 0#64]⟩, ⟨some (b2, 49), [v64 0#64]⟩, ⟨some (b5, 0), [v64 s3.2.1]⟩, ⟨some (b5, 1), [v64 s3.2.2]⟩]) rfl ?_
            obtain rfl := Option.some.inj H
            exact hE (s3.2.1, s3.2.2) rfl ()
        · intro g
          refine TX_block_exit ?_
          refine TX_next ?_
          obtain ⟨h5, H⟩ := if_elim H
          obtain ⟨m_3, hm_3, H⟩ := ltt_elim H
          refine TA_begin [⟨some (b2, 0), eF (fun p : BitVec 64 × BitVec 64 => [v64 p.1, v64 p.2]) t_1.toList⟩, ⟨some (b2, 32), e64 s2.2.toList⟩, ⟨some (b2, 48), [v64 0#64]⟩, ⟨some (b2, 49), [v64 0#64]⟩, ⟨some (b5, 0), [v64 t_4.1]⟩, ⟨some (b5, 1), [v64 t_4.2]⟩] 7 (by kernel_rfl) (N := 8) rfl ?_
          refine TA_take (i := 0) (is := [0, 0, 0, 0, 0, 0]) (done' := #[true, false, false, false, false, false, false, false]) rfl rfl rfl rfl (by kernel_rfl) (QP.block (QP.then (QP.then (QP.block (QP.then QP.body))))) (by kernel_rfl) rfl (V_move rfl) ?_
          refine TA_take (i := 1) (is := [0, 0, 0, 0, 0, 0]) (done' := #[true, true, false, false, false, false, false, false]) rfl rfl rfl rfl (by kernel_rfl) (QP.block (QP.then (QP.then (QP.block (QP.then QP.body))))) (by kernel_rfl) rfl (V_move rfl) ?_
          refine TA_take (i := 2) (is := [0, 0, 0, 0, 0, 0]) (done' := #[true, true, true, false, false, false, false, false]) rfl rfl rfl rfl (by kernel_rfl) (QP.block (QP.then (QP.then (QP.block (QP.then QP.body))))) (by kernel_rfl) rfl (V_fieldE rfl Try.underlying103 rfl rfl TryI.inf81 rfl (v := ptr (some (b5, 0)) 0) rfl) ?_
          refine TA_take (i := 3) (is := [0, 0, 0, 0, 0, 0]) (done' := #[true, true, true, true, false, false, false, false]) rfl rfl rfl rfl (by kernel_rfl) (QP.block (QP.then (QP.then (QP.block (QP.then QP.body))))) (by kernel_rfl) rfl (V_load rfl (Src.own (j := 4) rfl) rfl Try.isAgg81) ?_
          refine TA_all (rs := [4]) (by kernel_rfl) rfl ?_
          refine ⟨?_, trivial⟩
          refine TO_v (is := [0, 0, 0, 0, 0, 0]) (done' := #[true, true, true, true, true, false, false, false]) rfl rfl rfl rfl (by kernel_rfl) (V_nilCheck rfl) (fun _ => rfl) ?_
          refine TA_all (rs := [5]) (by kernel_rfl) rfl ?_
          refine ⟨?_, trivial⟩
          refine TO_v (is := [0, 0, 0, 0, 0, 0]) (done' := #[true, true, true, true, true, true, false, false]) rfl rfl rfl rfl (by kernel_rfl) (V_fieldE rfl Try.underlying108 rfl rfl TryI.inf106 rfl (v := ptr (some (b2, 32)) 0) rfl) (fun _ => rfl) ?_
          refine TA_take (i := 6) (is := [0, 0, 0, 0, 0, 0]) (done' := #[true, true, true, true, true, true, true, false]) rfl rfl rfl rfl (by kernel_rfl) (QP.block (QP.then (QP.then (QP.block (QP.then QP.body))))) (by kernel_rfl) rfl (V_idxArr (i := s2.1) rfl rfl Try.underlying106 TryI.inf81 rfl h5.1 h5.2 (k := (s2.1).toNat) (k01 _)) ?_
          refine TA_all (rs := [7]) (by kernel_rfl) rfl ?_
          refine ⟨?_, trivial⟩
          refine TO_n (is := []) (R := fun _ => []) (done' := #[true, true, true, true, true, true, true, true]) rfl rfl rfl (by kernel_rfl) (E_store (j := 1) rfl rfl TryI.inf81 rfl rfl rfl (by simpa using (toNat_lt h5.1 h5.2)) (cs' := e64 ((vp s2.2 ((s2.1).toNat) t_4.1).toList)) set_vec) (fun h => by cases h) (fun _ => ?_)
          refine TA_reE (j := 1) (A := some (b2, 32)) (cs := e64 ((vp s2.2 ((s2.1).toNat) t_4.1).toList)) (cs' := e64 m_3.toList) rfl (congrArg (fun z : Vector (BitVec 64) 16 => e64 (Vector.toList z)) hm_3) ?_
          refine TA_done (by kernel_rfl) ?_ 0
          refine TX_block_normal ?_
          refine TX_next ?_
          refine TC_region ?_
          refine TL_v rfl rfl rfl (V_bin rfl rfl (fun w => addI w s2.1 1)) ?_
          refine TL_v rfl rfl rfl (V_move rfl) ?_
          refine TL_nil ?_
          refine TX.sub (m' := [(3, ptr (some (b2, 0)) 0), (55, vi (w64 (s2.1 + 1)))]) ⟨rfl, rfl, trivial⟩ ?_
          refine TX.pull (is := [0, 0, 0, 0]) (L' := [⟨some (b2, 0), eF (fun p : BitVec 64 × BitVec 64 => [v64 p.1, v64 p.2]) t_1.toList⟩, ⟨some (b2, 32), e64 m_3.toList⟩, ⟨some (b2, 48), [v64 0#64]⟩, ⟨some (b2, 49), [v64 0#64]⟩]) rfl ?_
          obtain rfl := Option.some.inj H
          exact fun a w hs => hK (w64 (s2.1 + 1), m_3) rfl () a w hs
      · replace H := ite_f (of_decide_eq_false hc) H
        refine TC_exit ?_
        refine TX_then_exit ?_
        refine TX_then_exit ?_
        refine TX.sub (m' := [(3, ptr (some (b2, 0)) 0)]) ⟨rfl, trivial⟩ ?_
        refine TX.pull (is := [0, 0, 0, 0]) (L' := [⟨some (b2, 0), eF (fun p : BitVec 64 × BitVec 64 => [v64 p.1, v64 p.2]) t_1.toList⟩, ⟨some (b2, 32), e64 s2.2.toList⟩, ⟨some (b2, 48), [v64 0#64]⟩, ⟨some (b2, 49), [v64 0#64]⟩]) rfl ?_
        obtain rfl := Option.some.inj H
        exact hE s2.2 rfl ()
    · intro g
      refine TX_block_exit ?_
      refine TX_next ?_
      refine TC_seq ?_
      refine TC_region ?_
      refine TL_v rfl rfl rfl (V_move rfl) ?_
      refine TL_v rfl rfl rfl (V_assign rfl) ?_
      refine TL_nil ?_
      refine TX_next ?_
      refine TC_ret ?_
      have hrv := Option.some.inj H
      subst hrv
      exact TX_ret (rs := [.tmp 2]) (vs := [ptr (some (b2, 0)) 0]) rfl ⟨rfl, trivial⟩ (fun w' hs' => ⟨b2, rfl, Step.left (Step.pulled (is := [0, 0, 0, 0]) (A := [⟨some (b2, 0), eF (fun p : BitVec 64 × BitVec 64 => [v64 p.1, v64 p.2]) t_1.toList⟩, ⟨some (b2, 32), e64 t_3.toList⟩, ⟨some (b2, 48), [v64 0#64]⟩, ⟨some (b2, 49), [v64 0#64]⟩]) hs' rfl)⟩)

end Go.Proofs
end

section
namespace Go.Proofs
open Go Go.Kx
set_option linter.unusedVariables false
set_option linter.unusedSimpArgs false
def gcm_sum_add.b0 (s_table : Vector (BitVec 64 × BitVec 64) 16) (s_folds : Vector (BitVec 64) 16) (s_y_high : BitVec 64) (s_y_low : BitVec 64) (r_1 : BitVec 64 × BitVec 64) (s0 : Int × BitVec 64 × BitVec 64) : Option ((Int × BitVec 64 × BitVec 64) ⊕ (BitVec 64 × BitVec 64)) :=
  if s0.1 < 32 then (if 0 ≤ w64 (4 * (s0.1.tmod 16)) then (ltt (((r_1.2 ^^^ s_y_low) >>> (w64 (4 * (s0.1.tmod 16))).toNat) &&& 15#64) fun (digit1 : BitVec 64) => ((if 16 ≤ s0.1 then (if 0 ≤ w64 (4 * (s0.1.tmod 16)) then (ltt (((r_1.1 ^^^ s_y_high) >>> (w64 (4 * (s0.1.tmod 16))).toNat) &&& 15#64) fun (digit2 : BitVec 64) => (some digit2)) else none) else (some digit1)).bind fun (j1 : BitVec 64) => (if 0 ≤ ((s0.2.2 &&& 15#64).toNat : Int) ∧ ((s0.2.2 &&& 15#64).toNat : Int) < (16 : Int) then (if 0 ≤ ((j1).toNat : Int) ∧ ((j1).toNat : Int) < (16 : Int) then (if 0 ≤ ((j1).toNat : Int) ∧ ((j1).toNat : Int) < (16 : Int) then (some (.inl (w64 (s0.1 + 1), ((s0.2.1 >>> 4) ^^^ (vg s_folds ((s0.2.2 &&& 15#64).toNat))) ^^^ ((vg s_table ((j1).toNat)).1), ((s0.2.2 >>> 4) ||| (s0.2.1 <<< 60)) ^^^ ((vg s_table ((j1).toNat)).2)))) else none) else none) else none))) else none) else (some (.inr (s0.2.1, s0.2.2)))

def gcm_sum_add (s_table : Vector (BitVec 64 × BitVec 64) 16) (s_folds : Vector (BitVec 64) 16) (s_y_high : BitVec 64) (s_y_low : BitVec 64) (b : List (BitVec 8)) : Option (BitVec 64 × BitVec 64) :=
  (gcm_load b).bind fun (r_1 : BitVec 64 × BitVec 64) => ((loop (gcm_sum_add.b0 s_table s_folds s_y_high s_y_low r_1) BIG (0, 0#64, 0#64)).bind fun (t_1 : BitVec 64 × BitVec 64) => (some (t_1.1, t_1.2)))

set_option maxHeartbeats 4000000 in
set_option maxRecDepth 20000 in
theorem F89_calls (bs : Nat) (obs : Nat) (Ab : Adr) (cb : Nat) (s_table : Vector (BitVec 64 × BitVec 64) 16) (s_folds : Vector (BitVec 64) 16) (s_y_high : BitVec 64) (s_y_low : BitVec 64) (b : List (BitVec 8)) (hcb : (b).length ≤ cb) (r : BitVec 64 × BitVec 64) (H : gcm_sum_add s_table s_folds s_y_high s_y_low b = some r) :
    Does Try.prog 89 [ptr (some (bs, obs)) 0, sl Ab ((b).length) cb] [⟨some (bs, obs + 48), [v64 s_y_high]⟩, ⟨some (bs, obs + 49), [v64 s_y_low]⟩] [⟨some (bs, obs), eF (fun p : BitVec 64 × BitVec 64 => [v64 p.1, v64 p.2]) s_table.toList⟩, ⟨some (bs, obs + 32), e64 s_folds.toList⟩, ⟨Ab, e8 b⟩] (Γ := Unit) (fun g => Value.tuple [].toArray) (fun g => [⟨some (bs, obs + 48), [v64 r.1]⟩, ⟨some (bs, obs + 49), [v64 r.2]⟩]) := by
  intro w hmem hro hd
  refine calls_of (N := 94) (m0 := [(0, ptr (some (bs, obs)) 0), (1, sl Ab ((b).length) cb)]) Try.func89 rfl Try.ntmps89 (argM_ok [ptr (some (bs, obs)) 0, sl Ab ((b).length) cb]) rfl hmem hro hd ?_
  unfold gcm_sum_add at H
  refine TC_seq ?_
  refine TC_region ?_
  refine TL_v rfl rfl rfl (V_move rfl) ?_
  obtain ⟨r_1, hr_1, H⟩ := bind_elim H
  refine TL_e rfl rfl rfl (E_call (Γ := Unit) (val := fun g => Value.agg (flat [(1, [v64 r_1.1]), (1, [v64 r_1.2])]).toArray) (mem := fun g => []) (vs := [sl Ab ((b).length) cb]) (Lin := []) (Ro := [⟨Ab, e8 b⟩]) (is := []) rfl Try.call70 (F70_calls Ab cb b hcb r_1 hr_1) rfl ⟨SrcD.ro (j := 2) rfl, trivial⟩) (fun g_1 => ?_)
  refine TL_e rfl rfl rfl (E_allocP [(1, [v64 0#64]), (1, [v64 0#64])] TryI.inf103 TryI.zer103 ⟨rfl, rfl, trivial⟩) (fun b1 => ?_)
  refine TL_n rfl rfl (E_storeParts (b := b1) (o := 0) (n := 2) (is := [0, 0]) [(1, [v64 0#64]), (1, [v64 0#64])] [(1, [v64 r_1.1]), (1, [v64 r_1.2])] rfl rfl rfl TryI.inf103 rfl ⟨rfl, rfl, trivial⟩ ⟨rfl, rfl, trivial⟩ (flat_len ⟨rfl, rfl, trivial⟩ rfl) (flat_len ⟨rfl, rfl, trivial⟩ rfl) (flat_onec ⟨(OneC.cons rfl OneC.nil), (OneC.cons rfl OneC.nil), trivial⟩)) (fun _ => ?_)
  refine TL_nil ?_
  refine TX_next ?_
  refine TC_seq ?_
  refine TA_begin [⟨some (b1, 0), [v64 r_1.1]⟩, ⟨some (b1, 1), [v64 r_1.2]⟩, ⟨some (bs, obs + 48), [v64 s_y_high]⟩, ⟨some (bs, obs + 49), [v64 s_y_low]⟩] 9 (by kernel_rfl) (N := 10) rfl ?_
  refine TA_take (i := 0) (is := [0, 0, 0, 0]) (done' := #[true, false, false, false, false, false, false, false, false, false]) rfl rfl rfl rfl (by kernel_rfl) (QP.then QP.body) (by kernel_rfl) rfl (V_fieldE rfl Try.underlying103 rfl rfl TryI.inf81 rfl (v := ptr (some (b1, 0)) 0) rfl) ?_
  refine TA_take (i := 1) (is := [0, 0, 0, 0]) (done' := #[true, true, false, false, false, false, false, false, false, false]) rfl rfl rfl rfl (by kernel_rfl) (QP.then QP.body) (by kernel_rfl) rfl (V_load rfl (Src.own (j := 0) rfl) rfl Try.isAgg81) ?_
  refine TA_take (i := 2) (is := [0, 0, 0, 0]) (done' := #[true, true, true, false, false, false, false, false, false, false]) rfl rfl rfl rfl (by kernel_rfl) (QP.then QP.body) (by kernel_rfl) rfl (V_move rfl) ?_
  refine TA_take (i := 3) (is := [0, 0, 0, 0]) (done' := #[true, true, true, true, false, false, false, false, false, false]) rfl rfl rfl rfl (by kernel_rfl) (QP.then QP.body) (by kernel_rfl) rfl (V_nilCheck rfl) ?_
  refine TA_take (i := 4) (is := [0, 0, 0, 0]) (done' := #[true, true, true, true, true, false, false, false, false, false]) rfl rfl rfl rfl (by kernel_rfl) (QP.then QP.body) (by kernel_rfl) rfl (V_fieldE rfl Try.underlying108 rfl rfl TryI.inf103 rfl (v := ptr (some (bs, obs + 48)) 0) rfl) ?_
  refine TA_take (i := 5) (is := [0, 0, 0, 0]) (done' := #[true, true, true, true, true, true, false, false, false, false]) rfl rfl rfl rfl (by kernel_rfl) (QP.then QP.body) (by kernel_rfl) rfl (V_fieldE rfl Try.underlying103 rfl rfl TryI.inf81 rfl (v := ptr (some (bs, obs + 48)) 0) rfl) ?_
  refine TA_take (i := 6) (is := [0, 0, 0, 0]) (done' := #[true, true, true, true, true, true, true, false, false, false]) rfl rfl rfl rfl (by kernel_rfl) (QP.then QP.body) (by kernel_rfl) rfl (V_load rfl (Src.own (j := 2) rfl) rfl Try.isAgg81) ?_
  refine TA_take (i := 7) (is := [0, 0, 0, 0]) (done' := #[true, true, true, true, true, true, true, true, false, false]) rfl rfl rfl rfl (by kernel_rfl) (QP.then QP.body) (by kernel_rfl) rfl (V_bin rfl rfl (fun w => xor64 w r_1.1 s_y_high)) ?_
  refine TA_take (i := 8) (is := [0, 0, 0, 0]) (done' := #[true, true, true, true, true, true, true, true, true, false]) rfl rfl rfl rfl (by kernel_rfl) (QP.then QP.body) (by kernel_rfl) rfl (V_fieldE rfl Try.underlying103 rfl rfl TryI.inf81 rfl (v := ptr (some (b1, 0)) 0) rfl) ?_
  refine TA_all (rs := [9]) (by kernel_rfl) rfl ?_
  refine ⟨?_, trivial⟩
  refine TO_n (is := []) (R := fun _ => []) (done' := #[true, true, true, true, true, true, true, true, true, true]) rfl rfl rfl (by kernel_rfl) (E_store (j := 0) rfl rfl TryI.inf81 rfl rfl rfl (Nat.lt_succ_self 0) (cs' := [v64 (r_1.1 ^^^ s_y_high)]) rfl) (fun h => by cases h) (fun _ => ?_)
  refine TA_done (by kernel_rfl) ?_ 0
  refine TX_next ?_
  refine TC_seq ?_
  refine TA_begin [⟨some (b1, 0), [v64 (r_1.1 ^^^ s_y_high)]⟩, ⟨some (b1, 1), [v64 r_1.2]⟩, ⟨some (bs, obs + 48), [v64 s_y_high]⟩, ⟨some (bs, obs + 49), [v64 s_y_low]⟩] 9 (by kernel_rfl) (N := 10) rfl ?_
  refine TA_take (i := 0) (is := [0, 0, 0, 0]) (done' := #[true, false, false, false, false, false, false, false, false, false]) rfl rfl rfl rfl (by kernel_rfl) (QP.then QP.body) (by kernel_rfl) rfl (V_fieldE rfl Try.underlying103 rfl rfl TryI.inf81 rfl (v := ptr (some (b1, 1)) 0) rfl) ?_
  refine TA_take (i := 1) (is := [0, 0, 0, 0]) (done' := #[true, true, false, false, false, false, false, false, false, false]) rfl rfl rfl rfl (by kernel_rfl) (QP.then QP.body) (by kernel_rfl) rfl (V_load rfl (Src.own (j := 1) rfl) rfl Try.isAgg81) ?_
  refine TA_take (i := 2) (is := [0, 0, 0, 0]) (done' := #[true, true, true, false, false, false, false, false, false, false]) rfl rfl rfl rfl (by kernel_rfl) (QP.then QP.body) (by kernel_rfl) rfl (V_move rfl) ?_
  refine TA_take (i := 3) (is := [0, 0, 0, 0]) (done' := #[true, true, true, true, false, false, false, false, false, false]) rfl rfl rfl rfl (by kernel_rfl) (QP.then QP.body) (by kernel_rfl) rfl (V_nilCheck rfl) ?_
  refine TA_take (i := 4) (is := [0, 0, 0, 0]) (done' := #[true, true, true, true, true, false, false, false, false, false]) rfl rfl rfl rfl (by kernel_rfl) (QP.then QP.body) (by kernel_rfl) rfl (V_fieldE rfl Try.underlying108 rfl rfl TryI.inf103 rfl (v := ptr (some (bs, obs + 48)) 0) rfl) ?_
  refine TA_take (i := 5) (is := [0, 0, 0, 0]) (done' := #[true, true, true, true, true, true, false, false, false, false]) rfl rfl rfl rfl (by kernel_rfl) (QP.then QP.body) (by kernel_rfl) rfl (V_fieldE rfl Try.underlying103 rfl rfl TryI.inf81 rfl (v := ptr (some (bs, obs + 49)) 0) rfl) ?_
  refine TA_take (i := 6) (is := [0, 0, 0, 0]) (done' := #[true, true, true, true, true, true, true, false, false, false]) rfl rfl rfl rfl (by kernel_rfl) (QP.then QP.body) (by kernel_rfl) rfl (V_load rfl (Src.own (j := 3) rfl) rfl Try.isAgg81) ?_
  refine TA_take (i := 7) (is := [0, 0, 0, 0]) (done' := #[true, true, true, true, true, true, true, true, false, false]) rfl rfl rfl rfl (by kernel_rfl) (QP.then QP.body) (by kernel_rfl) rfl (V_bin rfl rfl (fun w => xor64 w r_1.2 s_y_low)) ?_
  refine TA_take (i := 8) (is := [0, 0, 0, 0]) (done' := #[true, true, true, true, true, true, true, true, true, false]) rfl rfl rfl rfl (by kernel_rfl) (QP.then QP.body) (by kernel_rfl) rfl (V_fieldE rfl Try.underlying103 rfl rfl TryI.inf81 rfl (v := ptr (some (b1, 1)) 0) rfl) ?_
  refine TA_all (rs := [9]) (by kernel_rfl) rfl ?_
  refine ⟨?_, trivial⟩
  refine TO_n (is := []) (R := fun _ => []) (done' := #[true, true, true, true, true, true, true, true, true, true]) rfl rfl rfl (by kernel_rfl) (E_store (j := 1) rfl rfl TryI.inf81 rfl rfl rfl (Nat.lt_succ_self 0) (cs' := [v64 (r_1.2 ^^^ s_y_low)]) rfl) (fun h => by cases h) (fun _ => ?_)
  refine TA_done (by kernel_rfl) ?_ 0
  refine TX_next ?_
  refine TC_seq ?_
  refine TC_region ?_
  refine TL_e rfl rfl rfl (E_allocP [(1, [v64 0#64]), (1, [v64 0#64])] TryI.inf103 TryI.zer103 ⟨rfl, rfl, trivial⟩) (fun b2 => ?_)
  refine TL_nil ?_
  refine TX_next ?_
  refine TC_seq ?_
  refine TC_seq ?_
  refine TC_region ?_
  refine TL_v rfl rfl rfl (V_move rfl) ?_
  refine TL_nil ?_
  refine TX_next ?_
  refine TC_block ?_
  obtain ⟨t_1, Hl, H⟩ := bind_elim H
  refine TC.sub (m' := [(0, ptr (some (bs, obs)) 0), (4, ptr (some (b1, 0)) 0), (5, ptr (some (b2, 0)) 0), (28, vi 0)]) ⟨rfl, rfl, rfl, rfl, trivial⟩ ?_
  refine TC.pull (is := [4, 4, 2, 2, 0, 0]) (L' := [⟨some (bs, obs + 48), [v64 s_y_high]⟩, ⟨some (bs, obs + 49), [v64 s_y_low]⟩, ⟨some (b1, 0), [v64 (r_1.1 ^^^ s_y_high)]⟩, ⟨some (b1, 1), [v64 (r_1.2 ^^^ s_y_low)]⟩, ⟨some (b2, 0), [v64 0#64]⟩, ⟨some (b2, 1), [v64 0#64]⟩]) rfl ?_
  refine TC_loopL (id := 0) (body := (gcm_sum_add.b0 s_table s_folds s_y_high s_y_low r_1)) (σ := Int × BitVec 64 × BitVec 64) (Γ := Unit) (Γx := Unit) (fun s0 g0_ => [(0, ptr (some (bs, obs)) 0), (4, ptr (some (b1, 0)) 0), (5, ptr (some (b2, 0)) 0), (28, vi s0.1)]) (fun s0 g0_ => [⟨some (bs, obs + 48), [v64 s_y_high]⟩, ⟨some (bs, obs + 49), [v64 s_y_low]⟩, ⟨some (b1, 0), [v64 (r_1.1 ^^^ s_y_high)]⟩, ⟨some (b1, 1), [v64 (r_1.2 ^^^ s_y_low)]⟩, ⟨some (b2, 0), [v64 s0.2.1]⟩, ⟨some (b2, 1), [v64 s0.2.2]⟩]) (fun t g => [(0, ptr (some (bs, obs)) 0), (5, ptr (some (b2, 0)) 0)]) (fun t g => [⟨some (bs, obs + 48), [v64 s_y_high]⟩, ⟨some (bs, obs + 49), [v64 s_y_low]⟩, ⟨some (b2, 0), [v64 t.1]⟩, ⟨some (b2, 1), [v64 t.2]⟩]) ?_ BIG (0, 0#64, 0#64) () t_1 Hl ?_
  · intro s0 g0_ r1 H K hK hE
    unfold gcm_sum_add.b0 at H
    refine TC_seq ?_
    refine TC_region ?_
    refine TL_v rfl rfl rfl (V_bin rfl rfl (fun w => lssI w s0.1 32)) ?_
    refine TL_nil ?_
    refine TX_next ?_
    refine TC_seq ?_
    refine TC_cond (b := (decide (s0.1 < 32))) rfl (fun hc => ?_) (fun hc => ?_)
    · replace H := ite_t (of_decide_eq_true hc) H
      refine TC_skip ?_
      refine TX_next ?_
      refine TC_seq ?_
      refine TC_block ?_
      refine TC_seq ?_
      refine TC_region ?_
      refine TL_v rfl rfl rfl (V_move rfl) ?_
      refine TL_v rfl rfl rfl (V_assign rfl) ?_
      refine TL_nil ?_
      refine TX_next ?_
      refine TC_seq ?_
      refine TC_region ?_
      refine TL_v rfl rfl rfl (V_fieldE rfl Try.underlying103 rfl rfl TryI.inf81 rfl (v := ptr (some (b1, 1)) 0) rfl) ?_
      refine TL_v rfl rfl rfl (V_load rfl (Src.own (j := 3) rfl) rfl Try.isAgg81) ?_
      refine TL_v rfl rfl rfl (V_move rfl) ?_
      refine TL_v rfl rfl rfl (V_bin rfl rfl (fun w => remI w s0.1 16 (by decide))) ?_
      refine TL_v rfl rfl rfl (V_bin rfl rfl (fun w => mulI w 4 (s0.1.tmod 16))) ?_
      obtain ⟨h1, H⟩ := if_elim H
      refine TL_v rfl rfl rfl (V_bin rfl rfl (fun w => shr64 w (r_1.2 ^^^ s_y_low) .i64 (w64 (4 * (s0.1.tmod 16))) h1)) ?_
      refine TL_v rfl rfl rfl (V_bin rfl rfl (fun w => and64 w ((r_1.2 ^^^ s_y_low) >>> (w64 (4 * (s0.1.tmod 16))).toNat) 15#64)) ?_
      refine TL_v rfl rfl rfl (V_assign rfl) ?_
      obtain ⟨digit1, hdigit1, H⟩ := ltt_elim H
      refine TL_re (d := 7) (v := v64 (((r_1.2 ^^^ s_y_low) >>> (w64 (4 * (s0.1.tmod 16))).toNat) &&& 15#64)) (v' := v64 digit1) rfl (congrArg v64 hdigit1) ?_
      refine TL_nil ?_
      refine TX_next ?_
      refine TC_seq ?_
      refine TC_seq ?_
      refine TC_region ?_
      refine TL_v rfl rfl rfl (V_move rfl) ?_
      refine TL_v rfl rfl rfl (V_bin rfl rfl (fun w => geqI w s0.1 16)) ?_
      refine TL_nil ?_
      refine TX_next ?_
      obtain ⟨j1, Hj, H⟩ := bind_elim H
      refine TC_join (Γ := Unit) (fun gj1 => [(0, ptr (some (bs, obs)) 0), (4, ptr (some (b1, 0)) 0), (5, ptr (some (b2, 0)) 0), (7, v64 j1), (28, vi s0.1)]) (fun gj1 => [⟨some (bs, obs + 48), [v64 s_y_high]⟩, ⟨some (bs, obs + 49), [v64 s_y_low]⟩, ⟨some (b1, 0), [v64 (r_1.1 ^^^ s_y_high)]⟩, ⟨some (b1, 1), [v64 (r_1.2 ^^^ s_y_low)]⟩, ⟨some (b2, 0), [v64 s0.2.1]⟩, ⟨some (b2, 1), [v64 s0.2.2]⟩]) ?_ ?_
      · intro gj1
        refine TX_next ?_
        refine TC_seq ?_
        obtain ⟨h2, H⟩ := if_elim H
        refine TA_begin [⟨some (bs, obs + 48), [v64 s_y_high]⟩, ⟨some (bs, obs + 49), [v64 s_y_low]⟩, ⟨some (b1, 0), [v64 (r_1.1 ^^^ s_y_high)]⟩, ⟨some (b1, 1), [v64 (r_1.2 ^^^ s_y_low)]⟩, ⟨some (b2, 0), [v64 s0.2.1]⟩, ⟨some (b2, 1), [v64 s0.2.2]⟩] 20 (by kernel_rfl) (N := 21) rfl ?_
        refine TA_take (i := 0) (is := [0, 0, 0, 0, 0, 0]) (done' := #[true, false, false, false, false, false, false, false, false, false, false, false, false, false, false, false, false, false, false, false, false]) rfl rfl rfl rfl (by kernel_rfl) (QP.then (QP.block (QP.then (QP.then (QP.block (QP.then QP.body)))))) (by kernel_rfl) rfl (V_fieldE rfl Try.underlying103 rfl rfl TryI.inf81 rfl (v := ptr (some (b2, 0)) 0) rfl) ?_
        refine TA_take (i := 1) (is := [0, 0, 0, 0, 0, 0]) (done' := #[true, true, false, false, false, false, false, false, false, false, false, false, false, false, false, false, false, false, false, false, false]) rfl rfl rfl rfl (by kernel_rfl) (QP.then (QP.block (QP.then (QP.then (QP.block (QP.then QP.body)))))) (by kernel_rfl) rfl (V_load rfl (Src.own (j := 4) rfl) rfl Try.isAgg81) ?_
        refine TA_take (i := 2) (is := [0, 0, 0, 0, 0, 0]) (done' := #[true, true, true, false, false, false, false, false, false, false, false, false, false, false, false, false, false, false, false, false, false]) rfl rfl rfl rfl (by kernel_rfl) (QP.then (QP.block (QP.then (QP.then (QP.block (QP.then QP.body)))))) (by kernel_rfl) rfl (V_bin rfl rfl (fun w => shr64 w s0.2.1 .u64 4 (by decide))) ?_
        refine TA_take (i := 3) (is := [0, 0, 0, 0, 0, 0]) (done' := #[true, true, true, true, false, false, false, false, false, false, false, false, false, false, false, false, false, false, false, false, false]) rfl rfl rfl rfl (by kernel_rfl) (QP.then (QP.block (QP.then (QP.then (QP.block (QP.then QP.body)))))) (by kernel_rfl) rfl (V_move rfl) ?_
        refine TA_take (i := 4) (is := [0, 0, 0, 0, 0, 0]) (done' := #[true, true, true, true, true, false, false, false, false, false, false, false, false, false, false, false, false, false, false, false, false]) rfl rfl rfl rfl (by kernel_rfl) (QP.then (QP.block (QP.then (QP.then (QP.block (QP.then QP.body)))))) (by kernel_rfl) rfl (V_fieldE rfl Try.underlying103 rfl rfl TryI.inf81 rfl (v := ptr (some (b2, 1)) 0) rfl) ?_
        refine TA_take (i := 5) (is := [0, 0, 0, 0, 0, 0]) (done' := #[true, true, true, true, true, true, false, false, false, false, false, false, false, false, false, false, false, false, false, false, false]) rfl rfl rfl rfl (by kernel_rfl) (QP.then (QP.block (QP.then (QP.then (QP.block (QP.then QP.body)))))) (by kernel_rfl) rfl (V_load rfl (Src.own (j := 5) rfl) rfl Try.isAgg81) ?_
        refine TA_take (i := 6) (is := [0, 0, 0, 0, 0, 0]) (done' := #[true, true, true, true, true, true, true, false, false, false, false, false, false, false, false, false, false, false, false, false, false]) rfl rfl rfl rfl (by kernel_rfl) (QP.then (QP.block (QP.then (QP.then (QP.block (QP.then QP.body)))))) (by kernel_rfl) rfl (V_bin rfl rfl (fun w => and64 w s0.2.2 15#64)) ?_
        refine TA_take (i := 7) (is := [0, 0, 0, 0, 0, 0]) (done' := #[true, true, true, true, true, true, true, true, false, false, false, false, false, false, false, false, false, false, false, false, false]) rfl rfl rfl rfl (by kernel_rfl) (QP.then (QP.block (QP.then (QP.then (QP.block (QP.then QP.body)))))) (by kernel_rfl) rfl (V_nilCheck rfl) ?_
        refine TA_take (i := 8) (is := [0, 0, 0, 0, 0, 0]) (done' := #[true, true, true, true, true, true, true, true, true, false, false, false, false, false, false, false, false, false, false, false, false]) rfl rfl rfl rfl (by kernel_rfl) (QP.then (QP.block (QP.then (QP.then (QP.block (QP.then QP.body)))))) (by kernel_rfl) rfl (V_fieldE rfl Try.underlying108 rfl rfl TryI.inf106 rfl (v := ptr (some (bs, obs + 32)) 0) rfl) ?_
        refine TA_take (i := 9) (is := [0, 0, 0, 0, 0, 0]) (done' := #[true, true, true, true, true, true, true, true, true, true, false, false, false, false, false, false, false, false, false, false, false]) rfl rfl rfl rfl (by kernel_rfl) (QP.then (QP.block (QP.then (QP.then (QP.block (QP.then QP.body)))))) (by kernel_rfl) rfl (V_idxArr (i := ((s0.2.2 &&& 15#64).toNat : Int)) rfl rfl Try.underlying106 TryI.inf81 rfl h2.1 h2.2 (k := (s0.2.2 &&& 15#64).toNat) (k01 _)) ?_
        refine TA_take (i := 10) (is := [0, 0, 0, 0, 0, 0]) (done' := #[true, true, true, true, true, true, true, true, true, true, true, false, false, false, false, false, false, false, false, false, false]) rfl rfl rfl rfl (by kernel_rfl) (QP.then (QP.block (QP.then (QP.then (QP.block (QP.then QP.body)))))) (by kernel_rfl) rfl (V_load rfl (Src.ro (j := 1) rfl) (get_vec (f := v64) (V := s_folds) (toNat_lt h2.1 h2.2)) Try.isAgg81) ?_
        refine TA_take (i := 11) (is := [0, 0, 0, 0, 0, 0]) (done' := #[true, true, true, true, true, true, true, true, true, true, true, true, false, false, false, false, false, false, false, false, false]) rfl rfl rfl rfl (by kernel_rfl) (QP.then (QP.block (QP.then (QP.then (QP.block (QP.then QP.body)))))) (by kernel_rfl) rfl (V_bin rfl rfl (fun w => xor64 w (s0.2.1 >>> 4) (vg s_folds ((s0.2.2 &&& 15#64).toNat)))) ?_
        refine TA_take (i := 12) (is := [0, 0, 0, 0, 0, 0]) (done' := #[true, true, true, true, true, true, true, true, true, true, true, true, true, false, false, false, false, false, false, false, false]) rfl rfl rfl rfl (by kernel_rfl) (QP.then (QP.block (QP.then (QP.then (QP.block (QP.then QP.body)))))) (by kernel_rfl) rfl (V_fieldE rfl Try.underlying103 rfl rfl TryI.inf81 rfl (v := ptr (some (b2, 1)) 0) rfl) ?_
        refine TA_take (i := 13) (is := [0, 0, 0, 0, 0, 0]) (done' := #[true, true, true, true, true, true, true, true, true, true, true, true, true, true, false, false, false, false, false, false, false]) rfl rfl rfl rfl (by kernel_rfl) (QP.then (QP.block (QP.then (QP.then (QP.block (QP.then QP.body)))))) (by kernel_rfl) rfl (V_load rfl (Src.own (j := 5) rfl) rfl Try.isAgg81) ?_
        refine TA_take (i := 14) (is := [0, 0, 0, 0, 0, 0]) (done' := #[true, true, true, true, true, true, true, true, true, true, true, true, true, true, true, false, false, false, false, false, false]) rfl rfl rfl rfl (by kernel_rfl) (QP.then (QP.block (QP.then (QP.then (QP.block (QP.then QP.body)))))) (by kernel_rfl) rfl (V_bin rfl rfl (fun w => shr64 w s0.2.2 .u64 4 (by decide))) ?_
        refine TA_take (i := 15) (is := [0, 0, 0, 0, 0, 0]) (done' := #[true, true, true, true, true, true, true, true, true, true, true, true, true, true, true, true, false, false, false, false, false]) rfl rfl rfl rfl (by kernel_rfl) (QP.then (QP.block (QP.then (QP.then (QP.block (QP.then QP.body)))))) (by kernel_rfl) rfl (V_fieldE rfl Try.underlying103 rfl rfl TryI.inf81 rfl (v := ptr (some (b2, 0)) 0) rfl) ?_
        refine TA_take (i := 16) (is := [0, 0, 0, 0, 0, 0]) (done' := #[true, true, true, true, true, true, true, true, true, true, true, true, true, true, true, true, true, false, false, false, false]) rfl rfl rfl rfl (by kernel_rfl) (QP.then (QP.block (QP.then (QP.then (QP.block (QP.then QP.body)))))) (by kernel_rfl) rfl (V_load rfl (Src.own (j := 4) rfl) rfl Try.isAgg81) ?_
        refine TA_take (i := 17) (is := [0, 0, 0, 0, 0, 0]) (done' := #[true, true, true, true, true, true, true, true, true, true, true, true, true, true, true, true, true, true, false, false, false]) rfl rfl rfl rfl (by kernel_rfl) (QP.then (QP.block (QP.then (QP.then (QP.block (QP.then QP.body)))))) (by kernel_rfl) rfl (V_bin rfl rfl (fun w => shl64 w s0.2.1 .u64 60 (by decide))) ?_
        refine TA_take (i := 18) (is := [0, 0, 0, 0, 0, 0]) (done' := #[true, true, true, true, true, true, true, true, true, true, true, true, true, true, true, true, true, true, true, false, false]) rfl rfl rfl rfl (by kernel_rfl) (QP.then (QP.block (QP.then (QP.then (QP.block (QP.then QP.body)))))) (by kernel_rfl) rfl (V_bin rfl rfl (fun w => or64 w (s0.2.2 >>> 4) (s0.2.1 <<< 60))) ?_
        refine TA_take (i := 19) (is := [0, 0, 0, 0, 0, 0]) (done' := #[true, true, true, true, true, true, true, true, true, true, true, true, true, true, true, true, true, true, true, true, false]) rfl rfl rfl rfl (by kernel_rfl) (QP.then (QP.block (QP.then (QP.then (QP.block (QP.then QP.body)))))) (by kernel_rfl) rfl (V_buildStruct (pv := [(0, v64 ((s0.2.1 >>> 4) ^^^ (vg s_folds ((s0.2.2 &&& 15#64).toNat)))), (1, v64 ((s0.2.2 >>> 4) ||| (s0.2.1 <<< 60)))]) (pl := [(0, 1), (1, 1)]) rfl rfl Try.underlying103 TryI.inf103 TryI.places103 TryI.zer103 (cs := flat [(1, [v64 ((s0.2.1 >>> 4) ^^^ (vg s_folds ((s0.2.2 &&& 15#64).toNat)))]), (1, [v64 ((s0.2.2 >>> 4) ||| (s0.2.1 <<< 60))])]) (by kernel_rfl)) ?_
        refine TA_all (rs := [20]) (by kernel_rfl) rfl ?_
        refine ⟨?_, trivial⟩
        refine TO_n (is := []) (R := fun _ => []) (done' := #[true, true, true, true, true, true, true, true, true, true, true, true, true, true, true, true, true, true, true, true, true]) rfl rfl rfl (by kernel_rfl) (E_storeParts (b := b2) (o := 0) (n := 2) (is := [4, 4]) [(1, [v64 s0.2.1]), (1, [v64 s0.2.2])] [(1, [v64 ((s0.2.1 >>> 4) ^^^ (vg s_folds ((s0.2.2 &&& 15#64).toNat)))]), (1, [v64 ((s0.2.2 >>> 4) ||| (s0.2.1 <<< 60))])] rfl rfl rfl TryI.inf103 rfl ⟨rfl, rfl, trivial⟩ ⟨rfl, rfl, trivial⟩ (flat_len ⟨rfl, rfl, trivial⟩ rfl) (flat_len ⟨rfl, rfl, trivial⟩ rfl) (flat_onec ⟨(OneC.cons rfl OneC.nil), (OneC.cons rfl OneC.nil), trivial⟩)) (fun h => by cases h) (fun _ => ?_)
        refine TA_done (by kernel_rfl) ?_ 0
        refine TX_next ?_
        refine TC_seq ?_
        obtain ⟨h3, H⟩ := if_elim H
        refine TA_begin [⟨some (b2, 0), [v64 ((s0.2.1 >>> 4) ^^^ (vg s_folds ((s0.2.2 &&& 15#64).toNat)))]⟩, ⟨some (b2, 1), [v64 ((s0.2.2 >>> 4) ||| (s0.2.1 <<< 60))]⟩, ⟨some (bs, obs + 48), [v64 s_y_high]⟩, ⟨some (bs, obs + 49), [v64 s_y_low]⟩, ⟨some (b1, 0), [v64 (r_1.1 ^^^ s_y_high)]⟩, ⟨some (b1, 1), [v64 (r_1.2 ^^^ s_y_low)]⟩] 11 (by kernel_rfl) (N := 12) rfl ?_
        refine TA_take (i := 0) (is := [0, 0, 0, 0, 0, 0]) (done' := #[true, false, false, false, false, false, false, false, false, false, false, false]) rfl rfl rfl rfl (by kernel_rfl) (QP.then (QP.block (QP.then (QP.then (QP.block (QP.then QP.body)))))) (by kernel_rfl) rfl (V_fieldE rfl Try.underlying103 rfl rfl TryI.inf81 rfl (v := ptr (some (b2, 0)) 0) rfl) ?_
        refine TA_take (i := 1) (is := [0, 0, 0, 0, 0, 0]) (done' := #[true, true, false, false, false, false, false, false, false, false, false, false]) rfl rfl rfl rfl (by kernel_rfl) (QP.then (QP.block (QP.then (QP.then (QP.block (QP.then QP.body)))))) (by kernel_rfl) rfl (V_load rfl (Src.own (j := 0) rfl) rfl Try.isAgg81) ?_
        refine TA_take (i := 2) (is := [0, 0, 0, 0, 0, 0]) (done' := #[true, true, true, false, false, false, false, false, false, false, false, false]) rfl rfl rfl rfl (by kernel_rfl) (QP.then (QP.block (QP.then (QP.then (QP.block (QP.then QP.body)))))) (by kernel_rfl) rfl (V_move rfl) ?_
        refine TA_take (i := 3) (is := [0, 0, 0, 0, 0, 0]) (done' := #[true, true, true, true, false, false, false, false, false, false, false, false]) rfl rfl rfl rfl (by kernel_rfl) (QP.then (QP.block (QP.then (QP.then (QP.block (QP.then QP.body)))))) (by kernel_rfl) rfl (V_move rfl) ?_
        refine TA_take (i := 4) (is := [0, 0, 0, 0, 0, 0]) (done' := #[true, true, true, true, true, false, false, false, false, false, false, false]) rfl rfl rfl rfl (by kernel_rfl) (QP.then (QP.block (QP.then (QP.then (QP.block (QP.then QP.body)))))) (by kernel_rfl) rfl (V_nilCheck rfl) ?_
        refine TA_take (i := 5) (is := [0, 0, 0, 0, 0, 0]) (done' := #[true, true, true, true, true, true, false, false, false, false, false, false]) rfl rfl rfl rfl (by kernel_rfl) (QP.then (QP.block (QP.then (QP.then (QP.block (QP.then QP.body)))))) (by kernel_rfl) rfl (V_fieldE rfl Try.underlying108 rfl rfl TryI.inf105 rfl (v := ptr (some (bs, obs)) 0) rfl) ?_
        refine TA_take (i := 6) (is := [0, 0, 0, 0, 0, 0]) (done' := #[true, true, true, true, true, true, true, false, false, false, false, false]) rfl rfl rfl rfl (by kernel_rfl) (QP.then (QP.block (QP.then (QP.then (QP.block (QP.then QP.body)))))) (by kernel_rfl) rfl (V_idxArr (i := ((j1).toNat : Int)) rfl rfl Try.underlying105 TryI.inf103 rfl h3.1 h3.2 (k := ((j1).toNat) * 2) (k0 _ _)) ?_
        refine TA_take (i := 7) (is := [0, 0, 0, 0, 0, 0]) (done' := #[true, true, true, true, true, true, true, true, false, false, false, false]) rfl rfl rfl rfl (by kernel_rfl) (QP.then (QP.block (QP.then (QP.then (QP.block (QP.then QP.body)))))) (by kernel_rfl) rfl (V_field rfl Try.underlying103 rfl (k := 0) rfl TryI.inf81 rfl) ?_
        refine TA_take (i := 8) (is := [0, 0, 0, 0, 0, 0]) (done' := #[true, true, true, true, true, true, true, true, true, false, false, false]) rfl rfl rfl rfl (by kernel_rfl) (QP.then (QP.block (QP.then (QP.then (QP.block (QP.then QP.body)))))) (by kernel_rfl) rfl (V_load rfl (Src.ro (j := 0) rfl) ((get_eF (g := fun p : BitVec 64 × BitVec 64 => [v64 p.1, v64 p.2]) (s := 2) (fun _ => rfl) s_table.toList ((j1).toNat) 0 (lt_list (toNat_lt h3.1 h3.2)) (by decide : 0 < 2)).trans rfl) Try.isAgg81) ?_
        refine TA_take (i := 9) (is := [0, 0, 0, 0, 0, 0]) (done' := #[true, true, true, true, true, true, true, true, true, true, false, false]) rfl rfl rfl rfl (by kernel_rfl) (QP.then (QP.block (QP.then (QP.then (QP.block (QP.then QP.body)))))) (by kernel_rfl) rfl (V_bin rfl rfl (fun w => xor64 w ((s0.2.1 >>> 4) ^^^ (vg s_folds ((s0.2.2 &&& 15#64).toNat))) ((vg s_table ((j1).toNat)).1))) ?_
        refine TA_take (i := 10) (is := [0, 0, 0, 0, 0, 0]) (done' := #[true, true, true, true, true, true, true, true, true, true, true, false]) rfl rfl rfl rfl (by kernel_rfl) (QP.then (QP.block (QP.then (QP.then (QP.block (QP.then QP.body)))))) (by kernel_rfl) rfl (V_fieldE rfl Try.underlying103 rfl rfl TryI.inf81 rfl (v := ptr (some (b2, 0)) 0) rfl) ?_
        refine TA_all (rs := [11]) (by kernel_rfl) rfl ?_
        refine ⟨?_, trivial⟩
        refine TO_n (is := []) (R := fun _ => []) (done' := #[true, true, true, true, true, true, true, true, true, true, true, true]) rfl rfl rfl (by kernel_rfl) (E_store (j := 0) rfl rfl TryI.inf81 rfl rfl rfl (Nat.lt_succ_self 0) (cs' := [v64 (((s0.2.1 >>> 4) ^^^ (vg s_folds ((s0.2.2 &&& 15#64).toNat))) ^^^ ((vg s_table ((j1).toNat)).1))]) rfl) (fun h => by cases h) (fun _ => ?_)
        refine TA_done (by kernel_rfl) ?_ 0
        refine TX_next ?_
        refine TC.sub (m' := [(0, ptr (some (bs, obs)) 0), (4, ptr (some (b1, 0)) 0), (5, ptr (some (b2, 0)) 0), (7, v64 j1), (28, vi s0.1)]) ⟨rfl, rfl, rfl, rfl, rfl, trivial⟩ ?_
        obtain ⟨h4, H⟩ := if_elim H
        refine TA_begin [⟨some (b2, 0), [v64 (((s0.2.1 >>> 4) ^^^ (vg s_folds ((s0.2.2 &&& 15#64).toNat))) ^^^ ((vg s_table ((j1).toNat)).1))]⟩, ⟨some (b2, 1), [v64 ((s0.2.2 >>> 4) ||| (s0.2.1 <<< 60))]⟩, ⟨some (bs, obs + 48), [v64 s_y_high]⟩, ⟨some (bs, obs + 49), [v64 s_y_low]⟩, ⟨some (b1, 0), [v64 (r_1.1 ^^^ s_y_high)]⟩, ⟨some (b1, 1), [v64 (r_1.2 ^^^ s_y_low)]⟩] 11 (by kernel_rfl) (N := 12) rfl ?_
        refine TA_take (i := 0) (is := [0, 0, 0, 0, 0, 0]) (done' := #[true, false, false, false, false, false, false, false, false, false, false, false]) rfl rfl rfl rfl (by kernel_rfl) (QP.block (QP.then (QP.then (QP.block (QP.then QP.body))))) (by kernel_rfl) rfl (V_fieldE rfl Try.underlying103 rfl rfl TryI.inf81 rfl (v := ptr (some (b2, 1)) 0) rfl) ?_
        refine TA_take (i := 1) (is := [0, 0, 0, 0, 0, 0]) (done' := #[true, true, false, false, false, false, false, false, false, false, false, false]) rfl rfl rfl rfl (by kernel_rfl) (QP.block (QP.then (QP.then (QP.block (QP.then QP.body))))) (by kernel_rfl) rfl (V_load rfl (Src.own (j := 1) rfl) rfl Try.isAgg81) ?_
        refine TA_take (i := 2) (is := [0, 0, 0, 0, 0, 0]) (done' := #[true, true, true, false, false, false, false, false, false, false, false, false]) rfl rfl rfl rfl (by kernel_rfl) (QP.block (QP.then (QP.then (QP.block (QP.then QP.body))))) (by kernel_rfl) rfl (V_move rfl) ?_
        refine TA_take (i := 3) (is := [0, 0, 0, 0, 0, 0]) (done' := #[true, true, true, true, false, false, false, false, false, false, false, false]) rfl rfl rfl rfl (by kernel_rfl) (QP.block (QP.then (QP.then (QP.block (QP.then QP.body))))) (by kernel_rfl) rfl (V_move rfl) ?_
        refine TA_take (i := 4) (is := [0, 0, 0, 0, 0, 0]) (done' := #[true, true, true, true, true, false, false, false, false, false, false, false]) rfl rfl rfl rfl (by kernel_rfl) (QP.block (QP.then (QP.then (QP.block (QP.then QP.body))))) (by kernel_rfl) rfl (V_nilCheck rfl) ?_
        refine TA_take (i := 5) (is := [0, 0, 0, 0, 0, 0]) (done' := #[true, true, true, true, true, true, false, false, false, false, false, false]) rfl rfl rfl rfl (by kernel_rfl) (QP.block (QP.then (QP.then (QP.block (QP.then QP.body))))) (by kernel_rfl) rfl (V_fieldE rfl Try.underlying108 rfl rfl TryI.inf105 rfl (v := ptr (some (bs, obs)) 0) rfl) ?_
        refine TA_take (i := 6) (is := [0, 0, 0, 0, 0, 0]) (done' := #[true, true, true, true, true, true, true, false, false, false, false, false]) rfl rfl rfl rfl (by kernel_rfl) (QP.block (QP.then (QP.then (QP.block (QP.then QP.body))))) (by kernel_rfl) rfl (V_idxArr (i := ((j1).toNat : Int)) rfl rfl Try.underlying105 TryI.inf103 rfl h4.1 h4.2 (k := ((j1).toNat) * 2) (k0 _ _)) ?_
        refine TA_take (i := 7) (is := [0, 0, 0, 0, 0, 0]) (done' := #[true, true, true, true, true, true, true, true, false, false, false, false]) rfl rfl rfl rfl (by kernel_rfl) (QP.block (QP.then (QP.then (QP.block (QP.then QP.body))))) (by kernel_rfl) rfl (V_field rfl Try.underlying103 rfl (k := 1) rfl TryI.inf81 rfl) ?_
        refine TA_take (i := 8) (is := [0, 0, 0, 0, 0, 0]) (done' := #[true, true, true, true, true, true, true, true, true, false, false, false]) rfl rfl rfl rfl (by kernel_rfl) (QP.block (QP.then (QP.then (QP.block (QP.then QP.body))))) (by kernel_rfl) rfl (V_load rfl (Src.ro (j := 0) rfl) ((get_eF (g := fun p : BitVec 64 × BitVec 64 => [v64 p.1, v64 p.2]) (s := 2) (fun _ => rfl) s_table.toList ((j1).toNat) 1 (lt_list (toNat_lt h4.1 h4.2)) (by decide : 1 < 2)).trans rfl) Try.isAgg81) ?_
        refine TA_take (i := 9) (is := [0, 0, 0, 0, 0, 0]) (done' := #[true, true, true, true, true, true, true, true, true, true, false, false]) rfl rfl rfl rfl (by kernel_rfl) (QP.block (QP.then (QP.then (QP.block (QP.then QP.body))))) (by kernel_rfl) rfl (V_bin rfl rfl (fun w => xor64 w ((s0.2.2 >>> 4) ||| (s0.2.1 <<< 60)) ((vg s_table ((j1).toNat)).2))) ?_
        refine TA_take (i := 10) (is := [0, 0, 0, 0, 0, 0]) (done' := #[true, true, true, true, true, true, true, true, true, true, true, false]) rfl rfl rfl rfl (by kernel_rfl) (QP.block (QP.then (QP.then (QP.block (QP.then QP.body))))) (by kernel_rfl) rfl (V_fieldE rfl Try.underlying103 rfl rfl TryI.inf81 rfl (v := ptr (some (b2, 1)) 0) rfl) ?_
        refine TA_all (rs := [11]) (by kernel_rfl) rfl ?_
        refine ⟨?_, trivial⟩
        refine TO_n (is := []) (R := fun _ => []) (done' := #[true, true, true, true, true, true, true, true, true, true, true, true]) rfl rfl rfl (by kernel_rfl) (E_store (j := 1) rfl rfl TryI.inf81 rfl rfl rfl (Nat.lt_succ_self 0) (cs' := [v64 (((s0.2.2 >>> 4) ||| (s0.2.1 <<< 60)) ^^^ ((vg s_table ((j1).toNat)).2))]) rfl) (fun h => by cases h) (fun _ => ?_)
        refine TA_done (by kernel_rfl) ?_ 0
        refine TX_block_normal ?_
        refine TX_next ?_
        refine TC_region ?_
        refine TL_v rfl rfl rfl (V_bin rfl rfl (fun w => addI w s0.1 1)) ?_
        refine TL_v rfl rfl rfl (V_move rfl) ?_
        refine TL_nil ?_
        refine TX.sub (m' := [(0, ptr (some (bs, obs)) 0), (4, ptr (some (b1, 0)) 0), (5, ptr (some (b2, 0)) 0), (28, vi (w64 (s0.1 + 1)))]) ⟨rfl, rfl, rfl, rfl, trivial⟩ ?_
        refine TX.pull (is := [2, 2, 2, 2, 0, 0]) (L' := [⟨some (bs, obs + 48), [v64 s_y_high]⟩, ⟨some (bs, obs + 49), [v64 s_y_low]⟩, ⟨some (b1, 0), [v64 (r_1.1 ^^^ s_y_high)]⟩, ⟨some (b1, 1), [v64 (r_1.2 ^^^ s_y_low)]⟩, ⟨some (b2, 0), [v64 (((s0.2.1 >>> 4) ^^^ (vg s_folds ((s0.2.2 &&& 15#64).toNat))) ^^^ ((vg s_table ((j1).toNat)).1))]⟩, ⟨some (b2, 1), [v64 (((s0.2.2 >>> 4) ||| (s0.2.1 <<< 60)) ^^^ ((vg s_table ((j1).toNat)).2))]⟩]) rfl ?_
        obtain rfl := Option.some.inj H
        exact fun a w hs => hK (w64 (s0.1 + 1), ((s0.2.1 >>> 4) ^^^ (vg s_folds ((s0.2.2 &&& 15#64).toNat))) ^^^ ((vg s_table ((j1).toNat)).1), ((s0.2.2 >>> 4) ||| (s0.2.1 <<< 60)) ^^^ ((vg s_table ((j1).toNat)).2)) rfl () a w hs
      · intro hJ
        replace H := Hj
        refine TC_cond (b := (decide (16 ≤ s0.1))) rfl (fun hc => ?_) (fun hc => ?_)
        · replace H := ite_t (of_decide_eq_true hc) H
          refine TC_region ?_
          refine TL_v rfl rfl rfl (V_fieldE rfl Try.underlying103 rfl rfl TryI.inf81 rfl (v := ptr (some (b1, 0)) 0) rfl) ?_
          refine TL_v rfl rfl rfl (V_load rfl (Src.own (j := 2) rfl) rfl Try.isAgg81) ?_
          refine TL_v rfl rfl rfl (V_move rfl) ?_
          refine TL_v rfl rfl rfl (V_bin rfl rfl (fun w => remI w s0.1 16 (by decide))) ?_
          refine TL_v rfl rfl rfl (V_bin rfl rfl (fun w => mulI w 4 (s0.1.tmod 16))) ?_
          obtain ⟨h5, H⟩ := if_elim H
          refine TL_v rfl rfl rfl (V_bin rfl rfl (fun w => shr64 w (r_1.1 ^^^ s_y_high) .i64 (w64 (4 * (s0.1.tmod 16))) h5)) ?_
          refine TL_v rfl rfl rfl (V_bin rfl rfl (fun w => and64 w ((r_1.1 ^^^ s_y_high) >>> (w64 (4 * (s0.1.tmod 16))).toNat) 15#64)) ?_
          refine TL_v rfl rfl rfl (V_assign rfl) ?_
          obtain ⟨digit2, hdigit2, H⟩ := ltt_elim H
          refine TL_re (d := 7) (v := v64 (((r_1.1 ^^^ s_y_high) >>> (w64 (4 * (s0.1.tmod 16))).toNat) &&& 15#64)) (v' := v64 digit2) rfl (congrArg v64 hdigit2) ?_
          refine TL_nil ?_
          refine TX.sub (m' := [(0, ptr (some (bs, obs)) 0), (4, ptr (some (b1, 0)) 0), (5, ptr (some (b2, 0)) 0), (7, v64 digit2), (28, vi s0.1)]) ⟨rfl, rfl, rfl, rfl, rfl, trivial⟩ ?_
          refine TX.pull (is := [0, 0, 0, 0, 0, 0]) (L' := [⟨some (bs, obs + 48), [v64 s_y_high]⟩, ⟨some (bs, obs + 49), [v64 s_y_low]⟩, ⟨some (b1, 0), [v64 (r_1.1 ^^^ s_y_high)]⟩, ⟨some (b1, 1), [v64 (r_1.2 ^^^ s_y_low)]⟩, ⟨some (b2, 0), [v64 s0.2.1]⟩, ⟨some (b2, 1), [v64 s0.2.2]⟩]) rfl ?_
          obtain rfl := Option.some.inj H
          exact hJ ()
        · replace H := ite_f (of_decide_eq_false hc) H
          refine TC_skip ?_
          refine TX.sub (m' := [(0, ptr (some (bs, obs)) 0), (4, ptr (some (b1, 0)) 0), (5, ptr (some (b2, 0)) 0), (7, v64 digit1), (28, vi s0.1)]) ⟨rfl, rfl, rfl, rfl, rfl, trivial⟩ ?_
          refine TX.pull (is := [0, 0, 0, 0, 0, 0]) (L' := [⟨some (bs, obs + 48), [v64 s_y_high]⟩, ⟨some (bs, obs + 49), [v64 s_y_low]⟩, ⟨some (b1, 0), [v64 (r_1.1 ^^^ s_y_high)]⟩, ⟨some (b1, 1), [v64 (r_1.2 ^^^ s_y_low)]⟩, ⟨some (b2, 0), [v64 s0.2.1]⟩, ⟨some (b2, 1), [v64 s0.2.2]⟩]) rfl ?_
          obtain rfl := Option.some.inj H
          exact hJ ()
    · replace H := ite_f (of_decide_eq_false hc) H
      refine TC_exit ?_
      refine TX_then_exit ?_
      refine TX_then_exit ?_
      refine TX.sub (m' := [(0, ptr (some (bs, obs)) 0), (5, ptr (some (b2, 0)) 0)]) ⟨rfl, rfl, trivial⟩ ?_
      refine TX.pull (is := [0, 0, 2, 2]) (L' := [⟨some (bs, obs + 48), [v64 s_y_high]⟩, ⟨some (bs, obs + 49), [v64 s_y_low]⟩, ⟨some (b2, 0), [v64 s0.2.1]⟩, ⟨some (b2, 1), [v64 s0.2.2]⟩]) rfl ?_
      obtain rfl := Option.some.inj H
      exact hE (s0.2.1, s0.2.2) rfl ()
  · intro g
    refine TX_block_exit ?_
    refine TX_next ?_
    refine TC_region ?_
    refine TL_v rfl rfl rfl (V_move rfl) ?_
    refine TL_v rfl rfl rfl (V_loadAgg (n := 2) (cs := flat [(1, [v64 t_1.1]), (1, [v64 t_1.2])]) rfl (by simp) (SrcEnts (b := b2) [(1, [v64 t_1.1]), (1, [v64 t_1.2])] 0 ⟨rfl, rfl, trivial⟩ (AllSrc.all (M := ents b2 0 [(1, [v64 t_1.1]), (1, [v64 t_1.2])]) ⟨Src.own (j := 2) rfl, Src.own (j := 3) rfl, trivial⟩)) Try.isAgg103 TryI.inf103 rfl (flat_len ⟨rfl, rfl, trivial⟩ rfl)) ?_
    refine TL_v rfl rfl rfl (V_nilCheck rfl) ?_
    refine TL_v rfl rfl rfl (V_fieldE rfl Try.underlying108 rfl rfl TryI.inf103 rfl (v := ptr (some (bs, obs + 48)) 0) rfl) ?_
    refine TL_n rfl rfl (E_storeParts (b := bs) (o := obs + 48) (n := 2) (is := [0, 0]) [(1, [v64 s_y_high]), (1, [v64 s_y_low])] [(1, [v64 t_1.1]), (1, [v64 t_1.2])] rfl rfl rfl TryI.inf103 rfl ⟨rfl, rfl, trivial⟩ ⟨rfl, rfl, trivial⟩ (flat_len ⟨rfl, rfl, trivial⟩ rfl) (flat_len ⟨rfl, rfl, trivial⟩ rfl) (flat_onec ⟨(OneC.cons rfl OneC.nil), (OneC.cons rfl OneC.nil), trivial⟩)) (fun _ => ?_)
    refine TL_nil ?_
    have hrv := Option.some.inj H
    subst hrv
    exact TX_end (rs := []) (vs := []) rfl trivial (fun w' hs' => ⟨(), rfl, Step.left (Step.pulled (is := [0, 0]) (A := [⟨some (bs, obs + 48), [v64 t_1.1]⟩, ⟨some (bs, obs + 49), [v64 t_1.2]⟩]) hs' rfl)⟩)

end Go.Proofs
end

section
namespace Go.Proofs
open Go Go.Kx
set_option linter.unusedVariables false
set_option linter.unusedSimpArgs false
def gcm_sum_all.b0 (s_table : Vector (BitVec 64 × BitVec 64) 16) (s_folds : Vector (BitVec 64) 16) (b : List (BitVec 8)) (s0 : Nat × BitVec 64 × BitVec 64) : Option ((Nat × BitVec 64 × BitVec 64) ⊕ (Nat × BitVec 64 × BitVec 64)) :=
  if 16 ≤ ((((b).length) - s0.1 : Nat) : Int) then ((gcm_sum_add s_table s_folds s0.2.1 s0.2.2 (sub b s0.1 ((b).length))).bind fun (r_1 : BitVec 64 × BitVec 64) => (if s0.1 ≤ (b).length then (if 16 ≤ ((b).length) - s0.1 then (some (.inl (s0.1 + 16, r_1.1, r_1.2))) else none) else none)) else (some (.inr (s0.1, s0.2.1, s0.2.2)))

def gcm_sum_all (s_table : Vector (BitVec 64 × BitVec 64) 16) (s_folds : Vector (BitVec 64) 16) (s_y_high : BitVec 64) (s_y_low : BitVec 64) (b : List (BitVec 8)) : Option (BitVec 64 × BitVec 64) :=
  (loop (gcm_sum_all.b0 s_table s_folds b) BIG (0, s_y_high, s_y_low)).bind fun (t_1 : Nat × BitVec 64 × BitVec 64) => (if 0 < ((((b).length) - t_1.1 : Nat) : Int) then (ltt (vsp (Vector.replicate 16 0#8) 0 ((sub b t_1.1 ((b).length)).take (min (((b).length) - t_1.1) 16))) fun (m_1 : Vector (BitVec 8) 16) => ((gcm_sum_add s_table s_folds t_1.2.1 t_1.2.2 m_1.toList).bind fun (r_2 : BitVec 64 × BitVec 64) => (some (r_2.1, r_2.2)))) else (some (t_1.2.1, t_1.2.2)))

set_option maxHeartbeats 4000000 in
set_option maxRecDepth 20000 in
theorem F71_calls (bs : Nat) (obs : Nat) (Ab : Adr) (cb : Nat) (s_table : Vector (BitVec 64 × BitVec 64) 16) (s_folds : Vector (BitVec 64) 16) (s_y_high : BitVec 64) (s_y_low : BitVec 64) (b : List (BitVec 8)) (hcb : (b).length ≤ cb) (r : BitVec 64 × BitVec 64) (H : gcm_sum_all s_table s_folds s_y_high s_y_low b = some r) :
    Does Try.prog 71 [ptr (some (bs, obs)) 0, sl Ab ((b).length) cb] [⟨some (bs, obs + 48), [v64 s_y_high]⟩, ⟨some (bs, obs + 49), [v64 s_y_low]⟩] [⟨some (bs, obs), eF (fun p : BitVec 64 × BitVec 64 => [v64 p.1, v64 p.2]) s_table.toList⟩, ⟨some (bs, obs + 32), e64 s_folds.toList⟩, ⟨Ab, e8 b⟩] (Γ := Unit) (fun g => Value.tuple [].toArray) (fun g => [⟨some (bs, obs + 48), [v64 r.1]⟩, ⟨some (bs, obs + 49), [v64 r.2]⟩]) := by
  intro w hmem hro hd
  refine calls_of (N := 22) (m0 := [(0, ptr (some (bs, obs)) 0), (1, sl Ab ((b).length) cb)]) Try.func71 rfl Try.ntmps71 (argM_ok [ptr (some (bs, obs)) 0, sl Ab ((b).length) cb]) rfl hmem hro hd ?_
  unfold gcm_sum_all at H
  refine TC_seq ?_
  refine TC_block ?_
  refine TC_re (d := 1) (v := sl Ab ((b).length) cb) (v' := sl (cutB Ab cb 0 0 1) (((b).length) - 0) (cb - 0)) rfl (vw_seed 1) ?_
  obtain ⟨t_1, Hl, H⟩ := bind_elim H
  refine TC.sub (m' := [(0, ptr (some (bs, obs)) 0), (1, sl (cutB Ab cb 0 0 1) (((b).length) - 0) (cb - 0))]) ⟨rfl, rfl, trivial⟩ ?_
  refine TC.pull (is := [0, 0]) (L' := [⟨some (bs, obs + 48), [v64 s_y_high]⟩, ⟨some (bs, obs + 49), [v64 s_y_low]⟩]) rfl ?_
  refine TC_loopL (id := 0) (body := (gcm_sum_all.b0 s_table s_folds b)) (σ := Nat × BitVec 64 × BitVec 64) (Γ := Nat) (Γx := Nat) (fun s0 g0_ => [(0, ptr (some (bs, obs)) 0), (1, sl (cutB Ab cb s0.1 g0_ 1) (((b).length) - s0.1) (cb - s0.1))]) (fun s0 g0_ => [⟨some (bs, obs + 48), [v64 s0.2.1]⟩, ⟨some (bs, obs + 49), [v64 s0.2.2]⟩]) (fun t g => [(0, ptr (some (bs, obs)) 0), (1, sl (cutB Ab cb t.1 g 1) (((b).length) - t.1) (cb - t.1))]) (fun t g => [⟨some (bs, obs + 48), [v64 t.2.1]⟩, ⟨some (bs, obs + 49), [v64 t.2.2]⟩]) ?_ BIG (0, s_y_high, s_y_low) 0 t_1 Hl ?_
  · intro s0 g0_ r1 H K hK hE
    unfold gcm_sum_all.b0 at H
    refine TC_seq ?_
    refine TC_seq ?_
    refine TC_region ?_
    refine TL_v rfl rfl rfl (V_move rfl) ?_
    refine TL_v rfl rfl rfl (V_len_slice rfl Try.underlying30) ?_
    refine TL_v rfl rfl rfl (V_bin rfl rfl (fun w => geqI w ((((b).length) - s0.1 : Nat) : Int) 16)) ?_
    refine TL_nil ?_
    refine TX_next ?_
    refine TC_cond (b := (decide (16 ≤ ((((b).length) - s0.1 : Nat) : Int)))) rfl (fun hc => ?_) (fun hc => ?_)
    · replace H := ite_t (of_decide_eq_true hc) H
      refine TC_skip ?_
      refine TX_next ?_
      refine TC_seq ?_
      refine TC_block ?_
      refine TC_region ?_
      refine TL_v rfl rfl rfl (V_move rfl) ?_
      refine TL_v rfl rfl rfl (V_move rfl) ?_
      refine TL_re (d := 1) (v := sl (cutB Ab cb s0.1 g0_ 1) (((b).length) - s0.1) (cb - s0.1)) (v' := sl (cutB Ab cb s0.1 g0_ 1) ((sub b s0.1 ((b).length)).length) (cb - s0.1)) rfl (congrArg (fun n => sl (cutB Ab cb s0.1 g0_ 1) n (cb - s0.1)) (sub_length (Nat.le_refl _)).symm) ?_
      refine TL_re (d := 5) (v := sl (cutB Ab cb s0.1 g0_ 1) (((b).length) - s0.1) (cb - s0.1)) (v' := sl (cutB Ab cb s0.1 g0_ 1) ((sub b s0.1 ((b).length)).length) (cb - s0.1)) rfl (congrArg (fun n => sl (cutB Ab cb s0.1 g0_ 1) n (cb - s0.1)) (sub_length (Nat.le_refl _)).symm) ?_
      refine TL_re (d := 11) (v := sl (cutB Ab cb s0.1 g0_ 1) (((b).length) - s0.1) (cb - s0.1)) (v' := sl (cutB Ab cb s0.1 g0_ 1) ((sub b s0.1 ((b).length)).length) (cb - s0.1)) rfl (congrArg (fun n => sl (cutB Ab cb s0.1 g0_ 1) n (cb - s0.1)) (sub_length (Nat.le_refl _)).symm) ?_
      obtain ⟨r_1, hr_1, H⟩ := bind_elim H
      refine TL_e rfl rfl rfl (E_call (Γ := Unit) (val := fun g => Value.tuple [].toArray) (mem := fun g => [⟨some (bs, obs + 48), [v64 r_1.1]⟩, ⟨some (bs, obs + 49), [v64 r_1.2]⟩]) (vs := [ptr (some (bs, obs)) 0, sl (cutB Ab cb s0.1 g0_ 1) ((sub b s0.1 ((b).length)).length) (cb - s0.1)]) (Lin := [⟨some (bs, obs + 48), [v64 s0.2.1]⟩, ⟨some (bs, obs + 49), [v64 s0.2.2]⟩]) (Ro := [⟨some (bs, obs), eF (fun p : BitVec 64 × BitVec 64 => [v64 p.1, v64 p.2]) s_table.toList⟩, ⟨some (bs, obs + 32), e64 s_folds.toList⟩, ⟨cutB Ab cb s0.1 g0_ 1, e8 (sub b s0.1 ((b).length))⟩]) (is := [0, 0]) rfl Try.call89 (F89_calls bs obs (cutB Ab cb s0.1 g0_ 1) (cb - s0.1) s_table s_folds s0.2.1 s0.2.2 (sub b s0.1 ((b).length)) (vw_cap (Nat.le_refl _) (Nat.le_trans (Nat.le_refl _) hcb)) r_1 hr_1) rfl ⟨SrcD.ro (j := 0) rfl, SrcD.ro (j := 1) rfl, (srcdVw (lst := b) (SrcD.ro (j := 2) rfl) (Nat.le_trans (Nat.le_refl _) hcb)), trivial⟩) (fun g_1 => ?_)
      refine TL_re (d := 1) (v := sl (cutB Ab cb s0.1 g0_ 1) ((sub b s0.1 ((b).length)).length) (cb - s0.1)) (v' := sl (cutB Ab cb s0.1 g0_ 1) (((b).length) - s0.1) (cb - s0.1)) rfl (congrArg (fun n => sl (cutB Ab cb s0.1 g0_ 1) n (cb - s0.1)) (sub_length (Nat.le_refl _))) ?_
      refine TL_re (d := 5) (v := sl (cutB Ab cb s0.1 g0_ 1) ((sub b s0.1 ((b).length)).length) (cb - s0.1)) (v' := sl (cutB Ab cb s0.1 g0_ 1) (((b).length) - s0.1) (cb - s0.1)) rfl (congrArg (fun n => sl (cutB Ab cb s0.1 g0_ 1) n (cb - s0.1)) (sub_length (Nat.le_refl _))) ?_
      refine TL_re (d := 11) (v := sl (cutB Ab cb s0.1 g0_ 1) ((sub b s0.1 ((b).length)).length) (cb - s0.1)) (v' := sl (cutB Ab cb s0.1 g0_ 1) (((b).length) - s0.1) (cb - s0.1)) rfl (congrArg (fun n => sl (cutB Ab cb s0.1 g0_ 1) n (cb - s0.1)) (sub_length (Nat.le_refl _))) ?_
      refine TL_nil ?_
      refine TX_block_normal ?_
      refine TX_next ?_
      refine TC_region ?_
      refine TL_v rfl rfl rfl (V_move rfl) ?_
      obtain ⟨h1, H⟩ := if_elim H
      obtain ⟨h2, H⟩ := if_elim H
      refine TL_v rfl rfl rfl (V_sliceVw (l := 16) (h := ((b).length) - s0.1) rfl Try.underlying30 TryI.inf5 rfl (Bnd.some' (i := 16) rfl (by decide)) Bnd.none' h2 (Nat.le_refl _) (Nat.le_trans (Nat.le_refl _) hcb) (Nat.add_sub_cancel' h1)) ?_
      refine TL_v rfl rfl rfl (V_assign rfl) ?_
      refine TL_nil ?_
      refine TX.sub (m' := [(0, ptr (some (bs, obs)) 0), (1, sl (cutB Ab cb (s0.1 + 16) (if cb = s0.1 then g0_ else s0.1) 1) (((b).length) - (s0.1 + 16)) (cb - (s0.1 + 16)))]) ⟨rfl, rfl, trivial⟩ ?_
      refine TX.pull (is := [0, 0]) (L' := [⟨some (bs, obs + 48), [v64 r_1.1]⟩, ⟨some (bs, obs + 49), [v64 r_1.2]⟩]) rfl ?_
      obtain rfl := Option.some.inj H
      exact fun a w hs => hK (s0.1 + 16, r_1.1, r_1.2) rfl (if cb = s0.1 then g0_ else s0.1) a w hs
    · replace H := ite_f (of_decide_eq_false hc) H
      refine TC_exit ?_
      refine TX_then_exit ?_
      refine TX_then_exit ?_
      refine TX.sub (m' := [(0, ptr (some (bs, obs)) 0), (1, sl (cutB Ab cb s0.1 g0_ 1) (((b).length) - s0.1) (cb - s0.1))]) ⟨rfl, rfl, trivial⟩ ?_
      refine TX.pull (is := [0, 0]) (L' := [⟨some (bs, obs + 48), [v64 s0.2.1]⟩, ⟨some (bs, obs + 49), [v64 s0.2.2]⟩]) rfl ?_
      obtain rfl := Option.some.inj H
      exact hE (s0.1, s0.2.1, s0.2.2) rfl g0_
  · intro g
    obtain ⟨gx1, hgx⟩ : ∃ z, z = g := ⟨g, rfl⟩; subst hgx
    refine TX_block_exit ?_
    refine TX_next ?_
    refine TC_seq ?_
    refine TC_region ?_
    refine TL_v rfl rfl rfl (V_move rfl) ?_
    refine TL_v rfl rfl rfl (V_len_slice rfl Try.underlying30) ?_
    refine TL_v rfl rfl rfl (V_bin rfl rfl (fun w => gtrI w ((((b).length) - t_1.1 : Nat) : Int) 0)) ?_
    refine TL_nil ?_
    refine TX_next ?_
    refine TC_cond (b := (decide (0 < ((((b).length) - t_1.1 : Nat) : Int)))) rfl (fun hc => ?_) (fun hc => ?_)
    · replace H := ite_t (of_decide_eq_true hc) H
      refine TC_seq ?_
      refine TC_region ?_
      refine TL_e rfl rfl rfl (E_allocP [(16, e8 ((Vector.replicate 16 0#8).toList))] TryI.inf71 TryI.zer71 ⟨(lenV (f := v8) (Vector.replicate 16 0#8)), trivial⟩) (fun b1 => ?_)
      refine TL_nil ?_
      refine TX_next ?_
      refine TC_seq ?_
      refine TC_region ?_
      refine TL_v rfl rfl rfl (V_sliceArr0 rfl (by simp) Try.underlying71 TryI.inf5 rfl) ?_
      refine TL_v rfl rfl rfl (V_move rfl) ?_
      refine TL_e rfl rfl rfl (E_copyB (o := 0) (j := 0) (ds := (sub b t_1.1 ((b).length))) (copyA rfl) rfl (by simp) Try.underlying30 TryI.inf5 rfl (srcVw (lst := b) (Src.ro (j := 2) rfl) (Nat.le_trans (Nat.le_refl _) hcb)) (sub_length (Nat.le_refl _)) rfl rfl (copy_vec (l := 0) (d := 16) (by omega)) (cs' := e8 ((vsp (Vector.replicate 16 0#8) 0 ((sub b t_1.1 ((b).length)).take (min (((b).length) - t_1.1) 16))).toList)) (splice_vec (take_room (n := 16) (l := 0) (d := 16) (by omega)))) (fun _ => ?_)
      obtain ⟨m_1, hm_1, H⟩ := ltt_elim H
      refine TL_reE (j := 0) (A := some (b1, 0)) (cs := e8 ((vsp (Vector.replicate 16 0#8) 0 ((sub b t_1.1 ((b).length)).take (min (((b).length) - t_1.1) 16))).toList)) (cs' := e8 m_1.toList) rfl (congrArg (fun z : Vector (BitVec 8) 16 => e8 (Vector.toList z)) hm_1) ?_
      refine TL_nil ?_
      refine TX_next ?_
      refine TC_region ?_
      refine TL_v rfl rfl rfl (V_move rfl) ?_
      refine TL_v rfl rfl rfl (V_sliceArr0 rfl (by simp) Try.underlying71 TryI.inf5 rfl) ?_
      refine TL_re (d := 20) (v := sl (some (b1, 0)) 16 16) (v' := sl (some (b1, 0)) ((m_1.toList).length) ((m_1.toList).length)) rfl (congrArg (fun n => sl (some (b1, 0)) n n) vec_tl.symm) ?_
      obtain ⟨r_2, hr_2, H⟩ := bind_elim H
      refine TL_e rfl rfl rfl (E_call (Γ := Unit) (val := fun g => Value.tuple [].toArray) (mem := fun g => [⟨some (bs, obs + 48), [v64 r_2.1]⟩, ⟨some (bs, obs + 49), [v64 r_2.2]⟩]) (vs := [ptr (some (bs, obs)) 0, sl (some (b1, 0)) ((m_1.toList).length) ((m_1.toList).length)]) (Lin := [⟨some (bs, obs + 48), [v64 t_1.2.1]⟩, ⟨some (bs, obs + 49), [v64 t_1.2.2]⟩]) (Ro := [⟨some (bs, obs), eF (fun p : BitVec 64 × BitVec 64 => [v64 p.1, v64 p.2]) s_table.toList⟩, ⟨some (bs, obs + 32), e64 s_folds.toList⟩, ⟨some (b1, 0), e8 m_1.toList⟩]) (is := [1, 1]) rfl Try.call89 (F89_calls bs obs (some (b1, 0)) ((m_1.toList).length) s_table s_folds t_1.2.1 t_1.2.2 m_1.toList (Nat.le_refl _) r_2 hr_2) rfl ⟨SrcD.ro (j := 0) rfl, SrcD.ro (j := 1) rfl, SrcD.own (j := 0) rfl, trivial⟩) (fun g_2 => ?_)
      refine TL_nil ?_
      have hrv := Option.some.inj H
      subst hrv
      exact TX_end (rs := []) (vs := []) rfl trivial (fun w' hs' => ⟨(), rfl, Step.left (Step.pulled (is := [0, 0]) (A := [⟨some (bs, obs + 48), [v64 r_2.1]⟩, ⟨some (bs, obs + 49), [v64 r_2.2]⟩]) hs' rfl)⟩)
    · replace H := ite_f (of_decide_eq_false hc) H
      refine TC_skip ?_
      have hrv := Option.some.inj H
      subst hrv
      exact TX_end (rs := []) (vs := []) rfl trivial (fun w' hs' => ⟨(), rfl, Step.left (Step.pulled (is := [0, 0]) (A := [⟨some (bs, obs + 48), [v64 t_1.2.1]⟩, ⟨some (bs, obs + 49), [v64 t_1.2.2]⟩]) hs' rfl)⟩)

end Go.Proofs
end

section
namespace Go.Proofs
open Go Go.Kx
set_option linter.unusedVariables false
set_option linter.unusedSimpArgs false
def gcm_element_bytes.b0 (e_high : BitVec 64) (e_low : BitVec 64) (s0 : Int × Vector (BitVec 8) 16) : Option ((Int × Vector (BitVec 8) 16) ⊕ (Vector (BitVec 8) 16)) :=
  if s0.1 < 8 then (if 0 ≤ w64 (56 - (w64 (8 * s0.1))) then (if 0 ≤ w64 (56 - (w64 (8 * s0.1))) then (if 0 ≤ s0.1 ∧ s0.1 < (16 : Int) then (ltt (vp s0.2 ((s0.1).toNat) ((e_high >>> (w64 (56 - (w64 (8 * s0.1)))).toNat).setWidth 8)) fun (m_1 : Vector (BitVec 8) 16) => (if 0 ≤ w64 (8 + s0.1) ∧ w64 (8 + s0.1) < (16 : Int) then (ltt (vp m_1 ((w64 (8 + s0.1)).toNat) ((e_low >>> (w64 (56 - (w64 (8 * s0.1)))).toNat).setWidth 8)) fun (m_2 : Vector (BitVec 8) 16) => (some (.inl (w64 (s0.1 + 1), m_2)))) else none)) else none) else none) else none) else (some (.inr s0.2))

def gcm_element_bytes (e_high : BitVec 64) (e_low : BitVec 64) : Option (Vector (BitVec 8) 16) :=
  (loop (gcm_element_bytes.b0 e_high e_low) BIG (0, Vector.replicate 16 0#8)).bind fun (t_1 : Vector (BitVec 8) 16) => (some t_1)

set_option maxHeartbeats 4000000 in
set_option maxRecDepth 20000 in
theorem F72_calls (e_high : BitVec 64) (e_low : BitVec 64) (r : Vector (BitVec 8) 16) (H : gcm_element_bytes e_high e_low = some r) :
    Does Try.prog 72 [Value.agg (flat [(1, [v64 e_high]), (1, [v64 e_low])]).toArray] [] [] (Γ := Unit) (fun g => Value.agg (flat [(16, e8 r.toList)]).toArray) (fun g => []) := by
  intro w hmem hro hd
  refine calls_of (N := 29) (m0 := [(0, Value.agg (flat [(1, [v64 e_high]), (1, [v64 e_low])]).toArray)]) Try.func72 rfl Try.ntmps72 (argM_ok [Value.agg (flat [(1, [v64 e_high]), (1, [v64 e_low])]).toArray]) rfl hmem hro hd ?_
  unfold gcm_element_bytes at H
  refine TC_seq ?_
  refine TC_region ?_
  refine TL_e rfl rfl rfl (E_boxP [(1, [v64 e_high]), (1, [v64 e_low])] rfl rfl ⟨rfl, rfl, trivial⟩) (fun b1 => ?_)
  refine TL_e rfl rfl rfl (E_allocP [(16, e8 ((Vector.replicate 16 0#8).toList))] TryI.inf71 TryI.zer71 ⟨(lenV (f := v8) (Vector.replicate 16 0#8)), trivial⟩) (fun b2 => ?_)
  refine TL_nil ?_
  refine TX_next ?_
  refine TC_seq ?_
  refine TC_region ?_
  refine TL_e rfl rfl rfl (E_allocP [(16, e8 ((Vector.replicate 16 0#8).toList))] TryI.inf71 TryI.zer71 ⟨(lenV (f := v8) (Vector.replicate 16 0#8)), trivial⟩) (fun b3 => ?_)
  refine TL_nil ?_
  refine TX_next ?_
  refine TC_seq ?_
  refine TC_seq ?_
  refine TC_region ?_
  refine TL_v rfl rfl rfl (V_move rfl) ?_
  refine TL_nil ?_
  refine TX_next ?_
  refine TC_block ?_
  obtain ⟨t_1, Hl, H⟩ := bind_elim H
  refine TC.sub (m' := [(1, ptr (some (b1, 0)) 0), (2, ptr (some (b2, 0)) 0), (3, ptr (some (b3, 0)) 0), (5, vi 0)]) ⟨rfl, rfl, rfl, rfl, trivial⟩ ?_
  refine TC.pull (is := [2, 2, 1, 0]) (L' := [⟨some (b1, 0), [v64 e_high]⟩, ⟨some (b1, 1), [v64 e_low]⟩, ⟨some (b2, 0), e8 ((Vector.replicate 16 0#8).toList)⟩, ⟨some (b3, 0), e8 ((Vector.replicate 16 0#8).toList)⟩]) rfl ?_
  refine TC_loopL (id := 0) (body := (gcm_element_bytes.b0 e_high e_low)) (σ := Int × Vector (BitVec 8) 16) (Γ := Unit) (Γx := Unit) (fun s0 g0_ => [(1, ptr (some (b1, 0)) 0), (2, ptr (some (b2, 0)) 0), (3, ptr (some (b3, 0)) 0), (5, vi s0.1)]) (fun s0 g0_ => [⟨some (b1, 0), [v64 e_high]⟩, ⟨some (b1, 1), [v64 e_low]⟩, ⟨some (b2, 0), e8 ((Vector.replicate 16 0#8).toList)⟩, ⟨some (b3, 0), e8 s0.2.toList⟩]) (fun t g => [(2, ptr (some (b2, 0)) 0), (3, ptr (some (b3, 0)) 0)]) (fun t g => [⟨some (b2, 0), e8 ((Vector.replicate 16 0#8).toList)⟩, ⟨some (b3, 0), e8 t.toList⟩]) ?_ BIG (0, Vector.replicate 16 0#8) () t_1 Hl ?_
  · intro s0 g0_ r1 H K hK hE
    unfold gcm_element_bytes.b0 at H
    refine TC_seq ?_
    refine TC_region ?_
    refine TL_v rfl rfl rfl (V_bin rfl rfl (fun w => lssI w s0.1 8)) ?_
    refine TL_nil ?_
    refine TX_next ?_
    refine TC_seq ?_
    refine TC_cond (b := (decide (s0.1 < 8))) rfl (fun hc => ?_) (fun hc => ?_)
    · replace H := ite_t (of_decide_eq_true hc) H
      refine TC_skip ?_
      refine TX_next ?_
      refine TC_seq ?_
      refine TC_block ?_
      refine TC_seq ?_
      refine TC_region ?_
      refine TL_v rfl rfl rfl (V_move rfl) ?_
      refine TL_v rfl rfl rfl (V_assign rfl) ?_
      refine TL_nil ?_
      refine TX_next ?_
      obtain ⟨h1, H⟩ := if_elim H
      obtain ⟨h2, H⟩ := if_elim H
      obtain ⟨h3, H⟩ := if_elim H
      obtain ⟨m_1, hm_1, H⟩ := ltt_elim H
      obtain ⟨h4, H⟩ := if_elim H
      obtain ⟨m_2, hm_2, H⟩ := ltt_elim H
      refine TA_begin [⟨some (b1, 0), [v64 e_high]⟩, ⟨some (b1, 1), [v64 e_low]⟩, ⟨some (b2, 0), e8 ((Vector.replicate 16 0#8).toList)⟩] 19 (by kernel_rfl) (N := 21) rfl ?_
      refine TA_take (i := 0) (is := [0, 0, 0]) (done' := #[true, false, false, false, false, false, false, false, false, false, false, false, false, false, false, false, false, false, false, false, false]) rfl rfl rfl rfl (by kernel_rfl) (QP.block (QP.then (QP.then (QP.block (QP.then QP.body))))) (by kernel_rfl) rfl (V_move rfl) ?_
      refine TA_take (i := 1) (is := [0, 0, 0]) (done' := #[true, true, false, false, false, false, false, false, false, false, false, false, false, false, false, false, false, false, false, false, false]) rfl rfl rfl rfl (by kernel_rfl) (QP.block (QP.then (QP.then (QP.block (QP.then QP.body))))) (by kernel_rfl) rfl (V_move rfl) ?_
      refine TA_take (i := 2) (is := [0, 0, 0]) (done' := #[true, true, true, false, false, false, false, false, false, false, false, false, false, false, false, false, false, false, false, false, false]) rfl rfl rfl rfl (by kernel_rfl) (QP.block (QP.then (QP.then (QP.block (QP.then QP.body))))) (by kernel_rfl) rfl (V_bin rfl rfl (fun w => addI w 8 s0.1)) ?_
      refine TA_take (i := 3) (is := [0, 0, 0]) (done' := #[true, true, true, true, false, false, false, false, false, false, false, false, false, false, false, false, false, false, false, false, false]) rfl rfl rfl rfl (by kernel_rfl) (QP.block (QP.then (QP.then (QP.block (QP.then QP.body))))) (by kernel_rfl) rfl (V_fieldE rfl Try.underlying103 rfl rfl TryI.inf81 rfl (v := ptr (some (b1, 0)) 0) rfl) ?_
      refine TA_take (i := 4) (is := [0, 0, 0]) (done' := #[true, true, true, true, true, false, false, false, false, false, false, false, false, false, false, false, false, false, false, false, false]) rfl rfl rfl rfl (by kernel_rfl) (QP.block (QP.then (QP.then (QP.block (QP.then QP.body))))) (by kernel_rfl) rfl (V_load rfl (Src.own (j := 0) rfl) rfl Try.isAgg81) ?_
      refine TA_take (i := 5) (is := [0, 0, 0]) (done' := #[true, true, true, true, true, true, false, false, false, false, false, false, false, false, false, false, false, false, false, false, false]) rfl rfl rfl rfl (by kernel_rfl) (QP.block (QP.then (QP.then (QP.block (QP.then QP.body))))) (by kernel_rfl) rfl (V_move rfl) ?_
      refine TA_take (i := 6) (is := [0, 0, 0]) (done' := #[true, true, true, true, true, true, true, false, false, false, false, false, false, false, false, false, false, false, false, false, false]) rfl rfl rfl rfl (by kernel_rfl) (QP.block (QP.then (QP.then (QP.block (QP.then QP.body))))) (by kernel_rfl) rfl (V_bin rfl rfl (fun w => mulI w 8 s0.1)) ?_
      refine TA_take (i := 7) (is := [0, 0, 0]) (done' := #[true, true, true, true, true, true, true, true, false, false, false, false, false, false, false, false, false, false, false, false, false]) rfl rfl rfl rfl (by kernel_rfl) (QP.block (QP.then (QP.then (QP.block (QP.then QP.body))))) (by kernel_rfl) rfl (V_bin rfl rfl (fun w => subI w 56 (w64 (8 * s0.1)))) ?_
      refine TA_take (i := 8) (is := [0, 0, 0]) (done' := #[true, true, true, true, true, true, true, true, true, false, false, false, false, false, false, false, false, false, false, false, false]) rfl rfl rfl rfl (by kernel_rfl) (QP.block (QP.then (QP.then (QP.block (QP.then QP.body))))) (by kernel_rfl) rfl (V_bin rfl rfl (fun w => shr64 w e_high .i64 (w64 (56 - (w64 (8 * s0.1)))) h1)) ?_
      refine TA_take (i := 9) (is := [0, 0, 0]) (done' := #[true, true, true, true, true, true, true, true, true, true, false, false, false, false, false, false, false, false, false, false, false]) rfl rfl rfl rfl (by kernel_rfl) (QP.block (QP.then (QP.then (QP.block (QP.then QP.body))))) (by kernel_rfl) rfl (V_conv rfl (fun w => cv64to8 w _ _ Try.underlying5 (TryI.und81) (e_high >>> (w64 (56 - (w64 (8 * s0.1)))).toNat))) ?_
      refine TA_take (i := 10) (is := [0, 0, 0]) (done' := #[true, true, true, true, true, true, true, true, true, true, true, false, false, false, false, false, false, false, false, false, false]) rfl rfl rfl rfl (by kernel_rfl) (QP.block (QP.then (QP.then (QP.block (QP.then QP.body))))) (by kernel_rfl) rfl (V_fieldE rfl Try.underlying103 rfl rfl TryI.inf81 rfl (v := ptr (some (b1, 1)) 0) rfl) ?_
      refine TA_take (i := 11) (is := [0, 0, 0]) (done' := #[true, true, true, true, true, true, true, true, true, true, true, true, false, false, false, false, false, false, false, false, false]) rfl rfl rfl rfl (by kernel_rfl) (QP.block (QP.then (QP.then (QP.block (QP.then QP.body))))) (by kernel_rfl) rfl (V_load rfl (Src.own (j := 1) rfl) rfl Try.isAgg81) ?_
      refine TA_take (i := 12) (is := [0, 0, 0]) (done' := #[true, true, true, true, true, true, true, true, true, true, true, true, true, false, false, false, false, false, false, false, false]) rfl rfl rfl rfl (by kernel_rfl) (QP.block (QP.then (QP.then (QP.block (QP.then QP.body))))) (by kernel_rfl) rfl (V_move rfl) ?_
      refine TA_take (i := 13) (is := [0, 0, 0]) (done' := #[true, true, true, true, true, true, true, true, true, true, true, true, true, true, false, false, false, false, false, false, false]) rfl rfl rfl rfl (by kernel_rfl) (QP.block (QP.then (QP.then (QP.block (QP.then QP.body))))) (by kernel_rfl) rfl (V_bin rfl rfl (fun w => mulI w 8 s0.1)) ?_
      refine TA_take (i := 14) (is := [0, 0, 0]) (done' := #[true, true, true, true, true, true, true, true, true, true, true, true, true, true, true, false, false, false, false, false, false]) rfl rfl rfl rfl (by kernel_rfl) (QP.block (QP.then (QP.then (QP.block (QP.then QP.body))))) (by kernel_rfl) rfl (V_bin rfl rfl (fun w => subI w 56 (w64 (8 * s0.1)))) ?_
      refine TA_take (i := 15) (is := [0, 0, 0]) (done' := #[true, true, true, true, true, true, true, true, true, true, true, true, true, true, true, true, false, false, false, false, false]) rfl rfl rfl rfl (by kernel_rfl) (QP.block (QP.then (QP.then (QP.block (QP.then QP.body))))) (by kernel_rfl) rfl (V_bin rfl rfl (fun w => shr64 w e_low .i64 (w64 (56 - (w64 (8 * s0.1)))) h2)) ?_
      refine TA_take (i := 16) (is := [0, 0, 0]) (done' := #[true, true, true, true, true, true, true, true, true, true, true, true, true, true, true, true, true, false, false, false, false]) rfl rfl rfl rfl (by kernel_rfl) (QP.block (QP.then (QP.then (QP.block (QP.then QP.body))))) (by kernel_rfl) rfl (V_conv rfl (fun w => cv64to8 w _ _ Try.underlying5 (TryI.und81) (e_low >>> (w64 (56 - (w64 (8 * s0.1)))).toNat))) ?_
      refine TA_take (i := 17) (is := [0, 0, 0]) (done' := #[true, true, true, true, true, true, true, true, true, true, true, true, true, true, true, true, true, true, false, false, false]) rfl rfl rfl rfl (by kernel_rfl) (QP.block (QP.then (QP.then (QP.block (QP.then QP.body))))) (by kernel_rfl) rfl (V_idxArr (i := s0.1) rfl rfl Try.underlying71 TryI.inf5 rfl h3.1 h3.2 (k := (s0.1).toNat) (k01 _)) ?_
      refine TA_all (rs := [18]) (by kernel_rfl) rfl ?_
      refine ⟨?_, trivial⟩
      refine TO_n (is := [0, 0, 0]) (done' := #[true, true, true, true, true, true, true, true, true, true, true, true, true, true, true, true, true, true, true, false, false]) rfl rfl rfl (by kernel_rfl) (E_store (j := 3) rfl rfl TryI.inf5 rfl rfl rfl (by simpa using (toNat_lt h3.1 h3.2)) (cs' := e8 ((vp s0.2 ((s0.1).toNat) ((e_high >>> (w64 (56 - (w64 (8 * s0.1)))).toNat).setWidth 8)).toList)) set_vec) (fun _ _ => rfl) (fun _ => ?_)
      refine TA_reE (j := 3) (A := some (b3, 0)) (cs := e8 ((vp s0.2 ((s0.1).toNat) ((e_high >>> (w64 (56 - (w64 (8 * s0.1)))).toNat).setWidth 8)).toList)) (cs' := e8 m_1.toList) rfl (congrArg (fun z : Vector (BitVec 8) 16 => e8 (Vector.toList z)) hm_1) ?_
      refine TA_all (rs := [19]) (by kernel_rfl) rfl ?_
      refine ⟨?_, trivial⟩
      refine TO_v (is := [0, 0, 0]) (done' := #[true, true, true, true, true, true, true, true, true, true, true, true, true, true, true, true, true, true, true, true, false]) rfl rfl rfl rfl (by kernel_rfl) (V_idxArr (i := w64 (8 + s0.1)) rfl rfl Try.underlying71 TryI.inf5 rfl h4.1 h4.2 (k := (w64 (8 + s0.1)).toNat) (k01 _)) (fun _ => rfl) ?_
      refine TA_all (rs := [20]) (by kernel_rfl) rfl ?_
      refine ⟨?_, trivial⟩
      refine TO_n (is := []) (R := fun _ => []) (done' := #[true, true, true, true, true, true, true, true, true, true, true, true, true, true, true, true, true, true, true, true, true]) rfl rfl rfl (by kernel_rfl) (E_store (j := 3) rfl rfl TryI.inf5 rfl rfl rfl (by simpa using (toNat_lt h4.1 h4.2)) (cs' := e8 ((vp m_1 ((w64 (8 + s0.1)).toNat) ((e_low >>> (w64 (56 - (w64 (8 * s0.1)))).toNat).setWidth 8)).toList)) set_vec) (fun h => by cases h) (fun _ => ?_)
      refine TA_reE (j := 3) (A := some (b3, 0)) (cs := e8 ((vp m_1 ((w64 (8 + s0.1)).toNat) ((e_low >>> (w64 (56 - (w64 (8 * s0.1)))).toNat).setWidth 8)).toList)) (cs' := e8 m_2.toList) rfl (congrArg (fun z : Vector (BitVec 8) 16 => e8 (Vector.toList z)) hm_2) ?_
      refine TA_done (by kernel_rfl) ?_ 0
      refine TX_block_normal ?_
      refine TX_next ?_
      refine TC_region ?_
      refine TL_v rfl rfl rfl (V_bin rfl rfl (fun w => addI w s0.1 1)) ?_
      refine TL_v rfl rfl rfl (V_move rfl) ?_
      refine TL_nil ?_
      refine TX.sub (m' := [(1, ptr (some (b1, 0)) 0), (2, ptr (some (b2, 0)) 0), (3, ptr (some (b3, 0)) 0), (5, vi (w64 (s0.1 + 1)))]) ⟨rfl, rfl, rfl, rfl, trivial⟩ ?_
      refine TX.pull (is := [0, 0, 0, 0]) (L' := [⟨some (b1, 0), [v64 e_high]⟩, ⟨some (b1, 1), [v64 e_low]⟩, ⟨some (b2, 0), e8 ((Vector.replicate 16 0#8).toList)⟩, ⟨some (b3, 0), e8 m_2.toList⟩]) rfl ?_
      obtain rfl := Option.some.inj H
      exact fun a w hs => hK (w64 (s0.1 + 1), m_2) rfl () a w hs
    · replace H := ite_f (of_decide_eq_false hc) H
      refine TC_exit ?_
      refine TX_then_exit ?_
      refine TX_then_exit ?_
      refine TX.sub (m' := [(2, ptr (some (b2, 0)) 0), (3, ptr (some (b3, 0)) 0)]) ⟨rfl, rfl, trivial⟩ ?_
      refine TX.pull (is := [2, 2]) (L' := [⟨some (b2, 0), e8 ((Vector.replicate 16 0#8).toList)⟩, ⟨some (b3, 0), e8 s0.2.toList⟩]) rfl ?_
      obtain rfl := Option.some.inj H
      exact hE s0.2 rfl ()
  · intro g
    refine TX_block_exit ?_
    refine TX_next ?_
    refine TC_seq ?_
    refine TC_region ?_
    refine TL_v rfl rfl rfl (V_loadAgg (n := 16) rfl (by simp) (Src.own (j := 1) rfl) Try.isAgg71 TryI.inf71 rfl (lenV (f := v8) t_1)) ?_
    refine TL_n rfl rfl (E_storeAgg (n := 16) (j := 0) (vs := e8 t_1.toList) rfl rfl TryI.inf71 rfl (lenV (f := v8) t_1) (OneC.map (fun _ => rfl) _) rfl (Nat.le_of_eq (by simp)) (cs' := e8 t_1.toList) (splice_all (by simp))) (fun _ => ?_)
    refine TL_nil ?_
    refine TX_next ?_
    refine TC_ret ?_
    have hrv := Option.some.inj H
    subst hrv
    exact TX_ret (rs := [.cell 2 71]) (vs := [Value.agg (flat [(16, e8 t_1.toList)]).toArray]) rfl ⟨(Res_agg (n := 16) rfl (by simp) (Src.own (j := 0) rfl) Try.isAgg71 TryI.inf71 rfl (lenV (f := v8) t_1)), trivial⟩ (fun w' hs' => ⟨(), rfl, Step.left (Step.pulled (is := []) (A := []) hs' rfl)⟩)

end Go.Proofs
end

section
namespace Go.Proofs
open Go Go.Kx
set_option linter.unusedVariables false
set_option linter.unusedSimpArgs false
def gcm_counter.b0 (n : BitVec 32) (s0 : Int × Vector (BitVec 8) 16) : Option ((Int × Vector (BitVec 8) 16) ⊕ (Vector (BitVec 8) 16)) :=
  if s0.1 < 4 then (if 0 ≤ w64 (8 * s0.1) then (if 0 ≤ w64 (15 - s0.1) ∧ w64 (15 - s0.1) < (16 : Int) then (ltt (vp s0.2 ((w64 (15 - s0.1)).toNat) ((n >>> (w64 (8 * s0.1)).toNat).setWidth 8)) fun (m_2 : Vector (BitVec 8) 16) => (some (.inl (w64 (s0.1 + 1), m_2)))) else none) else none) else (some (.inr s0.2))

def gcm_counter (nonce : Str) (n : BitVec 32) : Option (Vector (BitVec 8) 16) :=
  ltt (vsp (Vector.replicate 16 0#8) 0 (nonce.take (min ((nonce).length) 16))) fun (m_1 : Vector (BitVec 8) 16) => ((loop (gcm_counter.b0 n) BIG (0, m_1)).bind fun (t_1 : Vector (BitVec 8) 16) => (some t_1))

set_option maxHeartbeats 4000000 in
set_option maxRecDepth 20000 in
theorem F88_calls (nonce : Str) (n : BitVec 32) (r : Vector (BitVec 8) 16) (H : gcm_counter nonce n = some r) :
    Does Try.prog 88 [vs nonce, v32 n] [] [] (Γ := Unit) (fun g => Value.agg (flat [(16, e8 r.toList)]).toArray) (fun g => []) := by
  intro w hmem hro hd
  refine calls_of (N := 23) (m0 := [(0, vs nonce), (1, v32 n)]) Try.func88 rfl Try.ntmps88 (argM_ok [vs nonce, v32 n]) rfl hmem hro hd ?_
  unfold gcm_counter at H
  refine TC_seq ?_
  refine TC_region ?_
  refine TL_e rfl rfl rfl (E_allocP [(16, e8 ((Vector.replicate 16 0#8).toList))] TryI.inf71 TryI.zer71 ⟨(lenV (f := v8) (Vector.replicate 16 0#8)), trivial⟩) (fun b1 => ?_)
  refine TL_nil ?_
  refine TX_next ?_
  refine TC_seq ?_
  refine TC_region ?_
  refine TL_e rfl rfl rfl (E_allocP [(16, e8 ((Vector.replicate 16 0#8).toList))] TryI.inf71 TryI.zer71 ⟨(lenV (f := v8) (Vector.replicate 16 0#8)), trivial⟩) (fun b2 => ?_)
  refine TL_nil ?_
  refine TX_next ?_
  refine TC_seq ?_
  refine TC_region ?_
  refine TL_v rfl rfl rfl (V_sliceArr0 rfl (by simp) Try.underlying71 TryI.inf5 rfl) ?_
  refine TL_v rfl rfl rfl (V_move rfl) ?_
  refine TL_e rfl rfl rfl (E_copyStr (o := 0) (j := 0) (copyA rfl) rfl (by simp) Try.underlying30 TryI.inf5 rfl rfl (copy_vec (l := 0) (d := 16) (by omega)) (cs' := e8 ((vsp (Vector.replicate 16 0#8) 0 (nonce.take (min ((nonce).length) 16))).toList)) (splice_vec (take_room (n := 16) (l := 0) (d := 16) (by omega)))) (fun _ => ?_)
  obtain ⟨m_1, hm_1, H⟩ := ltt_elim H
  refine TL_reE (j := 0) (A := some (b2, 0)) (cs := e8 ((vsp (Vector.replicate 16 0#8) 0 (nonce.take (min ((nonce).length) 16))).toList)) (cs' := e8 m_1.toList) rfl (congrArg (fun z : Vector (BitVec 8) 16 => e8 (Vector.toList z)) hm_1) ?_
  refine TL_nil ?_
  refine TX_next ?_
  refine TC_seq ?_
  refine TC_seq ?_
  refine TC_region ?_
  refine TL_v rfl rfl rfl (V_move rfl) ?_
  refine TL_nil ?_
  refine TX_next ?_
  refine TC_block ?_
  obtain ⟨t_1, Hl, H⟩ := bind_elim H
  refine TC.sub (m' := [(1, v32 n), (4, ptr (some (b1, 0)) 0), (5, ptr (some (b2, 0)) 0), (10, vi 0)]) ⟨rfl, rfl, rfl, rfl, trivial⟩ ?_
  refine TC.pull (is := [1, 0]) (L' := [⟨some (b1, 0), e8 ((Vector.replicate 16 0#8).toList)⟩, ⟨some (b2, 0), e8 m_1.toList⟩]) rfl ?_
  refine TC_loopL (id := 0) (body := (gcm_counter.b0 n)) (σ := Int × Vector (BitVec 8) 16) (Γ := Unit) (Γx := Unit) (fun s0 g0_ => [(1, v32 n), (4, ptr (some (b1, 0)) 0), (5, ptr (some (b2, 0)) 0), (10, vi s0.1)]) (fun s0 g0_ => [⟨some (b1, 0), e8 ((Vector.replicate 16 0#8).toList)⟩, ⟨some (b2, 0), e8 s0.2.toList⟩]) (fun t g => [(4, ptr (some (b1, 0)) 0), (5, ptr (some (b2, 0)) 0)]) (fun t g => [⟨some (b1, 0), e8 ((Vector.replicate 16 0#8).toList)⟩, ⟨some (b2, 0), e8 t.toList⟩]) ?_ BIG (0, m_1) () t_1 Hl ?_
  · intro s0 g0_ r1 H K hK hE
    unfold gcm_counter.b0 at H
    refine TC_seq ?_
    refine TC_region ?_
    refine TL_v rfl rfl rfl (V_bin rfl rfl (fun w => lssI w s0.1 4)) ?_
    refine TL_nil ?_
    refine TX_next ?_
    refine TC_seq ?_
    refine TC_cond (b := (decide (s0.1 < 4))) rfl (fun hc => ?_) (fun hc => ?_)
    · replace H := ite_t (of_decide_eq_true hc) H
      refine TC_skip ?_
      refine TX_next ?_
      refine TC_seq ?_
      refine TC_block ?_
      refine TC_seq ?_
      refine TC_region ?_
      refine TL_v rfl rfl rfl (V_move rfl) ?_
      refine TL_v rfl rfl rfl (V_assign rfl) ?_
      refine TL_nil ?_
      refine TX_next ?_
      refine TC_region ?_
      refine TL_v rfl rfl rfl (V_move rfl) ?_
      refine TL_v rfl rfl rfl (V_bin rfl rfl (fun w => subI w 15 s0.1)) ?_
      refine TL_v rfl rfl rfl (V_move rfl) ?_
      refine TL_v rfl rfl rfl (V_move rfl) ?_
      refine TL_v rfl rfl rfl (V_bin rfl rfl (fun w => mulI w 8 s0.1)) ?_
      obtain ⟨h1, H⟩ := if_elim H
      refine TL_v rfl rfl rfl (V_bin rfl rfl (fun w => shr32 w n .i64 (w64 (8 * s0.1)) h1)) ?_
      refine TL_v rfl rfl rfl (V_conv rfl (fun w => cv32to8 w _ _ Try.underlying5 (TryI.und76) (n >>> (w64 (8 * s0.1)).toNat))) ?_
      obtain ⟨h2, H⟩ := if_elim H
      refine TL_v rfl rfl rfl (V_idxArr (i := w64 (15 - s0.1)) rfl rfl Try.underlying71 TryI.inf5 rfl h2.1 h2.2 (k := (w64 (15 - s0.1)).toNat) (k01 _)) ?_
      refine TL_n rfl rfl (E_store (j := 1) rfl rfl TryI.inf5 rfl rfl rfl (by simpa using (toNat_lt h2.1 h2.2)) (cs' := e8 ((vp s0.2 ((w64 (15 - s0.1)).toNat) ((n >>> (w64 (8 * s0.1)).toNat).setWidth 8)).toList)) set_vec) (fun _ => ?_)
      obtain ⟨m_2, hm_2, H⟩ := ltt_elim H
      refine TL_reE (j := 1) (A := some (b2, 0)) (cs := e8 ((vp s0.2 ((w64 (15 - s0.1)).toNat) ((n >>> (w64 (8 * s0.1)).toNat).setWidth 8)).toList)) (cs' := e8 m_2.toList) rfl (congrArg (fun z : Vector (BitVec 8) 16 => e8 (Vector.toList z)) hm_2) ?_
      refine TL_nil ?_
      refine TX_block_normal ?_
      refine TX_next ?_
      refine TC_region ?_
      refine TL_v rfl rfl rfl (V_bin rfl rfl (fun w => addI w s0.1 1)) ?_
      refine TL_v rfl rfl rfl (V_move rfl) ?_
      refine TL_nil ?_
      refine TX.sub (m' := [(1, v32 n), (4, ptr (some (b1, 0)) 0), (5, ptr (some (b2, 0)) 0), (10, vi (w64 (s0.1 + 1)))]) ⟨rfl, rfl, rfl, rfl, trivial⟩ ?_
      refine TX.pull (is := [0, 0]) (L' := [⟨some (b1, 0), e8 ((Vector.replicate 16 0#8).toList)⟩, ⟨some (b2, 0), e8 m_2.toList⟩]) rfl ?_
      obtain rfl := Option.some.inj H
      exact fun a w hs => hK (w64 (s0.1 + 1), m_2) rfl () a w hs
    · replace H := ite_f (of_decide_eq_false hc) H
      refine TC_exit ?_
      refine TX_then_exit ?_
      refine TX_then_exit ?_
      refine TX.sub (m' := [(4, ptr (some (b1, 0)) 0), (5, ptr (some (b2, 0)) 0)]) ⟨rfl, rfl, trivial⟩ ?_
      refine TX.pull (is := [0, 0]) (L' := [⟨some (b1, 0), e8 ((Vector.replicate 16 0#8).toList)⟩, ⟨some (b2, 0), e8 s0.2.toList⟩]) rfl ?_
      obtain rfl := Option.some.inj H
      exact hE s0.2 rfl ()
  · intro g
    refine TX_block_exit ?_
    refine TX_next ?_
    refine TC_seq ?_
    refine TC_region ?_
    refine TL_v rfl rfl rfl (V_loadAgg (n := 16) rfl (by simp) (Src.own (j := 1) rfl) Try.isAgg71 TryI.inf71 rfl (lenV (f := v8) t_1)) ?_
    refine TL_n rfl rfl (E_storeAgg (n := 16) (j := 0) (vs := e8 t_1.toList) rfl rfl TryI.inf71 rfl (lenV (f := v8) t_1) (OneC.map (fun _ => rfl) _) rfl (Nat.le_of_eq (by simp)) (cs' := e8 t_1.toList) (splice_all (by simp))) (fun _ => ?_)
    refine TL_nil ?_
    refine TX_next ?_
    refine TC_ret ?_
    have hrv := Option.some.inj H
    subst hrv
    exact TX_ret (rs := [.cell 4 71]) (vs := [Value.agg (flat [(16, e8 t_1.toList)]).toArray]) rfl ⟨(Res_agg (n := 16) rfl (by simp) (Src.own (j := 0) rfl) Try.isAgg71 TryI.inf71 rfl (lenV (f := v8) t_1)), trivial⟩ (fun w' hs' => ⟨(), rfl, Step.left (Step.pulled (is := []) (A := []) hs' rfl)⟩)

end Go.Proofs
end

section
namespace Go.Proofs
open Go Go.Kx
set_option linter.unusedVariables false
set_option linter.unusedSimpArgs false
def gcm_Cipher_Xor.b1 (b : List (BitVec 8)) (s0 : Nat × BitVec 32 × List (BitVec 8)) (r_2 : Vector (BitVec 8) 16) (m_1 : Int) (s1 : Int × List (BitVec 8)) : Option ((Int × List (BitVec 8)) ⊕ (List (BitVec 8))) :=
  if s1.1 < m_1 then (if (b).length ≤ (s1.2).length then (if (b).length ≤ (s1.2).length then (if 0 ≤ s1.1 ∧ s1.1 < (((((b).length) - s0.1 : Nat) : Int) : Int) then (if 0 ≤ s1.1 ∧ s1.1 < (16 : Int) then (if (b).length ≤ (s1.2).length then (if (b).length ≤ (s1.2).length then (if 0 ≤ s1.1 ∧ s1.1 < (((((b).length) - s0.1 : Nat) : Int) : Int) then (ltt (s1.2.set (s0.1 + ((s1.1).toNat)) ((lg s1.2 (s0.1 + ((s1.1).toNat))) ^^^ (vg r_2 ((s1.1).toNat)))) fun (m_2 : List (BitVec 8)) => (some (.inl (w64 (s1.1 + 1), m_2)))) else none) else none) else none) else none) else none) else none) else none) else (some (.inr s1.2))

def gcm_Cipher_Xor.b0 (c_aes_table : Vector (BitVec 8) 256) (c_aes_keys : List (Vector (BitVec 8) 16)) (nonce : Str) (b : List (BitVec 8)) (s0 : Nat × BitVec 32 × List (BitVec 8)) : Option ((Nat × BitVec 32 × List (BitVec 8)) ⊕ (List (BitVec 8))) :=
  if 0 < ((((b).length) - s0.1 : Nat) : Int) then ((gcm_counter nonce s0.2.1).bind fun (r_1 : Vector (BitVec 8) 16) => ((aes_Cipher_Encrypt c_aes_table c_aes_keys r_1).bind fun (r_2 : Vector (BitVec 8) 16) => (ltt (min ((((b).length) - s0.1 : Nat) : Int) 16) fun (m_1 : Int) => ((loop (gcm_Cipher_Xor.b1 b s0 r_2 m_1) BIG (0, s0.2.2)).bind fun (t_2 : List (BitVec 8)) => (if 0 ≤ m_1 then (if (b).length ≤ (t_2).length then (if s0.1 ≤ (b).length then (if (m_1).toNat ≤ ((b).length) - s0.1 then (ltt (s0.2.1 + 1#32) fun (n1 : BitVec 32) => (some (.inl (s0.1 + ((m_1).toNat), n1, t_2)))) else none) else none) else none) else none))))) else (some (.inr s0.2.2))

def gcm_Cipher_Xor (c_aes_table : Vector (BitVec 8) 256) (c_aes_keys : List (Vector (BitVec 8) 16)) (c_h_high : BitVec 64) (c_h_low : BitVec 64) (nonce : Str) (b : List (BitVec 8)) : Option (List (BitVec 8)) :=
  (loop (gcm_Cipher_Xor.b0 c_aes_table c_aes_keys nonce b) BIG (0, 2#32, b)).bind fun (t_1 : List (BitVec 8)) => (some t_1)

set_option maxHeartbeats 4000000 in
set_option maxRecDepth 20000 in
theorem F64_calls (bc : Nat) (obc : Nat) (bc_aes : Nat) (obc_aes : Nat) (Ac_aes_keys : Adr) (cc_aes_keys : Nat) (Ab : Adr) (spb : List (BitVec 8)) (c_aes_table : Vector (BitVec 8) 256) (c_aes_keys : List (Vector (BitVec 8) 16)) (c_h_high : BitVec 64) (c_h_low : BitVec 64) (nonce : Str) (b : List (BitVec 8)) (hcc_aes_keys : (c_aes_keys).length ≤ cc_aes_keys) (r : List (BitVec 8)) (H : gcm_Cipher_Xor c_aes_table c_aes_keys c_h_high c_h_low nonce b = some r) :
    Does Try.prog 64 [ptr (some (bc, obc)) 0, vs nonce, sl Ab ((b).length) ((b ++ spb).length)] [⟨Ab, e8 (b ++ spb)⟩] [⟨some (bc, obc), [ptr (some (bc_aes, obc_aes)) 0]⟩, ⟨some (bc, obc + 1), [v64 c_h_high]⟩, ⟨some (bc, obc + 2), [v64 c_h_low]⟩, ⟨some (bc_aes, obc_aes), e8 c_aes_table.toList⟩, ⟨some (bc_aes, obc_aes + 256), [sl Ac_aes_keys ((c_aes_keys).length) cc_aes_keys]⟩, ⟨Ac_aes_keys, eF (fun V : Vector (BitVec 8) 16 => e8 V.toList) c_aes_keys⟩] (Γ := Unit) (fun g => Value.tuple [].toArray) (fun g => [⟨Ab, e8 (r ++ spb)⟩]) := by
  intro w hmem hro hd
  refine calls_of (N := 43) (m0 := [(0, ptr (some (bc, obc)) 0), (1, vs nonce), (2, sl Ab ((b).length) ((b ++ spb).length))]) Try.func64 rfl Try.ntmps64 (argM_ok [ptr (some (bc, obc)) 0, vs nonce, sl Ab ((b).length) ((b ++ spb).length)]) rfl hmem hro hd ?_
  unfold gcm_Cipher_Xor at H
  refine TC_seq ?_
  refine TC_region ?_
  refine TL_v rfl rfl rfl (V_assign rfl) ?_
  refine TL_nil ?_
  refine TX_next ?_
  refine TC_block ?_
  refine TC_re (d := 2) (v := sl Ab ((b).length) ((b ++ spb).length)) (v' := sl (cutB Ab ((b ++ spb).length) 0 0 1) (((b).length) - 0) (((b ++ spb).length) - 0)) rfl (vw_seed 1) ?_
  obtain ⟨t_1, Hl, H⟩ := bind_elim H
  refine TC.sub (m' := [(0, ptr (some (bc, obc)) 0), (1, vs nonce), (2, sl (cutB Ab ((b ++ spb).length) 0 0 1) (((b).length) - 0) (((b ++ spb).length) - 0)), (6, v32 2#32)]) ⟨rfl, rfl, rfl, rfl, trivial⟩ ?_
  refine TC.pull (is := [0]) (L' := [⟨Ab, e8 (b ++ spb)⟩]) rfl ?_
  refine TC_loopL (id := 0) (body := (gcm_Cipher_Xor.b0 c_aes_table c_aes_keys nonce b)) (σ := Nat × BitVec 32 × List (BitVec 8)) (Γ := Nat) (Γx := Unit) (fun s0 g0_ => [(0, ptr (some (bc, obc)) 0), (1, vs nonce), (2, sl (cutB Ab ((s0.2.2 ++ spb).length) s0.1 g0_ 1) (((b).length) - s0.1) (((s0.2.2 ++ spb).length) - s0.1)), (6, v32 s0.2.1)]) (fun s0 g0_ => [⟨Ab, e8 (s0.2.2 ++ spb)⟩]) (fun t g => []) (fun t g => [⟨Ab, e8 (t ++ spb)⟩]) ?_ BIG (0, 2#32, b) 0 t_1 Hl ?_
  · intro s0 g0_ r1 H K hK hE
    unfold gcm_Cipher_Xor.b0 at H
    refine TC_seq ?_
    refine TC_seq ?_
    refine TC_region ?_
    refine TL_v rfl rfl rfl (V_move rfl) ?_
    refine TL_v rfl rfl rfl (V_len_slice rfl Try.underlying30) ?_
    refine TL_v rfl rfl rfl (V_bin rfl rfl (fun w => gtrI w ((((b).length) - s0.1 : Nat) : Int) 0)) ?_
    refine TL_nil ?_
    refine TX_next ?_
    refine TC_cond (b := (decide (0 < ((((b).length) - s0.1 : Nat) : Int)))) rfl (fun hc => ?_) (fun hc => ?_)
    · replace H := ite_t (of_decide_eq_true hc) H
      refine TC_skip ?_
      refine TX_next ?_
      refine TC_seq ?_
      refine TC_block ?_
      refine TC_seq ?_
      obtain ⟨r_1, hr_1, H⟩ := bind_elim H
      obtain ⟨r_2, hr_2, H⟩ := bind_elim H
      refine TC_join (Γ := Nat) (fun gd1 => [(0, ptr (some (bc, obc)) 0), (1, vs nonce), (2, sl (cutB Ab ((s0.2.2 ++ spb).length) s0.1 g0_ 1) (((b).length) - s0.1) (((s0.2.2 ++ spb).length) - s0.1)), (6, v32 s0.2.1), (7, ptr (some (gd1, 0)) 0)]) (fun gd1 => [⟨Ab, e8 (s0.2.2 ++ spb)⟩, ⟨some (gd1, 0), e8 r_2.toList⟩]) ?_ ?_
      · intro gd1
        obtain ⟨b1, hgd⟩ : ∃ z, z = gd1 := ⟨_, rfl⟩; rw [← hgd]; clear hgd
        refine TX_next ?_
        refine TC_seq ?_
        refine TC_region ?_
        refine TL_v rfl rfl rfl (V_move rfl) ?_
        refine TL_v rfl rfl rfl (V_len_slice rfl Try.underlying30) ?_
        refine TL_v rfl rfl rfl (V_min rfl rfl) ?_
        refine TL_v rfl rfl rfl (V_assign rfl) ?_
        obtain ⟨m_1, hm_1, H⟩ := ltt_elim H
        refine TL_re (d := 8) (v := vi (min ((((b).length) - s0.1 : Nat) : Int) 16)) (v' := vi m_1) rfl (congrArg vi hm_1) ?_
        refine TL_nil ?_
        refine TX_next ?_
        refine TC_seq ?_
        refine TC_seq ?_
        refine TC_region ?_
        refine TL_v rfl rfl rfl (V_move rfl) ?_
        refine TL_v rfl rfl rfl (V_move rfl) ?_
        refine TL_nil ?_
        refine TX_next ?_
        refine TC_block ?_
        obtain ⟨t_2, Hl, H⟩ := bind_elim H
        refine TC.sub (m' := [(0, ptr (some (bc, obc)) 0), (1, vs nonce), (2, sl (cutB Ab ((s0.2.2 ++ spb).length) s0.1 g0_ 1) (((b).length) - s0.1) (((s0.2.2 ++ spb).length) - s0.1)), (6, v32 s0.2.1), (7, ptr (some (b1, 0)) 0), (8, vi m_1), (26, vi m_1), (27, vi 0)]) ⟨rfl, rfl, rfl, rfl, rfl, rfl, rfl, rfl, trivial⟩ ?_
        refine TC.pull (is := [0, 0]) (L' := [⟨Ab, e8 (s0.2.2 ++ spb)⟩, ⟨some (b1, 0), e8 r_2.toList⟩]) rfl ?_
        refine TC_loopL (id := 2) (body := (gcm_Cipher_Xor.b1 b s0 r_2 m_1)) (σ := Int × List (BitVec 8)) (Γ := Unit) (Γx := Unit) (fun s1 g1_ => [(0, ptr (some (bc, obc)) 0), (1, vs nonce), (2, sl (cutB Ab ((s1.2 ++ spb).length) s0.1 g0_ 1) (((b).length) - s0.1) (((s1.2 ++ spb).length) - s0.1)), (6, v32 s0.2.1), (7, ptr (some (b1, 0)) 0), (8, vi m_1), (26, vi m_1), (27, vi s1.1)]) (fun s1 g1_ => [⟨Ab, e8 (s1.2 ++ spb)⟩, ⟨some (b1, 0), e8 r_2.toList⟩]) (fun t g => [(0, ptr (some (bc, obc)) 0), (1, vs nonce), (2, sl (cutB Ab ((t ++ spb).length) s0.1 g0_ 1) (((b).length) - s0.1) (((t ++ spb).length) - s0.1)), (6, v32 s0.2.1), (8, vi m_1)]) (fun t g => [⟨Ab, e8 (t ++ spb)⟩]) ?_ BIG (0, s0.2.2) () t_2 Hl ?_
        · intro s1 g1_ r1 H K hK hE
          unfold gcm_Cipher_Xor.b1 at H
          refine TC_seq ?_
          refine TC_region ?_
          refine TL_v rfl rfl rfl (V_bin rfl rfl (fun w => lssI w s1.1 m_1)) ?_
          refine TL_nil ?_
          refine TX_next ?_
          refine TC_seq ?_
          refine TC_cond (b := (decide (s1.1 < m_1))) rfl (fun hc => ?_) (fun hc => ?_)
          · replace H := ite_t (of_decide_eq_true hc) H
            refine TC_skip ?_
            refine TX_next ?_
            refine TC_seq ?_
            refine TC_block ?_
            refine TC_seq ?_
            refine TC_region ?_
            refine TL_v rfl rfl rfl (V_move rfl) ?_
            refine TL_v rfl rfl rfl (V_assign rfl) ?_
            refine TL_nil ?_
            refine TX_next ?_
            obtain ⟨h1, H⟩ := if_elim H
            obtain ⟨h2, H⟩ := if_elim H
            obtain ⟨h3, H⟩ := if_elim H
            obtain ⟨h4, H⟩ := if_elim H
            obtain ⟨h5, H⟩ := if_elim H
            obtain ⟨h6, H⟩ := if_elim H
            obtain ⟨h7, H⟩ := if_elim H
            obtain ⟨m_2, hm_2, H⟩ := ltt_elim H
            refine TA_begin [⟨Ab, e8 (s1.2 ++ spb)⟩, ⟨some (b1, 0), e8 r_2.toList⟩] 9 (by kernel_rfl) (N := 10) rfl ?_
            refine TA_take (i := 0) (is := [0, 0]) (done' := #[true, false, false, false, false, false, false, false, false, false]) rfl rfl rfl rfl (by kernel_rfl) (QP.block (QP.then (QP.then (QP.block (QP.then (QP.block (QP.then (QP.then (QP.block QP.body))))))))) (by kernel_rfl) rfl (V_move rfl) ?_
            refine TA_take (i := 1) (is := [0, 0]) (done' := #[true, true, false, false, false, false, false, false, false, false]) rfl rfl rfl rfl (by kernel_rfl) (QP.block (QP.then (QP.then (QP.block (QP.then (QP.block (QP.then (QP.then (QP.block QP.body))))))))) (by kernel_rfl) rfl (V_move rfl) ?_
            refine TA_take (i := 2) (is := [0, 0]) (done' := #[true, true, true, false, false, false, false, false, false, false]) rfl rfl rfl rfl (by kernel_rfl) (QP.block (QP.then (QP.then (QP.block (QP.then (QP.block (QP.then (QP.then (QP.block QP.body))))))))) (by kernel_rfl) rfl (V_idxVw (i := s1.1) rfl rfl Try.underlying30 TryI.inf5 rfl (Src.own (j := 0) rfl) (map_ne (lt_app (idx_lt h3.2 h3.1 h2))) h3.1 h3.2 (Nat.le_trans h1 (row_le _ _)) (k := s0.1 + ((s1.1).toNat)) (km1 _)) ?_
            refine TA_take (i := 3) (is := [0, 0]) (done' := #[true, true, true, true, false, false, false, false, false, false]) rfl rfl rfl rfl (by kernel_rfl) (QP.block (QP.then (QP.then (QP.block (QP.then (QP.block (QP.then (QP.then (QP.block QP.body))))))))) (by kernel_rfl) rfl (V_load rfl (Src.own (j := 0) rfl) (get_row (f := v8) (l := s1.2) (sp := spb) (idx_lt h3.2 h3.1 h2)) Try.isAgg5) ?_
            refine TA_take (i := 4) (is := [0, 0]) (done' := #[true, true, true, true, true, false, false, false, false, false]) rfl rfl rfl rfl (by kernel_rfl) (QP.block (QP.then (QP.then (QP.block (QP.then (QP.block (QP.then (QP.then (QP.block QP.body))))))))) (by kernel_rfl) rfl (V_move rfl) ?_
            refine TA_take (i := 5) (is := [0, 0]) (done' := #[true, true, true, true, true, true, false, false, false, false]) rfl rfl rfl rfl (by kernel_rfl) (QP.block (QP.then (QP.then (QP.block (QP.then (QP.block (QP.then (QP.then (QP.block QP.body))))))))) (by kernel_rfl) rfl (V_idxArr (i := s1.1) rfl rfl Try.underlying71 TryI.inf5 rfl h4.1 h4.2 (k := (s1.1).toNat) (k01 _)) ?_
            refine TA_take (i := 6) (is := [0, 0]) (done' := #[true, true, true, true, true, true, true, false, false, false]) rfl rfl rfl rfl (by kernel_rfl) (QP.block (QP.then (QP.then (QP.block (QP.then (QP.block (QP.then (QP.then (QP.block QP.body))))))))) (by kernel_rfl) rfl (V_load rfl (Src.own (j := 1) rfl) (get_vec (f := v8) (V := r_2) (toNat_lt h4.1 h4.2)) Try.isAgg5) ?_
            refine TA_take (i := 7) (is := [0, 0]) (done' := #[true, true, true, true, true, true, true, true, false, false]) rfl rfl rfl rfl (by kernel_rfl) (QP.block (QP.then (QP.then (QP.block (QP.then (QP.block (QP.then (QP.then (QP.block QP.body))))))))) (by kernel_rfl) rfl (V_bin rfl rfl (fun w => xor8 w (lg s1.2 (s0.1 + ((s1.1).toNat))) (vg r_2 ((s1.1).toNat)))) ?_
            refine TA_take (i := 8) (is := [0, 0]) (done' := #[true, true, true, true, true, true, true, true, true, false]) rfl rfl rfl rfl (by kernel_rfl) (QP.block (QP.then (QP.then (QP.block (QP.then (QP.block (QP.then (QP.then (QP.block QP.body))))))))) (by kernel_rfl) rfl (V_idxVw (i := s1.1) rfl rfl Try.underlying30 TryI.inf5 rfl (Src.own (j := 0) rfl) (map_ne (lt_app (idx_lt h7.2 h7.1 h6))) h7.1 h7.2 (Nat.le_trans h5 (row_le _ _)) (k := s0.1 + ((s1.1).toNat)) (km1 _)) ?_
            refine TA_all (rs := [9]) (by kernel_rfl) rfl ?_
            refine ⟨?_, trivial⟩
            refine TO_n (is := []) (R := fun _ => []) (done' := #[true, true, true, true, true, true, true, true, true, true]) rfl rfl rfl (by kernel_rfl) (E_store (j := 0) rfl rfl TryI.inf5 rfl rfl rfl (by rw [List.length_map]; exact lt_app (idx_lt h7.2 h7.1 h6)) (cs' := e8 ((s1.2.set (s0.1 + ((s1.1).toNat)) ((lg s1.2 (s0.1 + ((s1.1).toNat))) ^^^ (vg r_2 ((s1.1).toNat)))) ++ spb)) (set_row (idx_lt h7.2 h7.1 h6))) (fun h => by cases h) (fun _ => ?_)
            refine TA_reE (j := 0) (A := Ab) (cs := e8 ((s1.2.set (s0.1 + ((s1.1).toNat)) ((lg s1.2 (s0.1 + ((s1.1).toNat))) ^^^ (vg r_2 ((s1.1).toNat)))) ++ spb)) (cs' := e8 (m_2 ++ spb)) rfl (congrArg (fun z => e8 (z ++ spb)) hm_2) ?_
            refine TA_re (d := 2) (v := sl (cutB Ab ((s1.2 ++ spb).length) s0.1 g0_ 1) (((b).length) - s0.1) (((s1.2 ++ spb).length) - s0.1)) (v' := sl (cutB Ab ((m_2 ++ spb).length) s0.1 g0_ 1) (((b).length) - s0.1) (((m_2 ++ spb).length) - s0.1)) rfl (vw_c (s := 1) (cap_set hm_2)) ?_
            refine TA_re (d := 30) (v := sl (cutB Ab ((s1.2 ++ spb).length) s0.1 g0_ 1) (((b).length) - s0.1) (((s1.2 ++ spb).length) - s0.1)) (v' := sl (cutB Ab ((m_2 ++ spb).length) s0.1 g0_ 1) (((b).length) - s0.1) (((m_2 ++ spb).length) - s0.1)) rfl (vw_c (s := 1) (cap_set hm_2)) ?_
            refine TA_done (by kernel_rfl) ?_ 0
            refine TX_block_normal ?_
            refine TX_next ?_
            refine TC_region ?_
            refine TL_v rfl rfl rfl (V_bin rfl rfl (fun w => addI w s1.1 1)) ?_
            refine TL_v rfl rfl rfl (V_move rfl) ?_
            refine TL_nil ?_
            refine TX.sub (m' := [(0, ptr (some (bc, obc)) 0), (1, vs nonce), (2, sl (cutB Ab ((m_2 ++ spb).length) s0.1 g0_ 1) (((b).length) - s0.1) (((m_2 ++ spb).length) - s0.1)), (6, v32 s0.2.1), (7, ptr (some (b1, 0)) 0), (8, vi m_1), (26, vi m_1), (27, vi (w64 (s1.1 + 1)))]) ⟨rfl, rfl, rfl, rfl, rfl, rfl, rfl, rfl, trivial⟩ ?_
            refine TX.pull (is := [0, 0]) (L' := [⟨Ab, e8 (m_2 ++ spb)⟩, ⟨some (b1, 0), e8 r_2.toList⟩]) rfl ?_
            obtain rfl := Option.some.inj H
            exact fun a w hs => hK (w64 (s1.1 + 1), m_2) rfl () a w hs
          · replace H := ite_f (of_decide_eq_false hc) H
            refine TC_exit ?_
            refine TX_then_exit ?_
            refine TX_then_exit ?_
            refine TX.sub (m' := [(0, ptr (some (bc, obc)) 0), (1, vs nonce), (2, sl (cutB Ab ((s1.2 ++ spb).length) s0.1 g0_ 1) (((b).length) - s0.1) (((s1.2 ++ spb).length) - s0.1)), (6, v32 s0.2.1), (8, vi m_1)]) ⟨rfl, rfl, rfl, rfl, rfl, trivial⟩ ?_
            refine TX.pull (is := [0]) (L' := [⟨Ab, e8 (s1.2 ++ spb)⟩]) rfl ?_
            obtain rfl := Option.some.inj H
            exact hE s1.2 rfl ()
        · intro g
          refine TX_block_exit ?_
          refine TX_next ?_
          refine TC_region ?_
          refine TL_v rfl rfl rfl (V_move rfl) ?_
          refine TL_v rfl rfl rfl (V_move rfl) ?_
          obtain ⟨h8, H⟩ := if_elim H
          obtain ⟨h9, H⟩ := if_elim H
          obtain ⟨h10, H⟩ := if_elim H
          obtain ⟨h11, H⟩ := if_elim H
          refine TL_v rfl rfl rfl (V_sliceVw (l := (m_1).toNat) (h := ((b).length) - s0.1) rfl Try.underlying30 TryI.inf5 rfl (Bnd.some' (i := m_1) rfl h8) Bnd.none' h11 (Nat.le_refl _) (Nat.le_trans h9 (row_le _ _)) (Nat.add_sub_cancel' h10)) ?_
          refine TL_v rfl rfl rfl (V_assign rfl) ?_
          refine TL_nil ?_
          refine TX_block_normal ?_
          refine TX_next ?_
          refine TC_region ?_
          refine TL_v rfl rfl rfl (V_move rfl) ?_
          refine TL_v rfl rfl rfl (V_bin rfl rfl (fun w => add32 w s0.2.1 1#32)) ?_
          refine TL_v rfl rfl rfl (V_assign rfl) ?_
          obtain ⟨n1, hn1, H⟩ := ltt_elim H
          refine TL_re (d := 6) (v := v32 (s0.2.1 + 1#32)) (v' := v32 n1) rfl (congrArg v32 hn1) ?_
          refine TL_nil ?_
          refine TX.sub (m' := [(0, ptr (some (bc, obc)) 0), (1, vs nonce), (2, sl (cutB Ab ((t_2 ++ spb).length) (s0.1 + ((m_1).toNat)) (if (t_2 ++ spb).length = s0.1 then g0_ else s0.1) 1) (((b).length) - (s0.1 + ((m_1).toNat))) (((t_2 ++ spb).length) - (s0.1 + ((m_1).toNat)))), (6, v32 n1)]) ⟨rfl, rfl, rfl, rfl, trivial⟩ ?_
          refine TX.pull (is := [0]) (L' := [⟨Ab, e8 (t_2 ++ spb)⟩]) rfl ?_
          obtain rfl := Option.some.inj H
          exact fun a w hs => hK (s0.1 + ((m_1).toNat), n1, t_2) rfl (if (t_2 ++ spb).length = s0.1 then g0_ else s0.1) a w hs
      · intro hJ
        clear H
        refine TA_begin [⟨Ab, e8 (s0.2.2 ++ spb)⟩] 9 (by kernel_rfl) (N := 10) rfl ?_
        refine TA_take (i := 0) (is := [0]) (done' := #[true, false, false, false, false, false, false, false, false, false]) rfl rfl rfl rfl (by kernel_rfl) (QP.then (QP.block (QP.then (QP.then (QP.block QP.body))))) (by kernel_rfl) rfl (V_move rfl) ?_
        refine TA_take (i := 1) (is := [0]) (done' := #[true, true, false, false, false, false, false, false, false, false]) rfl rfl rfl rfl (by kernel_rfl) (QP.then (QP.block (QP.then (QP.then (QP.block QP.body))))) (by kernel_rfl) rfl (V_nilCheck rfl) ?_
        refine TA_take (i := 2) (is := [0]) (done' := #[true, true, true, false, false, false, false, false, false, false]) rfl rfl rfl rfl (by kernel_rfl) (QP.then (QP.block (QP.then (QP.then (QP.block QP.body))))) (by kernel_rfl) rfl (V_fieldE rfl Try.underlying131 rfl rfl TryI.inf68 rfl (v := ptr (some (bc, obc)) 0) rfl) ?_
        refine TA_take (i := 3) (is := [0]) (done' := #[true, true, true, true, false, false, false, false, false, false]) rfl rfl rfl rfl (by kernel_rfl) (QP.then (QP.block (QP.then (QP.then (QP.block QP.body))))) (by kernel_rfl) rfl (V_load rfl (Src.ro (j := 0) rfl) rfl Try.isAgg68) ?_
        refine TA_take (i := 4) (is := [0]) (done' := #[true, true, true, true, true, false, false, false, false, false]) rfl rfl rfl rfl (by kernel_rfl) (QP.then (QP.block (QP.then (QP.then (QP.block QP.body))))) (by kernel_rfl) rfl (V_move rfl) ?_
        refine TA_take (i := 5) (is := [0]) (done' := #[true, true, true, true, true, true, false, false, false, false]) rfl rfl rfl rfl (by kernel_rfl) (QP.then (QP.block (QP.then (QP.then (QP.block QP.body))))) (by kernel_rfl) rfl (V_move rfl) ?_
        refine TA_all (rs := [6, 8]) (by kernel_rfl) rfl ?_
        refine ⟨?_, ?_, trivial⟩
        · skip
          refine TO_e (is := [0]) (done' := #[true, true, true, true, true, true, true, false, false, false]) rfl rfl rfl rfl (by kernel_rfl) (E_call (Γ := Unit) (val := fun g => Value.agg (flat [(16, e8 r_1.toList)]).toArray) (mem := fun g => []) (vs := [vs nonce, v32 s0.2.1]) (Lin := []) (Ro := []) (is := []) rfl Try.call88 (F88_calls nonce s0.2.1 r_1 hr_1) rfl trivial) (fun _ _ => rfl) (fun g_1 => ?_)
          refine TA_all (rs := [7, 8]) (by kernel_rfl) rfl ?_
          refine ⟨?_, ?_, trivial⟩
          · skip
            refine TO_e (is := [0]) (done' := #[true, true, true, true, true, true, true, true, false, false]) rfl rfl rfl rfl (by kernel_rfl) (E_call (Γ := Unit) (val := fun g => Value.agg (flat [(16, e8 r_2.toList)]).toArray) (mem := fun g => []) (vs := [ptr (some (bc_aes, obc_aes)) 0, Value.agg (flat [(16, e8 r_1.toList)]).toArray]) (Lin := []) (Ro := [⟨some (bc_aes, obc_aes), e8 c_aes_table.toList⟩, ⟨some (bc_aes, obc_aes + 256), [sl Ac_aes_keys ((c_aes_keys).length) cc_aes_keys]⟩, ⟨Ac_aes_keys, eF (fun V : Vector (BitVec 8) 16 => e8 V.toList) c_aes_keys⟩]) (is := []) rfl Try.call51 (F51_calls bc_aes obc_aes Ac_aes_keys cc_aes_keys c_aes_table c_aes_keys r_1 hcc_aes_keys r_2 hr_2) rfl ⟨SrcD.ro (j := 3) rfl, SrcD.ro (j := 4) rfl, SrcD.ro (j := 5) rfl, trivial⟩) (fun _ _ => rfl) (fun g_2 => ?_)
            refine TA_all (rs := [8]) (by kernel_rfl) rfl ?_
            refine ⟨?_, trivial⟩
            refine TO_e (is := [1]) (done' := #[true, true, true, true, true, true, true, true, true, false]) rfl rfl rfl rfl (by kernel_rfl) (E_allocP [(16, e8 ((Vector.replicate 16 0#8).toList))] TryI.inf71 TryI.zer71 ⟨(lenV (f := v8) (Vector.replicate 16 0#8)), trivial⟩) (fun _ _ => rfl) (fun b1 => ?_)
            refine TA_more (Lr2 := [⟨some (b1, 0), e8 ((Vector.replicate 16 0#8).toList)⟩, ⟨Ab, e8 (s0.2.2 ++ spb)⟩]) (is := [1]) (is2 := [0, 0]) rfl rfl ?_
            refine TA_all (rs := [9]) (by kernel_rfl) rfl ?_
            refine ⟨?_, trivial⟩
            refine TO_n (is := []) (R := fun _ => []) (done' := #[true, true, true, true, true, true, true, true, true, true]) rfl rfl rfl (by kernel_rfl) (E_storeAgg (n := 16) (j := 0) (vs := e8 r_2.toList) rfl rfl TryI.inf71 rfl (lenV (f := v8) r_2) (OneC.map (fun _ => rfl) _) rfl (Nat.le_of_eq (by simp)) (cs' := e8 r_2.toList) (splice_all (by simp))) (fun h => by cases h) (fun _ => ?_)
            refine TA_done (by kernel_rfl) ?_ 0
            refine TX.sub (m' := [(0, ptr (some (bc, obc)) 0), (1, vs nonce), (2, sl (cutB Ab ((s0.2.2 ++ spb).length) s0.1 g0_ 1) (((b).length) - s0.1) (((s0.2.2 ++ spb).length) - s0.1)), (6, v32 s0.2.1), (7, ptr (some (b1, 0)) 0)]) ⟨rfl, rfl, rfl, rfl, rfl, trivial⟩ ?_
            refine TX.pull (is := [1, 0]) (L' := [⟨Ab, e8 (s0.2.2 ++ spb)⟩, ⟨some (b1, 0), e8 r_2.toList⟩]) rfl ?_
            exact hJ b1
          · skip
            refine TO_e (is := [1]) (done' := #[true, true, true, true, true, true, true, false, true, false]) rfl rfl rfl rfl (by kernel_rfl) (E_allocP [(16, e8 ((Vector.replicate 16 0#8).toList))] TryI.inf71 TryI.zer71 ⟨(lenV (f := v8) (Vector.replicate 16 0#8)), trivial⟩) (fun _ _ => rfl) (fun b1 => ?_)
            refine TA_more (Lr2 := [⟨some (b1, 0), e8 ((Vector.replicate 16 0#8).toList)⟩, ⟨Ab, e8 (s0.2.2 ++ spb)⟩]) (is := [1]) (is2 := [0, 0]) rfl rfl ?_
            refine TA_all (rs := [7]) (by kernel_rfl) rfl ?_
            refine ⟨?_, trivial⟩
            refine TO_e (is := [0, 0]) (done' := #[true, true, true, true, true, true, true, true, true, false]) rfl rfl rfl rfl (by kernel_rfl) (E_call (Γ := Unit) (val := fun g => Value.agg (flat [(16, e8 r_2.toList)]).toArray) (mem := fun g => []) (vs := [ptr (some (bc_aes, obc_aes)) 0, Value.agg (flat [(16, e8 r_1.toList)]).toArray]) (Lin := []) (Ro := [⟨some (bc_aes, obc_aes), e8 c_aes_table.toList⟩, ⟨some (bc_aes, obc_aes + 256), [sl Ac_aes_keys ((c_aes_keys).length) cc_aes_keys]⟩, ⟨Ac_aes_keys, eF (fun V : Vector (BitVec 8) 16 => e8 V.toList) c_aes_keys⟩]) (is := []) rfl Try.call51 (F51_calls bc_aes obc_aes Ac_aes_keys cc_aes_keys c_aes_table c_aes_keys r_1 hcc_aes_keys r_2 hr_2) rfl ⟨SrcD.ro (j := 3) rfl, SrcD.ro (j := 4) rfl, SrcD.ro (j := 5) rfl, trivial⟩) (fun _ _ => rfl) (fun g_2 => ?_)
            refine TA_all (rs := [9]) (by kernel_rfl) rfl ?_
            refine ⟨?_, trivial⟩
            refine TO_n (is := []) (R := fun _ => []) (done' := #[true, true, true, true, true, true, true, true, true, true]) rfl rfl rfl (by kernel_rfl) (E_storeAgg (n := 16) (j := 0) (vs := e8 r_2.toList) rfl rfl TryI.inf71 rfl (lenV (f := v8) r_2) (OneC.map (fun _ => rfl) _) rfl (Nat.le_of_eq (by simp)) (cs' := e8 r_2.toList) (splice_all (by simp))) (fun h => by cases h) (fun _ => ?_)
            refine TA_done (by kernel_rfl) ?_ 0
            refine TX.sub (m' := [(0, ptr (some (bc, obc)) 0), (1, vs nonce), (2, sl (cutB Ab ((s0.2.2 ++ spb).length) s0.1 g0_ 1) (((b).length) - s0.1) (((s0.2.2 ++ spb).length) - s0.1)), (6, v32 s0.2.1), (7, ptr (some (b1, 0)) 0)]) ⟨rfl, rfl, rfl, rfl, rfl, trivial⟩ ?_
            refine TX.pull (is := [1, 0]) (L' := [⟨Ab, e8 (s0.2.2 ++ spb)⟩, ⟨some (b1, 0), e8 r_2.toList⟩]) rfl ?_
            exact hJ b1
        · skip
          refine TO_e (is := [1]) (done' := #[true, true, true, true, true, true, false, false, true, false]) rfl rfl rfl rfl (by kernel_rfl) (E_allocP [(16, e8 ((Vector.replicate 16 0#8).toList))] TryI.inf71 TryI.zer71 ⟨(lenV (f := v8) (Vector.replicate 16 0#8)), trivial⟩) (fun _ _ => rfl) (fun b1 => ?_)
          refine TA_more (Lr2 := [⟨some (b1, 0), e8 ((Vector.replicate 16 0#8).toList)⟩, ⟨Ab, e8 (s0.2.2 ++ spb)⟩]) (is := [1]) (is2 := [0, 0]) rfl rfl ?_
          refine TA_all (rs := [6]) (by kernel_rfl) rfl ?_
          refine ⟨?_, trivial⟩
          refine TO_e (is := [0, 0]) (done' := #[true, true, true, true, true, true, true, false, true, false]) rfl rfl rfl rfl (by kernel_rfl) (E_call (Γ := Unit) (val := fun g => Value.agg (flat [(16, e8 r_1.toList)]).toArray) (mem := fun g => []) (vs := [vs nonce, v32 s0.2.1]) (Lin := []) (Ro := []) (is := []) rfl Try.call88 (F88_calls nonce s0.2.1 r_1 hr_1) rfl trivial) (fun _ _ => rfl) (fun g_1 => ?_)
          refine TA_all (rs := [7]) (by kernel_rfl) rfl ?_
          refine ⟨?_, trivial⟩
          refine TO_e (is := [0, 0]) (done' := #[true, true, true, true, true, true, true, true, true, false]) rfl rfl rfl rfl (by kernel_rfl) (E_call (Γ := Unit) (val := fun g => Value.agg (flat [(16, e8 r_2.toList)]).toArray) (mem := fun g => []) (vs := [ptr (some (bc_aes, obc_aes)) 0, Value.agg (flat [(16, e8 r_1.toList)]).toArray]) (Lin := []) (Ro := [⟨some (bc_aes, obc_aes), e8 c_aes_table.toList⟩, ⟨some (bc_aes, obc_aes + 256), [sl Ac_aes_keys ((c_aes_keys).length) cc_aes_keys]⟩, ⟨Ac_aes_keys, eF (fun V : Vector (BitVec 8) 16 => e8 V.toList) c_aes_keys⟩]) (is := []) rfl Try.call51 (F51_calls bc_aes obc_aes Ac_aes_keys cc_aes_keys c_aes_table c_aes_keys r_1 hcc_aes_keys r_2 hr_2) rfl ⟨SrcD.ro (j := 3) rfl, SrcD.ro (j := 4) rfl, SrcD.ro (j := 5) rfl, trivial⟩) (fun _ _ => rfl) (fun g_2 => ?_)
          refine TA_all (rs := [9]) (by kernel_rfl) rfl ?_
          refine ⟨?_, trivial⟩
          refine TO_n (is := []) (R := fun _ => []) (done' := #[true, true, true, true, true, true, true, true, true, true]) rfl rfl rfl (by kernel_rfl) (E_storeAgg (n := 16) (j := 0) (vs := e8 r_2.toList) rfl rfl TryI.inf71 rfl (lenV (f := v8) r_2) (OneC.map (fun _ => rfl) _) rfl (Nat.le_of_eq (by simp)) (cs' := e8 r_2.toList) (splice_all (by simp))) (fun h => by cases h) (fun _ => ?_)
          refine TA_done (by kernel_rfl) ?_ 0
          refine TX.sub (m' := [(0, ptr (some (bc, obc)) 0), (1, vs nonce), (2, sl (cutB Ab ((s0.2.2 ++ spb).length) s0.1 g0_ 1) (((b).length) - s0.1) (((s0.2.2 ++ spb).length) - s0.1)), (6, v32 s0.2.1), (7, ptr (some (b1, 0)) 0)]) ⟨rfl, rfl, rfl, rfl, rfl, trivial⟩ ?_
          refine TX.pull (is := [1, 0]) (L' := [⟨Ab, e8 (s0.2.2 ++ spb)⟩, ⟨some (b1, 0), e8 r_2.toList⟩]) rfl ?_
          exact hJ b1
    · replace H := ite_f (of_decide_eq_false hc) H
      refine TC_exit ?_
      refine TX_then_exit ?_
      refine TX_then_exit ?_
      refine TX.sub (m' := []) trivial ?_
      refine TX.pull (is := [0]) (L' := [⟨Ab, e8 (s0.2.2 ++ spb)⟩]) rfl ?_
      obtain rfl := Option.some.inj H
      exact hE s0.2.2 rfl ()
  · intro g
    refine TX_block_exit ?_
    have hrv := Option.some.inj H
    subst hrv
    exact TX_end (rs := []) (vs := []) rfl trivial (fun w' hs' => ⟨(), rfl, Step.left (Step.pulled (is := [0]) (A := [⟨Ab, e8 (t_1 ++ spb)⟩]) hs' rfl)⟩)

end Go.Proofs
end

section
namespace Go.Proofs
open Go Go.Kx
set_option linter.unusedVariables false
set_option linter.unusedSimpArgs false
def gcm_Cipher_Tag.b0 (r_8 : Vector (BitVec 8) 16) (s0 : Int × Vector (BitVec 8) 16) : Option ((Int × Vector (BitVec 8) 16) ⊕ (Vector (BitVec 8) 16)) :=
  if s0.1 < 16 then (if 0 ≤ s0.1 ∧ s0.1 < (16 : Int) then (if 0 ≤ s0.1 ∧ s0.1 < (16 : Int) then (if 0 ≤ s0.1 ∧ s0.1 < (16 : Int) then (ltt (vp s0.2 ((s0.1).toNat) ((vg s0.2 ((s0.1).toNat)) ^^^ (vg r_8 ((s0.1).toNat)))) fun (m_1 : Vector (BitVec 8) 16) => (some (.inl (w64 (s0.1 + 1), m_1)))) else none) else none) else none) else (some (.inr s0.2))

def gcm_Cipher_Tag (c_aes_table : Vector (BitVec 8) 256) (c_aes_keys : List (Vector (BitVec 8) 16)) (c_h_high : BitVec 64) (c_h_low : BitVec 64) (nonce : Str) (aad : Str) (b : List (BitVec 8)) : Option (Str) :=
  (gcm_newSum c_h_high c_h_low).bind fun (r_1 : (Vector (BitVec 64 × BitVec 64) 16) × Vector (BitVec 64) 16) => ((gcm_sum_all r_1.1 r_1.2 0#64 0#64 aad).bind fun (r_2 : BitVec 64 × BitVec 64) => ((gcm_sum_all r_1.1 r_1.2 r_2.1 r_2.2 b).bind fun (r_3 : BitVec 64 × BitVec 64) => ((gcm_element_bytes ((BitVec.ofInt 64 ((aad).length : Int)) * 8#64) ((BitVec.ofInt 64 ((b).length : Int)) * 8#64)).bind fun (r_4 : Vector (BitVec 8) 16) => ((gcm_sum_add r_1.1 r_1.2 r_3.1 r_3.2 r_4.toList).bind fun (r_5 : BitVec 64 × BitVec 64) => ((gcm_element_bytes r_5.1 r_5.2).bind fun (r_6 : Vector (BitVec 8) 16) => ((gcm_counter nonce 1#32).bind fun (r_7 : Vector (BitVec 8) 16) => ((aes_Cipher_Encrypt c_aes_table c_aes_keys r_7).bind fun (r_8 : Vector (BitVec 8) 16) => ((loop (gcm_Cipher_Tag.b0 r_8) BIG (0, r_6)).bind fun (t_1 : Vector (BitVec 8) 16) => (some t_1.toList)))))))))

set_option maxHeartbeats 4000000 in
set_option maxRecDepth 20000 in
theorem F65_calls (bc : Nat) (obc : Nat) (bc_aes : Nat) (obc_aes : Nat) (Ac_aes_keys : Adr) (cc_aes_keys : Nat) (Ab : Adr) (cb : Nat) (c_aes_table : Vector (BitVec 8) 256) (c_aes_keys : List (Vector (BitVec 8) 16)) (c_h_high : BitVec 64) (c_h_low : BitVec 64) (nonce : Str) (aad : Str) (b : List (BitVec 8)) (hcc_aes_keys : (c_aes_keys).length ≤ cc_aes_keys) (hcb : (b).length ≤ cb) (r : Str) (H : gcm_Cipher_Tag c_aes_table c_aes_keys c_h_high c_h_low nonce aad b = some r) :
    Does Try.prog 65 [ptr (some (bc, obc)) 0, vs nonce, vs aad, sl Ab ((b).length) cb] [] [⟨some (bc, obc), [ptr (some (bc_aes, obc_aes)) 0]⟩, ⟨some (bc, obc + 1), [v64 c_h_high]⟩, ⟨some (bc, obc + 2), [v64 c_h_low]⟩, ⟨some (bc_aes, obc_aes), e8 c_aes_table.toList⟩, ⟨some (bc_aes, obc_aes + 256), [sl Ac_aes_keys ((c_aes_keys).length) cc_aes_keys]⟩, ⟨Ac_aes_keys, eF (fun V : Vector (BitVec 8) 16 => e8 V.toList) c_aes_keys⟩, ⟨Ab, e8 b⟩] (Γ := Unit) (fun g => vs r) (fun g => []) := by
  intro w hmem hro hd
  refine calls_of (N := 67) (m0 := [(0, ptr (some (bc, obc)) 0), (1, vs nonce), (2, vs aad), (3, sl Ab ((b).length) cb)]) Try.func65 rfl Try.ntmps65 (argM_ok [ptr (some (bc, obc)) 0, vs nonce, vs aad, sl Ab ((b).length) cb]) rfl hmem hro hd ?_
  unfold gcm_Cipher_Tag at H
  refine TC_seq ?_
  refine TC_region ?_
  refine TL_v rfl rfl rfl (V_assign rfl) ?_
  refine TL_nil ?_
  refine TX_next ?_
  refine TC_seq ?_
  refine TC_region ?_
  refine TL_v rfl rfl rfl (V_move rfl) ?_
  refine TL_v rfl rfl rfl (V_nilCheck rfl) ?_
  refine TL_v rfl rfl rfl (V_fieldE rfl Try.underlying131 rfl rfl TryI.inf103 rfl (v := ptr (some (bc, obc + 1)) 0) rfl) ?_
  refine TL_v rfl rfl rfl (V_loadAgg (n := 2) (cs := flat [(1, [v64 c_h_high]), (1, [v64 c_h_low])]) rfl (by simp) (SrcEnts (b := bc) [(1, [v64 c_h_high]), (1, [v64 c_h_low])] (obc + 1) ⟨rfl, rfl, trivial⟩ (AllSrc.all (M := ents bc (obc + 1) [(1, [v64 c_h_high]), (1, [v64 c_h_low])]) ⟨Src.ro (j := 1) rfl, Src.ro (j := 2) rfl, trivial⟩)) Try.isAgg103 TryI.inf103 rfl (flat_len ⟨rfl, rfl, trivial⟩ rfl)) ?_
  obtain ⟨r_1, hr_1, H⟩ := bind_elim H
  refine TL_e rfl rfl rfl (E_call (Γ := Nat) (val := fun g => ptr (some (g, 0)) 0) (mem := fun g => [⟨some (g, 0), eF (fun p : BitVec 64 × BitVec 64 => [v64 p.1, v64 p.2]) r_1.1.toList⟩, ⟨some (g, 32), e64 r_1.2.toList⟩, ⟨some (g, 48), [v64 0#64]⟩, ⟨some (g, 49), [v64 0#64]⟩]) (vs := [Value.agg (flat [(1, [v64 c_h_high]), (1, [v64 c_h_low])]).toArray]) (Lin := []) (Ro := []) (is := []) rfl Try.call69 (F69_calls c_h_high c_h_low r_1 hr_1) rfl trivial) (fun g_1 => ?_)
  refine TL_v rfl rfl rfl (V_assign rfl) ?_
  refine TL_nil ?_
  refine TX_next ?_
  refine TC_seq ?_
  refine TC_region ?_
  refine TL_v rfl rfl rfl (V_move rfl) ?_
  refine TL_v rfl rfl rfl (V_move rfl) ?_
  refine TL_e rfl rfl rfl (E_s2bR rfl Try.underlying9 Try.underlying30 Try.underlying5) (fun g_2 => ?_)
  obtain ⟨r_2, hr_2, H⟩ := bind_elim H
  refine TL_e rfl rfl rfl (E_call (Γ := Unit) (val := fun g => Value.tuple [].toArray) (mem := fun g => [⟨some (g_1, 48), [v64 r_2.1]⟩, ⟨some (g_1, 49), [v64 r_2.2]⟩]) (vs := [ptr (some (g_1, 0)) 0, sl (some (g_2.1, 0)) ((aad).length) ((aad ++ g_2.2).length)]) (Lin := [⟨some (g_1, 48), [v64 0#64]⟩, ⟨some (g_1, 49), [v64 0#64]⟩]) (Ro := [⟨some (g_1, 0), eF (fun p : BitVec 64 × BitVec 64 => [v64 p.1, v64 p.2]) r_1.1.toList⟩, ⟨some (g_1, 32), e64 r_1.2.toList⟩, ⟨some (g_2.1, 0), e8 aad⟩]) (is := [3, 3]) rfl Try.call71 (F71_calls g_1 0 (some (g_2.1, 0)) ((aad ++ g_2.2).length) r_1.1 r_1.2 0#64 0#64 aad (row_le _ _) r_2 hr_2) rfl ⟨SrcD.own (j := 1) rfl, SrcD.own (j := 2) rfl, (srcdRow (SrcD.own (j := 0) rfl)), trivial⟩) (fun g_3 => ?_)
  refine TL_nil ?_
  refine TX_next ?_
  refine TC_seq ?_
  refine TC_region ?_
  refine TL_v rfl rfl rfl (V_move rfl) ?_
  refine TL_v rfl rfl rfl (V_move rfl) ?_
  obtain ⟨r_3, hr_3, H⟩ := bind_elim H
  refine TL_e rfl rfl rfl (E_call (Γ := Unit) (val := fun g => Value.tuple [].toArray) (mem := fun g => [⟨some (g_1, 48), [v64 r_3.1]⟩, ⟨some (g_1, 49), [v64 r_3.2]⟩]) (vs := [ptr (some (g_1, 0)) 0, sl Ab ((b).length) cb]) (Lin := [⟨some (g_1, 48), [v64 r_2.1]⟩, ⟨some (g_1, 49), [v64 r_2.2]⟩]) (Ro := [⟨some (g_1, 0), eF (fun p : BitVec 64 × BitVec 64 => [v64 p.1, v64 p.2]) r_1.1.toList⟩, ⟨some (g_1, 32), e64 r_1.2.toList⟩, ⟨Ab, e8 b⟩]) (is := [0, 0]) rfl Try.call71 (F71_calls g_1 0 Ab cb r_1.1 r_1.2 r_2.1 r_2.2 b hcb r_3 hr_3) rfl ⟨SrcD.own (j := 1) rfl, SrcD.own (j := 2) rfl, SrcD.ro (j := 6) rfl, trivial⟩) (fun g_4 => ?_)
  refine TL_nil ?_
  refine TX_next ?_
  refine TC_seq ?_
  refine TC_region ?_
  refine TL_v rfl rfl rfl (V_move rfl) ?_
  refine TL_v rfl rfl rfl (V_len_str rfl Try.underlying9) ?_
  refine TL_v rfl rfl rfl (V_conv rfl (fun w => cvI64 w _ _ Try.underlying81 (TryI.und3) .i64 ((aad).length : Int))) ?_
  refine TL_v rfl rfl rfl (V_bin rfl rfl (fun w => mul64 w (BitVec.ofInt 64 ((aad).length : Int)) 8#64)) ?_
  refine TL_v rfl rfl rfl (V_move rfl) ?_
  refine TL_v rfl rfl rfl (V_len_slice rfl Try.underlying30) ?_
  refine TL_v rfl rfl rfl (V_conv rfl (fun w => cvI64 w _ _ Try.underlying81 (TryI.und3) .i64 ((b).length : Int))) ?_
  refine TL_v rfl rfl rfl (V_bin rfl rfl (fun w => mul64 w (BitVec.ofInt 64 ((b).length : Int)) 8#64)) ?_
  refine TL_v rfl rfl rfl (V_buildStruct (pv := [(0, v64 ((BitVec.ofInt 64 ((aad).length : Int)) * 8#64)), (1, v64 ((BitVec.ofInt 64 ((b).length : Int)) * 8#64))]) (pl := [(0, 1), (1, 1)]) rfl rfl Try.underlying103 TryI.inf103 TryI.places103 TryI.zer103 (cs := flat [(1, [v64 ((BitVec.ofInt 64 ((aad).length : Int)) * 8#64)]), (1, [v64 ((BitVec.ofInt 64 ((b).length : Int)) * 8#64)])]) (by kernel_rfl)) ?_
  refine TL_e rfl rfl rfl (E_allocP [(1, [v64 0#64]), (1, [v64 0#64])] TryI.inf103 TryI.zer103 ⟨rfl, rfl, trivial⟩) (fun b1 => ?_)
  refine TL_n rfl rfl (E_storeParts (b := b1) (o := 0) (n := 2) (is := [0, 0]) [(1, [v64 0#64]), (1, [v64 0#64])] [(1, [v64 ((BitVec.ofInt 64 ((aad).length : Int)) * 8#64)]), (1, [v64 ((BitVec.ofInt 64 ((b).length : Int)) * 8#64)])] rfl rfl rfl TryI.inf103 rfl ⟨rfl, rfl, trivial⟩ ⟨rfl, rfl, trivial⟩ (flat_len ⟨rfl, rfl, trivial⟩ rfl) (flat_len ⟨rfl, rfl, trivial⟩ rfl) (flat_onec ⟨(OneC.cons rfl OneC.nil), (OneC.cons rfl OneC.nil), trivial⟩)) (fun _ => ?_)
  refine TL_nil ?_
  refine TX_next ?_
  refine TC_seq ?_
  refine TC_region ?_
  refine TL_v rfl rfl rfl (V_loadAgg (n := 2) (cs := flat [(1, [v64 ((BitVec.ofInt 64 ((aad).length : Int)) * 8#64)]), (1, [v64 ((BitVec.ofInt 64 ((b).length : Int)) * 8#64)])]) rfl (by simp) (SrcEnts (b := b1) [(1, [v64 ((BitVec.ofInt 64 ((aad).length : Int)) * 8#64)]), (1, [v64 ((BitVec.ofInt 64 ((b).length : Int)) * 8#64)])] 0 ⟨rfl, rfl, trivial⟩ (AllSrc.all (M := ents b1 0 [(1, [v64 ((BitVec.ofInt 64 ((aad).length : Int)) * 8#64)]), (1, [v64 ((BitVec.ofInt 64 ((b).length : Int)) * 8#64)])]) ⟨Src.own (j := 0) rfl, Src.own (j := 1) rfl, trivial⟩)) Try.isAgg103 TryI.inf103 rfl (flat_len ⟨rfl, rfl, trivial⟩ rfl)) ?_
  obtain ⟨r_4, hr_4, H⟩ := bind_elim H
  refine TL_e rfl rfl rfl (E_call (Γ := Unit) (val := fun g => Value.agg (flat [(16, e8 r_4.toList)]).toArray) (mem := fun g => []) (vs := [Value.agg (flat [(1, [v64 ((BitVec.ofInt 64 ((aad).length : Int)) * 8#64)]), (1, [v64 ((BitVec.ofInt 64 ((b).length : Int)) * 8#64)])]).toArray]) (Lin := []) (Ro := []) (is := []) rfl Try.call72 (F72_calls ((BitVec.ofInt 64 ((aad).length : Int)) * 8#64) ((BitVec.ofInt 64 ((b).length : Int)) * 8#64) r_4 hr_4) rfl trivial) (fun g_5 => ?_)
  refine TL_e rfl rfl rfl (E_allocP [(16, e8 ((Vector.replicate 16 0#8).toList))] TryI.inf71 TryI.zer71 ⟨(lenV (f := v8) (Vector.replicate 16 0#8)), trivial⟩) (fun b2 => ?_)
  refine TL_n rfl rfl (E_storeAgg (n := 16) (j := 0) (vs := e8 r_4.toList) rfl rfl TryI.inf71 rfl (lenV (f := v8) r_4) (OneC.map (fun _ => rfl) _) rfl (Nat.le_of_eq (by simp)) (cs' := e8 r_4.toList) (splice_all (by simp))) (fun _ => ?_)
  refine TL_nil ?_
  refine TX_next ?_
  refine TC.sub (m' := [(0, ptr (some (bc, obc)) 0), (1, vs nonce), (9, ptr (some (g_1, 0)) 0), (11, ptr (some (b2, 0)) 0)]) ⟨rfl, rfl, rfl, rfl, trivial⟩ ?_
  refine TC_seq ?_
  refine TC_region ?_
  refine TL_v rfl rfl rfl (V_move rfl) ?_
  refine TL_v rfl rfl rfl (V_sliceArr0 rfl (by simp) Try.underlying71 TryI.inf5 rfl) ?_
  refine TL_re (d := 39) (v := sl (some (b2, 0)) 16 16) (v' := sl (some (b2, 0)) ((r_4.toList).length) ((r_4.toList).length)) rfl (congrArg (fun n => sl (some (b2, 0)) n n) vec_tl.symm) ?_
  obtain ⟨r_5, hr_5, H⟩ := bind_elim H
  refine TL_e rfl rfl rfl (E_call (Γ := Unit) (val := fun g => Value.tuple [].toArray) (mem := fun g => [⟨some (g_1, 48), [v64 r_5.1]⟩, ⟨some (g_1, 49), [v64 r_5.2]⟩]) (vs := [ptr (some (g_1, 0)) 0, sl (some (b2, 0)) ((r_4.toList).length) ((r_4.toList).length)]) (Lin := [⟨some (g_1, 48), [v64 r_3.1]⟩, ⟨some (g_1, 49), [v64 r_3.2]⟩]) (Ro := [⟨some (g_1, 0), eF (fun p : BitVec 64 × BitVec 64 => [v64 p.1, v64 p.2]) r_1.1.toList⟩, ⟨some (g_1, 32), e64 r_1.2.toList⟩, ⟨some (b2, 0), e8 r_4.toList⟩]) (is := [3, 3]) rfl Try.call89 (F89_calls g_1 0 (some (b2, 0)) ((r_4.toList).length) r_1.1 r_1.2 r_3.1 r_3.2 r_4.toList (Nat.le_refl _) r_5 hr_5) rfl ⟨SrcD.own (j := 4) rfl, SrcD.own (j := 5) rfl, SrcD.own (j := 0) rfl, trivial⟩) (fun g_6 => ?_)
  refine TL_nil ?_
  refine TX_next ?_
  refine TC_seq ?_
  refine TC_region ?_
  refine TL_v rfl rfl rfl (V_move rfl) ?_
  refine TL_v rfl rfl rfl (V_nilCheck rfl) ?_
  refine TL_v rfl rfl rfl (V_fieldE rfl Try.underlying108 rfl rfl TryI.inf103 rfl (v := ptr (some (g_1, 48)) 0) rfl) ?_
  refine TL_v rfl rfl rfl (V_loadAgg (n := 2) (cs := flat [(1, [v64 r_5.1]), (1, [v64 r_5.2])]) rfl (by simp) (SrcEnts (b := g_1) [(1, [v64 r_5.1]), (1, [v64 r_5.2])] 48 ⟨rfl, rfl, trivial⟩ (AllSrc.all (M := ents g_1 48 [(1, [v64 r_5.1]), (1, [v64 r_5.2])]) ⟨Src.own (j := 0) rfl, Src.own (j := 1) rfl, trivial⟩)) Try.isAgg103 TryI.inf103 rfl (flat_len ⟨rfl, rfl, trivial⟩ rfl)) ?_
  obtain ⟨r_6, hr_6, H⟩ := bind_elim H
  refine TL_e rfl rfl rfl (E_call (Γ := Unit) (val := fun g => Value.agg (flat [(16, e8 r_6.toList)]).toArray) (mem := fun g => []) (vs := [Value.agg (flat [(1, [v64 r_5.1]), (1, [v64 r_5.2])]).toArray]) (Lin := []) (Ro := []) (is := []) rfl Try.call72 (F72_calls r_5.1 r_5.2 r_6 hr_6) rfl trivial) (fun g_7 => ?_)
  refine TL_e rfl rfl rfl (E_allocP [(16, e8 ((Vector.replicate 16 0#8).toList))] TryI.inf71 TryI.zer71 ⟨(lenV (f := v8) (Vector.replicate 16 0#8)), trivial⟩) (fun b3 => ?_)
  refine TL_n rfl rfl (E_storeAgg (n := 16) (j := 0) (vs := e8 r_6.toList) rfl rfl TryI.inf71 rfl (lenV (f := v8) r_6) (OneC.map (fun _ => rfl) _) rfl (Nat.le_of_eq (by simp)) (cs' := e8 r_6.toList) (splice_all (by simp))) (fun _ => ?_)
  refine TL_nil ?_
  refine TX_next ?_
  refine TC_seq ?_
  obtain ⟨r_7, hr_7, H⟩ := bind_elim H
  obtain ⟨r_8, hr_8, H⟩ := bind_elim H
  refine TC_join (Γ := Nat) (fun gd1 => [(12, ptr (some (b3, 0)) 0), (13, ptr (some (gd1, 0)) 0)]) (fun gd1 => [⟨some (b3, 0), e8 r_6.toList⟩, ⟨some (gd1, 0), e8 r_8.toList⟩]) ?_ ?_
  · intro gd1
    obtain ⟨b4, hgd⟩ : ∃ z, z = gd1 := ⟨_, rfl⟩; rw [← hgd]; clear hgd
    refine TX_next ?_
    refine TC_seq ?_
    refine TC_seq ?_
    refine TC_region ?_
    refine TL_v rfl rfl rfl (V_move rfl) ?_
    refine TL_nil ?_
    refine TX_next ?_
    refine TC_block ?_
    obtain ⟨t_1, Hl, H⟩ := bind_elim H
    refine TC.sub (m' := [(12, ptr (some (b3, 0)) 0), (13, ptr (some (b4, 0)) 0), (53, vi 0)]) ⟨rfl, rfl, rfl, trivial⟩ ?_
    refine TC.pull (is := [0, 0]) (L' := [⟨some (b3, 0), e8 r_6.toList⟩, ⟨some (b4, 0), e8 r_8.toList⟩]) rfl ?_
    refine TC_loopL (id := 0) (body := (gcm_Cipher_Tag.b0 r_8)) (σ := Int × Vector (BitVec 8) 16) (Γ := Unit) (Γx := Unit) (fun s0 g0_ => [(12, ptr (some (b3, 0)) 0), (13, ptr (some (b4, 0)) 0), (53, vi s0.1)]) (fun s0 g0_ => [⟨some (b3, 0), e8 s0.2.toList⟩, ⟨some (b4, 0), e8 r_8.toList⟩]) (fun t g => [(12, ptr (some (b3, 0)) 0)]) (fun t g => [⟨some (b3, 0), e8 t.toList⟩]) ?_ BIG (0, r_6) () t_1 Hl ?_
    · intro s0 g0_ r1 H K hK hE
      unfold gcm_Cipher_Tag.b0 at H
      refine TC_seq ?_
      refine TC_region ?_
      refine TL_v rfl rfl rfl (V_bin rfl rfl (fun w => lssI w s0.1 16)) ?_
      refine TL_nil ?_
      refine TX_next ?_
      refine TC_seq ?_
      refine TC_cond (b := (decide (s0.1 < 16))) rfl (fun hc => ?_) (fun hc => ?_)
      · replace H := ite_t (of_decide_eq_true hc) H
        refine TC_skip ?_
        refine TX_next ?_
        refine TC_seq ?_
        refine TC_block ?_
        refine TC_seq ?_
        refine TC_region ?_
        refine TL_v rfl rfl rfl (V_move rfl) ?_
        refine TL_v rfl rfl rfl (V_assign rfl) ?_
        refine TL_nil ?_
        refine TX_next ?_
        obtain ⟨h1, H⟩ := if_elim H
        obtain ⟨h2, H⟩ := if_elim H
        obtain ⟨h3, H⟩ := if_elim H
        obtain ⟨m_1, hm_1, H⟩ := ltt_elim H
        refine TA_begin [⟨some (b3, 0), e8 s0.2.toList⟩, ⟨some (b4, 0), e8 r_8.toList⟩] 8 (by kernel_rfl) (N := 9) rfl ?_
        refine TA_take (i := 0) (is := [0, 0]) (done' := #[true, false, false, false, false, false, false, false, false]) rfl rfl rfl rfl (by kernel_rfl) (QP.block (QP.then (QP.then (QP.block (QP.then QP.body))))) (by kernel_rfl) rfl (V_move rfl) ?_
        refine TA_take (i := 1) (is := [0, 0]) (done' := #[true, true, false, false, false, false, false, false, false]) rfl rfl rfl rfl (by kernel_rfl) (QP.block (QP.then (QP.then (QP.block (QP.then QP.body))))) (by kernel_rfl) rfl (V_idxArr (i := s0.1) rfl rfl Try.underlying71 TryI.inf5 rfl h1.1 h1.2 (k := (s0.1).toNat) (k01 _)) ?_
        refine TA_take (i := 2) (is := [0, 0]) (done' := #[true, true, true, false, false, false, false, false, false]) rfl rfl rfl rfl (by kernel_rfl) (QP.block (QP.then (QP.then (QP.block (QP.then QP.body))))) (by kernel_rfl) rfl (V_load rfl (Src.own (j := 0) rfl) (get_vec (f := v8) (V := s0.2) (toNat_lt h1.1 h1.2)) Try.isAgg5) ?_
        refine TA_take (i := 3) (is := [0, 0]) (done' := #[true, true, true, true, false, false, false, false, false]) rfl rfl rfl rfl (by kernel_rfl) (QP.block (QP.then (QP.then (QP.block (QP.then QP.body))))) (by kernel_rfl) rfl (V_move rfl) ?_
        refine TA_take (i := 4) (is := [0, 0]) (done' := #[true, true, true, true, true, false, false, false, false]) rfl rfl rfl rfl (by kernel_rfl) (QP.block (QP.then (QP.then (QP.block (QP.then QP.body))))) (by kernel_rfl) rfl (V_idxArr (i := s0.1) rfl rfl Try.underlying71 TryI.inf5 rfl h2.1 h2.2 (k := (s0.1).toNat) (k01 _)) ?_
        refine TA_take (i := 5) (is := [0, 0]) (done' := #[true, true, true, true, true, true, false, false, false]) rfl rfl rfl rfl (by kernel_rfl) (QP.block (QP.then (QP.then (QP.block (QP.then QP.body))))) (by kernel_rfl) rfl (V_load rfl (Src.own (j := 1) rfl) (get_vec (f := v8) (V := r_8) (toNat_lt h2.1 h2.2)) Try.isAgg5) ?_
        refine TA_take (i := 6) (is := [0, 0]) (done' := #[true, true, true, true, true, true, true, false, false]) rfl rfl rfl rfl (by kernel_rfl) (QP.block (QP.then (QP.then (QP.block (QP.then QP.body))))) (by kernel_rfl) rfl (V_bin rfl rfl (fun w => xor8 w (vg s0.2 ((s0.1).toNat)) (vg r_8 ((s0.1).toNat)))) ?_
        refine TA_take (i := 7) (is := [0, 0]) (done' := #[true, true, true, true, true, true, true, true, false]) rfl rfl rfl rfl (by kernel_rfl) (QP.block (QP.then (QP.then (QP.block (QP.then QP.body))))) (by kernel_rfl) rfl (V_idxArr (i := s0.1) rfl rfl Try.underlying71 TryI.inf5 rfl h3.1 h3.2 (k := (s0.1).toNat) (k01 _)) ?_
        refine TA_all (rs := [8]) (by kernel_rfl) rfl ?_
        refine ⟨?_, trivial⟩
        refine TO_n (is := []) (R := fun _ => []) (done' := #[true, true, true, true, true, true, true, true, true]) rfl rfl rfl (by kernel_rfl) (E_store (j := 0) rfl rfl TryI.inf5 rfl rfl rfl (by simpa using (toNat_lt h3.1 h3.2)) (cs' := e8 ((vp s0.2 ((s0.1).toNat) ((vg s0.2 ((s0.1).toNat)) ^^^ (vg r_8 ((s0.1).toNat)))).toList)) set_vec) (fun h => by cases h) (fun _ => ?_)
        refine TA_reE (j := 0) (A := some (b3, 0)) (cs := e8 ((vp s0.2 ((s0.1).toNat) ((vg s0.2 ((s0.1).toNat)) ^^^ (vg r_8 ((s0.1).toNat)))).toList)) (cs' := e8 m_1.toList) rfl (congrArg (fun z : Vector (BitVec 8) 16 => e8 (Vector.toList z)) hm_1) ?_
        refine TA_done (by kernel_rfl) ?_ 0
        refine TX_block_normal ?_
        refine TX_next ?_
        refine TC_region ?_
        refine TL_v rfl rfl rfl (V_bin rfl rfl (fun w => addI w s0.1 1)) ?_
        refine TL_v rfl rfl rfl (V_move rfl) ?_
        refine TL_nil ?_
        refine TX.sub (m' := [(12, ptr (some (b3, 0)) 0), (13, ptr (some (b4, 0)) 0), (53, vi (w64 (s0.1 + 1)))]) ⟨rfl, rfl, rfl, trivial⟩ ?_
        refine TX.pull (is := [0, 0]) (L' := [⟨some (b3, 0), e8 m_1.toList⟩, ⟨some (b4, 0), e8 r_8.toList⟩]) rfl ?_
        obtain rfl := Option.some.inj H
        exact fun a w hs => hK (w64 (s0.1 + 1), m_1) rfl () a w hs
      · replace H := ite_f (of_decide_eq_false hc) H
        refine TC_exit ?_
        refine TX_then_exit ?_
        refine TX_then_exit ?_
        refine TX.sub (m' := [(12, ptr (some (b3, 0)) 0)]) ⟨rfl, trivial⟩ ?_
        refine TX.pull (is := [0]) (L' := [⟨some (b3, 0), e8 s0.2.toList⟩]) rfl ?_
        obtain rfl := Option.some.inj H
        exact hE s0.2 rfl ()
    · intro g
      refine TX_block_exit ?_
      refine TX_next ?_
      refine TC_seq ?_
      refine TC_region ?_
      refine TL_v rfl rfl rfl (V_sliceArr0 rfl (by simp) Try.underlying71 TryI.inf5 rfl) ?_
      refine TL_v rfl rfl rfl (V_b2s rfl Try.underlying30 Try.underlying5 Try.underlying9 (Src.own (j := 0) rfl) (by simp)) ?_
      refine TL_v rfl rfl rfl (V_assign rfl) ?_
      refine TL_nil ?_
      refine TX_next ?_
      refine TC_ret ?_
      have hrv := Option.some.inj H
      subst hrv
      exact TX_ret (rs := [.tmp 8]) (vs := [vs t_1.toList]) rfl ⟨rfl, trivial⟩ (fun w' hs' => ⟨(), rfl, Step.left (Step.pulled (is := []) (A := []) hs' rfl)⟩)
  · intro hJ
    clear H
    refine TA_begin [⟨some (b3, 0), e8 r_6.toList⟩, ⟨some (g_1, 48), [v64 r_5.1]⟩, ⟨some (g_1, 49), [v64 r_5.2]⟩, ⟨some (b2, 0), e8 r_4.toList⟩, ⟨some (b1, 0), [v64 ((BitVec.ofInt 64 ((aad).length : Int)) * 8#64)]⟩, ⟨some (b1, 1), [v64 ((BitVec.ofInt 64 ((b).length : Int)) * 8#64)]⟩, ⟨some (g_2.1, 0), e8 (aad ++ g_2.2)⟩, ⟨some (g_1, 0), eF (fun p : BitVec 64 × BitVec 64 => [v64 p.1, v64 p.2]) r_1.1.toList⟩, ⟨some (g_1, 32), e64 r_1.2.toList⟩] 8 (by kernel_rfl) (N := 9) rfl ?_
    refine TA_take (i := 0) (is := [0, 0, 0, 0, 0, 0, 0, 0, 0]) (done' := #[true, false, false, false, false, false, false, false, false]) rfl rfl rfl rfl (by kernel_rfl) (QP.then QP.body) (by kernel_rfl) rfl (V_move rfl) ?_
    refine TA_take (i := 1) (is := [0, 0, 0, 0, 0, 0, 0, 0, 0]) (done' := #[true, true, false, false, false, false, false, false, false]) rfl rfl rfl rfl (by kernel_rfl) (QP.then QP.body) (by kernel_rfl) rfl (V_nilCheck rfl) ?_
    refine TA_take (i := 2) (is := [0, 0, 0, 0, 0, 0, 0, 0, 0]) (done' := #[true, true, true, false, false, false, false, false, false]) rfl rfl rfl rfl (by kernel_rfl) (QP.then QP.body) (by kernel_rfl) rfl (V_fieldE rfl Try.underlying131 rfl rfl TryI.inf68 rfl (v := ptr (some (bc, obc)) 0) rfl) ?_
    refine TA_take (i := 3) (is := [0, 0, 0, 0, 0, 0, 0, 0, 0]) (done' := #[true, true, true, true, false, false, false, false, false]) rfl rfl rfl rfl (by kernel_rfl) (QP.then QP.body) (by kernel_rfl) rfl (V_load rfl (Src.ro (j := 0) rfl) rfl Try.isAgg68) ?_
    refine TA_take (i := 4) (is := [0, 0, 0, 0, 0, 0, 0, 0, 0]) (done' := #[true, true, true, true, true, false, false, false, false]) rfl rfl rfl rfl (by kernel_rfl) (QP.then QP.body) (by kernel_rfl) rfl (V_move rfl) ?_
    refine TA_all (rs := [5, 7]) (by kernel_rfl) rfl ?_
    refine ⟨?_, ?_, trivial⟩
    · skip
      refine TO_e (is := [0, 0, 0, 0, 0, 0, 0, 0, 0]) (done' := #[true, true, true, true, true, true, false, false, false]) rfl rfl rfl rfl (by kernel_rfl) (E_call (Γ := Unit) (val := fun g => Value.agg (flat [(16, e8 r_7.toList)]).toArray) (mem := fun g => []) (vs := [vs nonce, v32 1#32]) (Lin := []) (Ro := []) (is := []) rfl Try.call88 (F88_calls nonce 1#32 r_7 hr_7) rfl trivial) (fun _ _ => rfl) (fun g_8 => ?_)
      refine TA_all (rs := [6, 7]) (by kernel_rfl) rfl ?_
      refine ⟨?_, ?_, trivial⟩
      · skip
        refine TO_e (is := [0, 0, 0, 0, 0, 0, 0, 0, 0]) (done' := #[true, true, true, true, true, true, true, false, false]) rfl rfl rfl rfl (by kernel_rfl) (E_call (Γ := Unit) (val := fun g => Value.agg (flat [(16, e8 r_8.toList)]).toArray) (mem := fun g => []) (vs := [ptr (some (bc_aes, obc_aes)) 0, Value.agg (flat [(16, e8 r_7.toList)]).toArray]) (Lin := []) (Ro := [⟨some (bc_aes, obc_aes), e8 c_aes_table.toList⟩, ⟨some (bc_aes, obc_aes + 256), [sl Ac_aes_keys ((c_aes_keys).length) cc_aes_keys]⟩, ⟨Ac_aes_keys, eF (fun V : Vector (BitVec 8) 16 => e8 V.toList) c_aes_keys⟩]) (is := []) rfl Try.call51 (F51_calls bc_aes obc_aes Ac_aes_keys cc_aes_keys c_aes_table c_aes_keys r_7 hcc_aes_keys r_8 hr_8) rfl ⟨SrcD.ro (j := 3) rfl, SrcD.ro (j := 4) rfl, SrcD.ro (j := 5) rfl, trivial⟩) (fun _ _ => rfl) (fun g_9 => ?_)
        refine TA_all (rs := [7]) (by kernel_rfl) rfl ?_
        refine ⟨?_, trivial⟩
        refine TO_e (is := [1, 1, 1, 1, 1, 1, 1, 1, 1]) (done' := #[true, true, true, true, true, true, true, true, false]) rfl rfl rfl rfl (by kernel_rfl) (E_allocP [(16, e8 ((Vector.replicate 16 0#8).toList))] TryI.inf71 TryI.zer71 ⟨(lenV (f := v8) (Vector.replicate 16 0#8)), trivial⟩) (fun _ _ => rfl) (fun b4 => ?_)
        refine TA_more (Lr2 := [⟨some (b4, 0), e8 ((Vector.replicate 16 0#8).toList)⟩, ⟨some (b3, 0), e8 r_6.toList⟩, ⟨some (g_1, 48), [v64 r_5.1]⟩, ⟨some (g_1, 49), [v64 r_5.2]⟩, ⟨some (b2, 0), e8 r_4.toList⟩, ⟨some (b1, 0), [v64 ((BitVec.ofInt 64 ((aad).length : Int)) * 8#64)]⟩, ⟨some (b1, 1), [v64 ((BitVec.ofInt 64 ((b).length : Int)) * 8#64)]⟩, ⟨some (g_2.1, 0), e8 (aad ++ g_2.2)⟩, ⟨some (g_1, 0), eF (fun p : BitVec 64 × BitVec 64 => [v64 p.1, v64 p.2]) r_1.1.toList⟩, ⟨some (g_1, 32), e64 r_1.2.toList⟩]) (is := [1, 1, 1, 1, 1, 1, 1, 1, 1]) (is2 := [0, 0, 0, 0, 0, 0, 0, 0, 0, 0]) rfl rfl ?_
        refine TA_all (rs := [8]) (by kernel_rfl) rfl ?_
        refine ⟨?_, trivial⟩
        refine TO_n (is := []) (R := fun _ => []) (done' := #[true, true, true, true, true, true, true, true, true]) rfl rfl rfl (by kernel_rfl) (E_storeAgg (n := 16) (j := 0) (vs := e8 r_8.toList) rfl rfl TryI.inf71 rfl (lenV (f := v8) r_8) (OneC.map (fun _ => rfl) _) rfl (Nat.le_of_eq (by simp)) (cs' := e8 r_8.toList) (splice_all (by simp))) (fun h => by cases h) (fun _ => ?_)
        refine TA_done (by kernel_rfl) ?_ 0
        refine TX.sub (m' := [(12, ptr (some (b3, 0)) 0), (13, ptr (some (b4, 0)) 0)]) ⟨rfl, rfl, trivial⟩ ?_
        refine TX.pull (is := [1, 0]) (L' := [⟨some (b3, 0), e8 r_6.toList⟩, ⟨some (b4, 0), e8 r_8.toList⟩]) rfl ?_
        exact hJ b4
      · skip
        refine TO_e (is := [1, 1, 1, 1, 1, 1, 1, 1, 1]) (done' := #[true, true, true, true, true, true, false, true, false]) rfl rfl rfl rfl (by kernel_rfl) (E_allocP [(16, e8 ((Vector.replicate 16 0#8).toList))] TryI.inf71 TryI.zer71 ⟨(lenV (f := v8) (Vector.replicate 16 0#8)), trivial⟩) (fun _ _ => rfl) (fun b4 => ?_)
        refine TA_more (Lr2 := [⟨some (b4, 0), e8 ((Vector.replicate 16 0#8).toList)⟩, ⟨some (b3, 0), e8 r_6.toList⟩, ⟨some (g_1, 48), [v64 r_5.1]⟩, ⟨some (g_1, 49), [v64 r_5.2]⟩, ⟨some (b2, 0), e8 r_4.toList⟩, ⟨some (b1, 0), [v64 ((BitVec.ofInt 64 ((aad).length : Int)) * 8#64)]⟩, ⟨some (b1, 1), [v64 ((BitVec.ofInt 64 ((b).length : Int)) * 8#64)]⟩, ⟨some (g_2.1, 0), e8 (aad ++ g_2.2)⟩, ⟨some (g_1, 0), eF (fun p : BitVec 64 × BitVec 64 => [v64 p.1, v64 p.2]) r_1.1.toList⟩, ⟨some (g_1, 32), e64 r_1.2.toList⟩]) (is := [1, 1, 1, 1, 1, 1, 1, 1, 1]) (is2 := [0, 0, 0, 0, 0, 0, 0, 0, 0, 0]) rfl rfl ?_
        refine TA_all (rs := [6]) (by kernel_rfl) rfl ?_
        refine ⟨?_, trivial⟩
        refine TO_e (is := [0, 0, 0, 0, 0, 0, 0, 0, 0, 0]) (done' := #[true, true, true, true, true, true, true, true, false]) rfl rfl rfl rfl (by kernel_rfl) (E_call (Γ := Unit) (val := fun g => Value.agg (flat [(16, e8 r_8.toList)]).toArray) (mem := fun g => []) (vs := [ptr (some (bc_aes, obc_aes)) 0, Value.agg (flat [(16, e8 r_7.toList)]).toArray]) (Lin := []) (Ro := [⟨some (bc_aes, obc_aes), e8 c_aes_table.toList⟩, ⟨some (bc_aes, obc_aes + 256), [sl Ac_aes_keys ((c_aes_keys).length) cc_aes_keys]⟩, ⟨Ac_aes_keys, eF (fun V : Vector (BitVec 8) 16 => e8 V.toList) c_aes_keys⟩]) (is := []) rfl Try.call51 (F51_calls bc_aes obc_aes Ac_aes_keys cc_aes_keys c_aes_table c_aes_keys r_7 hcc_aes_keys r_8 hr_8) rfl ⟨SrcD.ro (j := 3) rfl, SrcD.ro (j := 4) rfl, SrcD.ro (j := 5) rfl, trivial⟩) (fun _ _ => rfl) (fun g_9 => ?_)
        refine TA_all (rs := [8]) (by kernel_rfl) rfl ?_
        refine ⟨?_, trivial⟩
        refine TO_n (is := []) (R := fun _ => []) (done' := #[true, true, true, true, true, true, true, true, true]) rfl rfl rfl (by kernel_rfl) (E_storeAgg (n := 16) (j := 0) (vs := e8 r_8.toList) rfl rfl TryI.inf71 rfl (lenV (f := v8) r_8) (OneC.map (fun _ => rfl) _) rfl (Nat.le_of_eq (by simp)) (cs' := e8 r_8.toList) (splice_all (by simp))) (fun h => by cases h) (fun _ => ?_)
        refine TA_done (by kernel_rfl) ?_ 0
        refine TX.sub (m' := [(12, ptr (some (b3, 0)) 0), (13, ptr (some (b4, 0)) 0)]) ⟨rfl, rfl, trivial⟩ ?_
        refine TX.pull (is := [1, 0]) (L' := [⟨some (b3, 0), e8 r_6.toList⟩, ⟨some (b4, 0), e8 r_8.toList⟩]) rfl ?_
        exact hJ b4
    · skip
      refine TO_e (is := [1, 1, 1, 1, 1, 1, 1, 1, 1]) (done' := #[true, true, true, true, true, false, false, true, false]) rfl rfl rfl rfl (by kernel_rfl) (E_allocP [(16, e8 ((Vector.replicate 16 0#8).toList))] TryI.inf71 TryI.zer71 ⟨(lenV (f := v8) (Vector.replicate 16 0#8)), trivial⟩) (fun _ _ => rfl) (fun b4 => ?_)
      refine TA_more (Lr2 := [⟨some (b4, 0), e8 ((Vector.replicate 16 0#8).toList)⟩, ⟨some (b3, 0), e8 r_6.toList⟩, ⟨some (g_1, 48), [v64 r_5.1]⟩, ⟨some (g_1, 49), [v64 r_5.2]⟩, ⟨some (b2, 0), e8 r_4.toList⟩, ⟨some (b1, 0), [v64 ((BitVec.ofInt 64 ((aad).length : Int)) * 8#64)]⟩, ⟨some (b1, 1), [v64 ((BitVec.ofInt 64 ((b).length : Int)) * 8#64)]⟩, ⟨some (g_2.1, 0), e8 (aad ++ g_2.2)⟩, ⟨some (g_1, 0), eF (fun p : BitVec 64 × BitVec 64 => [v64 p.1, v64 p.2]) r_1.1.toList⟩, ⟨some (g_1, 32), e64 r_1.2.toList⟩]) (is := [1, 1, 1, 1, 1, 1, 1, 1, 1]) (is2 := [0, 0, 0, 0, 0, 0, 0, 0, 0, 0]) rfl rfl ?_
      refine TA_all (rs := [5]) (by kernel_rfl) rfl ?_
      refine ⟨?_, trivial⟩
      refine TO_e (is := [0, 0, 0, 0, 0, 0, 0, 0, 0, 0]) (done' := #[true, true, true, true, true, true, false, true, false]) rfl rfl rfl rfl (by kernel_rfl) (E_call (Γ := Unit) (val := fun g => Value.agg (flat [(16, e8 r_7.toList)]).toArray) (mem := fun g => []) (vs := [vs nonce, v32 1#32]) (Lin := []) (Ro := []) (is := []) rfl Try.call88 (F88_calls nonce 1#32 r_7 hr_7) rfl trivial) (fun _ _ => rfl) (fun g_8 => ?_)
      refine TA_all (rs := [6]) (by kernel_rfl) rfl ?_
      refine ⟨?_, trivial⟩
      refine TO_e (is := [0, 0, 0, 0, 0, 0, 0, 0, 0, 0]) (done' := #[true, true, true, true, true, true, true, true, false]) rfl rfl rfl rfl (by kernel_rfl) (E_call (Γ := Unit) (val := fun g => Value.agg (flat [(16, e8 r_8.toList)]).toArray) (mem := fun g => []) (vs := [ptr (some (bc_aes, obc_aes)) 0, Value.agg (flat [(16, e8 r_7.toList)]).toArray]) (Lin := []) (Ro := [⟨some (bc_aes, obc_aes), e8 c_aes_table.toList⟩, ⟨some (bc_aes, obc_aes + 256), [sl Ac_aes_keys ((c_aes_keys).length) cc_aes_keys]⟩, ⟨Ac_aes_keys, eF (fun V : Vector (BitVec 8) 16 => e8 V.toList) c_aes_keys⟩]) (is := []) rfl Try.call51 (F51_calls bc_aes obc_aes Ac_aes_keys cc_aes_keys c_aes_table c_aes_keys r_7 hcc_aes_keys r_8 hr_8) rfl ⟨SrcD.ro (j := 3) rfl, SrcD.ro (j := 4) rfl, SrcD.ro (j := 5) rfl, trivial⟩) (fun _ _ => rfl) (fun g_9 => ?_)
      refine TA_all (rs := [8]) (by kernel_rfl) rfl ?_
      refine ⟨?_, trivial⟩
      refine TO_n (is := []) (R := fun _ => []) (done' := #[true, true, true, true, true, true, true, true, true]) rfl rfl rfl (by kernel_rfl) (E_storeAgg (n := 16) (j := 0) (vs := e8 r_8.toList) rfl rfl TryI.inf71 rfl (lenV (f := v8) r_8) (OneC.map (fun _ => rfl) _) rfl (Nat.le_of_eq (by simp)) (cs' := e8 r_8.toList) (splice_all (by simp))) (fun h => by cases h) (fun _ => ?_)
      refine TA_done (by kernel_rfl) ?_ 0
      refine TX.sub (m' := [(12, ptr (some (b3, 0)) 0), (13, ptr (some (b4, 0)) 0)]) ⟨rfl, rfl, trivial⟩ ?_
      refine TX.pull (is := [1, 0]) (L' := [⟨some (b3, 0), e8 r_6.toList⟩, ⟨some (b4, 0), e8 r_8.toList⟩]) rfl ?_
      exact hJ b4

end Go.Proofs
end

section
namespace Go.Proofs
open Go Go.Kx
set_option linter.unusedVariables false
set_option linter.unusedSimpArgs false
def gcm_New (key : Str) : Option ((Unit) ⊕ (Vector (BitVec 8) 256 × Nat × List (Vector (BitVec 8) 16) × BitVec 64 × BitVec 64)) :=
  (aes_New key).bind fun (r_1 : (Unit) ⊕ (Vector (BitVec 8) 256 × Nat × List (Vector (BitVec 8) 16))) => (match r_1 with | .inl r_1 => (some (.inl ())) | .inr r_1 => (if r_1.2.1 = (r_1.2.2).length then ((aes_Cipher_Encrypt r_1.1 r_1.2.2 (Vector.replicate 16 0#8 : Vector (BitVec 8) 16)).bind fun (r_2 : Vector (BitVec 8) 16) => ((gcm_load r_2.toList).bind fun (r_3 : BitVec 64 × BitVec 64) => (some (.inr (r_1.1, (r_1.2.2).length, r_1.2.2, r_3.1, r_3.2))))) else none))

set_option maxHeartbeats 4000000 in
set_option maxRecDepth 20000 in
theorem F62_calls (key : Str) (r : (Unit) ⊕ (Vector (BitVec 8) 256 × Nat × List (Vector (BitVec 8) 16) × BitVec 64 × BitVec 64)) (H : gcm_New key = some r) :
    Does Try.prog 62 [vs key] [] [] (Γ := Unit × (Nat × Nat × Nat)) (fun g => match r with | .inl r => Value.tuple [Value.pointer none, vb false].toArray | .inr r => Value.tuple [ptr (some (g.2.1, 0)) 0, vb true].toArray) (fun g => match r with | .inl r => [] | .inr r => [⟨some (g.2.1, 0), [ptr (some (g.2.2.1, 0)) 0]⟩, ⟨some (g.2.2.1, 0), e8 r.1.toList⟩, ⟨some (g.2.2.1, 256), [sl (some (g.2.2.2, 0)) r.2.1 r.2.1]⟩, ⟨some (g.2.2.2, 0), eF (fun V : Vector (BitVec 8) 16 => e8 V.toList) r.2.2.1⟩, ⟨some (g.2.1, 1), [v64 r.2.2.2.1]⟩, ⟨some (g.2.1, 2), [v64 r.2.2.2.2]⟩]) := by
  intro w hmem hro hd
  refine calls_of (N := 22) (m0 := [(0, vs key)]) Try.func62 rfl Try.ntmps62 (argM_ok [vs key]) rfl hmem hro hd ?_
  unfold gcm_New at H
  refine TC_seq ?_
  refine TC_region ?_
  refine TL_v rfl rfl rfl (V_assign rfl) ?_
  refine TL_v rfl rfl rfl (V_assign rfl) ?_
  refine TL_nil ?_
  refine TX_next ?_
  refine TC_seq ?_
  refine TC_region ?_
  refine TL_v rfl rfl rfl (V_move rfl) ?_
  obtain ⟨r_1, hr_1, H⟩ := bind_elim H
  rcases r_1 with r_1 | r_1
  · dsimp only at H
    refine TL_e rfl rfl rfl (E_call (Γ := Unit × (Nat × Nat)) (val := fun g => Value.tuple [Value.pointer none, vb false].toArray) (mem := fun g => []) (vs := [vs key]) (Lin := []) (Ro := []) (is := []) rfl Try.call50 (F50_calls key (.inl r_1) hr_1) rfl trivial) (fun g_1 => ?_)
    refine TL_v rfl rfl rfl (V_move rfl) ?_
    refine TL_v rfl rfl rfl (V_extract (vs := [Value.pointer none, vb false]) rfl rfl) ?_
    refine TL_v rfl rfl rfl (V_extract (vs := [Value.pointer none, vb false]) rfl rfl) ?_
    refine TL_v rfl rfl rfl (V_assign rfl) ?_
    refine TL_v rfl rfl rfl (V_assign rfl) ?_
    refine TL_nil ?_
    refine TX_next ?_
    refine TC_seq ?_
    refine TC_seq ?_
    refine TC_region ?_
    refine TL_v rfl rfl rfl (V_move rfl) ?_
    refine TL_v rfl rfl rfl (V_un rfl (fun w => notB w false)) ?_
    refine TL_nil ?_
    refine TX_next ?_
    refine TC_cond_t rfl ?_
    refine TC_seq ?_
    refine TC_region ?_
    refine TL_v rfl rfl rfl (V_assign rfl) ?_
    refine TL_v rfl rfl rfl (V_assign rfl) ?_
    refine TL_nil ?_
    refine TX_next ?_
    refine TC_ret ?_
    refine TX_then_ret ?_
    have hrv := Option.some.inj H
    subst hrv
    exact TX_ret (rs := [.tmp 2, .tmp 3]) (vs := [Value.pointer none, vb false]) rfl ⟨rfl, rfl, trivial⟩ (fun w' hs' => ⟨((), ((default : Nat), (default : Nat), (default : Nat))), rfl, Step.left (Step.pulled (is := []) (A := []) hs' rfl)⟩)
  · dsimp only at H
    refine TL_e rfl rfl rfl (E_call (Γ := Unit × (Nat × Nat)) (val := fun g => Value.tuple [ptr (some (g.2.1, 0)) 0, vb true].toArray) (mem := fun g => [⟨some (g.2.1, 0), e8 r_1.1.toList⟩, ⟨some (g.2.1, 256), [sl (some (g.2.2, 0)) r_1.2.1 r_1.2.1]⟩, ⟨some (g.2.2, 0), eF (fun V : Vector (BitVec 8) 16 => e8 V.toList) r_1.2.2⟩]) (vs := [vs key]) (Lin := []) (Ro := []) (is := []) rfl Try.call50 (F50_calls key (.inr r_1) hr_1) rfl trivial) (fun g_2 => ?_)
    refine TL_v rfl rfl rfl (V_move rfl) ?_
    refine TL_v rfl rfl rfl (V_extract (vs := [ptr (some (g_2.2.1, 0)) 0, vb true]) rfl rfl) ?_
    refine TL_v rfl rfl rfl (V_extract (vs := [ptr (some (g_2.2.1, 0)) 0, vb true]) rfl rfl) ?_
    refine TL_v rfl rfl rfl (V_assign rfl) ?_
    refine TL_v rfl rfl rfl (V_assign rfl) ?_
    refine TL_nil ?_
    refine TX_next ?_
    refine TC_seq ?_
    refine TC_seq ?_
    refine TC_region ?_
    refine TL_v rfl rfl rfl (V_move rfl) ?_
    refine TL_v rfl rfl rfl (V_un rfl (fun w => notB w true)) ?_
    refine TL_nil ?_
    refine TX_next ?_
    refine TC_cond_f rfl ?_
    refine TC_skip ?_
    refine TX_next ?_
    refine TC_seq ?_
    refine TC_region ?_
    refine TL_v rfl rfl rfl (V_move rfl) ?_
    refine TL_v rfl rfl rfl (V_buildArr (pv := []) rfl rfl Try.underlying71 TryI.inf71 TryI.inf5 rfl TryI.zer71 (cs := e8 ((Vector.replicate 16 0#8 : Vector (BitVec 8) 16).toList)) (by kernel_rfl)) ?_
    obtain ⟨h1, H⟩ := if_elim H
    refine TL_reE (j := 1) (A := some (g_2.2.1, 256)) (cs := [sl (some (g_2.2.2, 0)) r_1.2.1 r_1.2.1]) (cs' := [sl (some (g_2.2.2, 0)) ((r_1.2.2).length) ((r_1.2.2).length)]) rfl (congrArg (fun n => [sl (some (g_2.2.2, 0)) n n]) h1) ?_
    obtain ⟨r_2, hr_2, H⟩ := bind_elim H
    refine TL_e rfl rfl rfl (E_call (Γ := Unit) (val := fun g => Value.agg (flat [(16, e8 r_2.toList)]).toArray) (mem := fun g => []) (vs := [ptr (some (g_2.2.1, 0)) 0, Value.agg (flat [(16, e8 ((Vector.replicate 16 0#8 : Vector (BitVec 8) 16).toList))]).toArray]) (Lin := []) (Ro := [⟨some (g_2.2.1, 0), e8 r_1.1.toList⟩, ⟨some (g_2.2.1, 256), [sl (some (g_2.2.2, 0)) ((r_1.2.2).length) ((r_1.2.2).length)]⟩, ⟨some (g_2.2.2, 0), eF (fun V : Vector (BitVec 8) 16 => e8 V.toList) r_1.2.2⟩]) (is := []) rfl Try.call51 (F51_calls g_2.2.1 0 (some (g_2.2.2, 0)) ((r_1.2.2).length) r_1.1 r_1.2.2 (Vector.replicate 16 0#8 : Vector (BitVec 8) 16) (Nat.le_refl _) r_2 hr_2) rfl ⟨SrcD.own (j := 0) rfl, SrcD.own (j := 1) rfl, SrcD.own (j := 2) rfl, trivial⟩) (fun g_3 => ?_)
    refine TL_e rfl rfl rfl (E_allocP [(16, e8 ((Vector.replicate 16 0#8).toList))] TryI.inf71 TryI.zer71 ⟨(lenV (f := v8) (Vector.replicate 16 0#8)), trivial⟩) (fun b1 => ?_)
    refine TL_n rfl rfl (E_storeAgg (n := 16) (j := 0) (vs := e8 r_2.toList) rfl rfl TryI.inf71 rfl (lenV (f := v8) r_2) (OneC.map (fun _ => rfl) _) rfl (Nat.le_of_eq (by simp)) (cs' := e8 r_2.toList) (splice_all (by simp))) (fun _ => ?_)
    refine TL_nil ?_
    refine TX_next ?_
    refine TC_seq ?_
    refine TC_region ?_
    refine TL_v rfl rfl rfl (V_move rfl) ?_
    refine TL_v rfl rfl rfl (V_sliceArr0 rfl (by simp) Try.underlying71 TryI.inf5 rfl) ?_
    refine TL_re (d := 18) (v := sl (some (b1, 0)) 16 16) (v' := sl (some (b1, 0)) ((r_2.toList).length) ((r_2.toList).length)) rfl (congrArg (fun n => sl (some (b1, 0)) n n) vec_tl.symm) ?_
    obtain ⟨r_3, hr_3, H⟩ := bind_elim H
    refine TL_e rfl rfl rfl (E_call (Γ := Unit) (val := fun g => Value.agg (flat [(1, [v64 r_3.1]), (1, [v64 r_3.2])]).toArray) (mem := fun g => []) (vs := [sl (some (b1, 0)) ((r_2.toList).length) ((r_2.toList).length)]) (Lin := []) (Ro := [⟨some (b1, 0), e8 r_2.toList⟩]) (is := []) rfl Try.call70 (F70_calls (some (b1, 0)) ((r_2.toList).length) r_2.toList (Nat.le_refl _) r_3 hr_3) rfl ⟨SrcD.own (j := 0) rfl, trivial⟩) (fun g_4 => ?_)
    refine TL_v rfl rfl rfl (V_buildStruct (pv := [(0, ptr (some (g_2.2.1, 0)) 0), (1, Value.agg (flat [(1, [v64 r_3.1]), (1, [v64 r_3.2])]).toArray)]) (pl := [(0, 1), (1, 2)]) rfl rfl Try.underlying131 TryI.inf131 TryI.places131 TryI.zer131 (cs := flat [(1, [ptr (some (g_2.2.1, 0)) 0]), (1, [v64 r_3.1]), (1, [v64 r_3.2])]) (fill_part [] [(2, flat [(1, [v64 0#64]), (1, [v64 0#64])])] rfl rfl trivial rfl rfl rfl (fill_part [(1, [ptr (some (g_2.2.1, 0)) 0])] [] rfl rfl ⟨rfl, trivial⟩ rfl (flat_len ⟨rfl, rfl, trivial⟩ rfl) (flat_len ⟨rfl, rfl, trivial⟩ rfl) fill_end))) ?_
    refine TL_e rfl rfl rfl (E_boxP [(1, [ptr (some (g_2.2.1, 0)) 0]), (1, [v64 r_3.1]), (1, [v64 r_3.2])] rfl rfl ⟨rfl, rfl, rfl, trivial⟩) (fun b2 => ?_)
    refine TL_v rfl rfl rfl (V_assign rfl) ?_
    refine TL_v rfl rfl rfl (V_assign rfl) ?_
    refine TL_nil ?_
    refine TX_next ?_
    refine TC_ret ?_
    have hrv := Option.some.inj H
    subst hrv
    exact TX_ret (rs := [.tmp 2, .tmp 3]) (vs := [ptr (some (b2, 0)) 0, vb true]) rfl ⟨rfl, rfl, trivial⟩ (fun w' hs' => ⟨((), (b2, g_2.2.1, g_2.2.2)), rfl, Step.left (Step.pulled (is := [0, 3, 3, 3, 0, 0]) (A := [⟨some (b2, 0), [ptr (some (g_2.2.1, 0)) 0]⟩, ⟨some (g_2.2.1, 0), e8 r_1.1.toList⟩, ⟨some (g_2.2.1, 256), [sl (some (g_2.2.2, 0)) ((r_1.2.2).length) ((r_1.2.2).length)]⟩, ⟨some (g_2.2.2, 0), eF (fun V : Vector (BitVec 8) 16 => e8 V.toList) r_1.2.2⟩, ⟨some (b2, 1), [v64 r_3.1]⟩, ⟨some (b2, 2), [v64 r_3.2]⟩]) hs' rfl)⟩)

end Go.Proofs
end

section
namespace Go.Proofs
open Go Go.Kx
set_option linter.unusedVariables false
set_option linter.unusedSimpArgs false
def gcm_may (nonce : Str) (aad : Str) (most : Int) (long : Int) : Option (Bool) :=
  if ((nonce).length : Int) = 12 then (if ((aad).length : Int) ≤ 65536 then (ltt (decide (long ≤ most)) fun (x1 : Bool) => (some x1)) else (some false)) else (some false)

set_option maxHeartbeats 4000000 in
set_option maxRecDepth 20000 in
theorem F63_calls (nonce : Str) (aad : Str) (most : Int) (long : Int) (r : Bool) (H : gcm_may nonce aad most long = some r) :
    Does Try.prog 63 [vs nonce, vs aad, vi most, vi long] [] [] (Γ := Unit) (fun g => vb r) (fun g => []) := by
  intro w hmem hro hd
  refine calls_of (N := 22) (m0 := [(0, vs nonce), (1, vs aad), (2, vi most), (3, vi long)]) Try.func63 rfl Try.ntmps63 (argM_ok [vs nonce, vs aad, vi most, vi long]) rfl hmem hro hd ?_
  unfold gcm_may at H
  refine TC_seq ?_
  refine TC_region ?_
  refine TL_v rfl rfl rfl (V_assign rfl) ?_
  refine TL_nil ?_
  refine TX_next ?_
  refine TC_seq ?_
  refine TC_region ?_
  refine TL_v rfl rfl rfl (V_move rfl) ?_
  refine TL_v rfl rfl rfl (V_len_str rfl Try.underlying9) ?_
  refine TL_v rfl rfl rfl (V_bin rfl rfl (fun w => eqlI w ((nonce).length : Int) 12)) ?_
  refine TL_v rfl rfl rfl (V_move rfl) ?_
  refine TL_fork (d := 12) (b := (decide (((nonce).length : Int) = 12))) rfl (fun hc => ?_) (fun hc => ?_)
  · replace H := ite_t (of_decide_eq_true hc) H
    refine TL_want rfl rfl rfl rfl rfl rfl (V_move rfl) ?_
    refine TL_want rfl rfl rfl rfl rfl rfl (V_len_str rfl Try.underlying9) ?_
    refine TL_want rfl rfl rfl rfl rfl rfl (V_bin rfl rfl (fun w => leqI w ((aad).length : Int) 65536)) ?_
    refine TL_v rfl rfl rfl (V_pick (b := true) rfl rfl) ?_
    refine TL_v rfl rfl rfl (V_move rfl) ?_
    refine TL_fork (d := 17) (b := (decide (((aad).length : Int) ≤ 65536))) rfl (fun hc => ?_) (fun hc => ?_)
    · replace H := ite_t (of_decide_eq_true hc) H
      refine TL_want rfl rfl rfl rfl rfl rfl (V_move rfl) ?_
      refine TL_want rfl rfl rfl rfl rfl rfl (V_move rfl) ?_
      refine TL_want rfl rfl rfl rfl rfl rfl (V_bin rfl rfl (fun w => leqI w long most)) ?_
      refine TL_v rfl rfl rfl (V_pick (b := true) rfl rfl) ?_
      refine TL_v rfl rfl rfl (V_assign rfl) ?_
      obtain ⟨x1, hx1, H⟩ := ltt_elim H
      refine TL_re (d := 8) (v := vb (decide (long ≤ most))) (v' := vb x1) rfl (congrArg vb hx1) ?_
      refine TL_nil ?_
      refine TX_next ?_
      refine TC_ret ?_
      have hrv := Option.some.inj H
      subst hrv
      exact TX_ret (rs := [.tmp 8]) (vs := [vb x1]) rfl ⟨rfl, trivial⟩ (fun w' hs' => ⟨(), rfl, Step.left (Step.pulled (is := []) (A := []) hs' rfl)⟩)
    · replace H := ite_f (of_decide_eq_false hc) H
      refine TL_skip rfl rfl rfl rfl rfl rfl rfl ?_
      refine TL_skip rfl rfl rfl rfl rfl rfl rfl ?_
      refine TL_skip rfl rfl rfl rfl rfl rfl rfl ?_
      refine TL_v rfl rfl rfl (V_pick (b := false) rfl rfl) ?_
      refine TL_v rfl rfl rfl (V_assign rfl) ?_
      refine TL_nil ?_
      refine TX_next ?_
      refine TC_ret ?_
      have hrv := Option.some.inj H
      subst hrv
      exact TX_ret (rs := [.tmp 8]) (vs := [vb false]) rfl ⟨rfl, trivial⟩ (fun w' hs' => ⟨(), rfl, Step.left (Step.pulled (is := []) (A := []) hs' rfl)⟩)
  · replace H := ite_f (of_decide_eq_false hc) H
    refine TL_skip rfl rfl rfl rfl rfl rfl rfl ?_
    refine TL_skip rfl rfl rfl rfl rfl rfl rfl ?_
    refine TL_skip rfl rfl rfl rfl rfl rfl rfl ?_
    refine TL_v rfl rfl rfl (V_pick (b := false) rfl rfl) ?_
    refine TL_v rfl rfl rfl (V_move rfl) ?_
    refine TL_skip rfl rfl rfl rfl rfl rfl rfl ?_
    refine TL_skip rfl rfl rfl rfl rfl rfl rfl ?_
    refine TL_skip rfl rfl rfl rfl rfl rfl rfl ?_
    refine TL_v rfl rfl rfl (V_pick (b := false) rfl rfl) ?_
    refine TL_v rfl rfl rfl (V_assign rfl) ?_
    refine TL_nil ?_
    refine TX_next ?_
    refine TC_ret ?_
    have hrv := Option.some.inj H
    subst hrv
    exact TX_ret (rs := [.tmp 8]) (vs := [vb false]) rfl ⟨rfl, trivial⟩ (fun w' hs' => ⟨(), rfl, Step.left (Step.pulled (is := []) (A := []) hs' rfl)⟩)

end Go.Proofs
end

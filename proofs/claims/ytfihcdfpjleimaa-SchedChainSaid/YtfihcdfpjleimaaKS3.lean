/-
  Part KS3 of the proofs of this seat: F58, F62, F59, F60, F48, F45, F31.
-/
import Derived.Test.YtfihcdfpjleimaaK2
import Derived.Test.YtfihcdfpjleimaaKS1
import Derived.Test.YtfihcdfpjleimaaKS2
section
namespace Go.Proofs
open Go Go.Kx
set_option linter.unusedVariables false
set_option linter.unusedSimpArgs false
def sha_New (n : Int) : Option ((Unit) ⊕ (Int × Vector (BitVec 64) 8 × Vector (BitVec 64) 80 × List (BitVec 8))) :=
  if n ≠ 256 then (if n ≠ 384 then (some (.inl ())) else ((sha_begin n).bind fun (r_1 : Vector (BitVec 64) 8) => ((sha_constants).bind fun (r_2 : Vector (BitVec 64) 80) => (some (.inr (n, r_1, r_2, ([] : List (BitVec 8)))))))) else ((sha_begin n).bind fun (r_3 : Vector (BitVec 64) 8) => ((sha_constants).bind fun (r_4 : Vector (BitVec 64) 80) => (some (.inr (n, r_3, r_4, ([] : List (BitVec 8)))))))

set_option maxHeartbeats 4000000 in
set_option maxRecDepth 20000 in
theorem F58_calls (n : Int) (r : (Unit) ⊕ (Int × Vector (BitVec 64) 8 × Vector (BitVec 64) 80 × List (BitVec 8))) (H : sha_New n = some r) :
    Does Try.prog 58 [vi n] [] [] (Γ := Unit × (Nat × Adr)) (fun g => match r with | .inl r => Value.tuple [Value.pointer none, vi 200].toArray | .inr r => Value.tuple [ptr (some (g.2.1, 0)) 0, vi 0].toArray) (fun g => match r with | .inl r => [] | .inr r => [⟨some (g.2.1, 0), [vi r.1]⟩, ⟨some (g.2.1, 1), e64 r.2.1.toList⟩, ⟨some (g.2.1, 9), e64 r.2.2.1.toList⟩, ⟨some (g.2.1, 89), [sl g.2.2 ((r.2.2.2).length) ((r.2.2.2 ++ ([] : List (BitVec 8))).length)]⟩, ⟨g.2.2, e8 (r.2.2.2 ++ ([] : List (BitVec 8)))⟩, ⟨some (g.2.1, 90), [v64 0#64]⟩]) := by
  intro w hmem hro hd
  refine calls_of (N := 16) (m0 := [(0, vi n)]) Try.func58 rfl Try.ntmps58 (argM_ok [vi n]) rfl hmem hro hd ?_
  unfold sha_New at H
  refine TC_seq ?_
  refine TC_region ?_
  refine TL_v rfl rfl rfl (V_assign rfl) ?_
  refine TL_v rfl rfl rfl (V_assign rfl) ?_
  refine TL_nil ?_
  refine TX_next ?_
  refine TC_seq ?_
  refine TC_seq ?_
  refine TC_region ?_
  refine TL_v rfl rfl rfl (V_move rfl) ?_
  refine TL_v rfl rfl rfl (V_bin rfl rfl (fun w => neqI w n 256)) ?_
  refine TL_v rfl rfl rfl (V_move rfl) ?_
  refine TL_fork (d := 6) (b := (decide (n ≠ 256))) rfl (fun hc => ?_) (fun hc => ?_)
  · replace H := ite_t (of_decide_eq_true hc) H
    refine TL_want rfl rfl rfl rfl rfl rfl (V_move rfl) ?_
    refine TL_want rfl rfl rfl rfl rfl rfl (V_bin rfl rfl (fun w => neqI w n 384)) ?_
    refine TL_v rfl rfl rfl (V_pick (b := true) rfl rfl) ?_
    refine TL_nil ?_
    refine TX_next ?_
    refine TC_cond (b := (decide (n ≠ 384))) rfl (fun hc => ?_) (fun hc => ?_)
    · replace H := ite_t (of_decide_eq_true hc) H
      refine TC_seq ?_
      refine TC_region ?_
      refine TL_v rfl rfl rfl (V_assign rfl) ?_
      refine TL_v rfl rfl rfl (V_assign rfl) ?_
      refine TL_nil ?_
      refine TX_next ?_
      refine TC_ret ?_
      refine TX_then_ret ?_
      have hrv := Option.some.inj H
      subst hrv
      exact TX_ret (rs := [.tmp 2, .tmp 3]) (vs := [Value.pointer none, vi 200]) rfl ⟨rfl, rfl, trivial⟩ (fun w' hs' => ⟨((), ((default : Nat), (default : Adr))), rfl, Step.left (Step.pulled (is := []) (A := []) hs' rfl)⟩)
    · replace H := ite_f (of_decide_eq_false hc) H
      refine TC_skip ?_
      refine TX_next ?_
      refine TC_seq ?_
      refine TC_region ?_
      refine TL_v rfl rfl rfl (V_move rfl) ?_
      refine TL_v rfl rfl rfl (V_move rfl) ?_
      obtain ⟨r_1, hr_1, H⟩ := bind_elim H
      refine TL_e rfl rfl rfl (E_call (Γ := Unit) (val := fun g => Value.agg (flat [(8, e64 r_1.toList)]).toArray) (mem := fun g => []) (vs := [vi n]) (Lin := []) (Ro := []) (is := []) rfl Try.call65 (F65_calls n r_1 hr_1) rfl trivial) (fun g_1 => ?_)
      obtain ⟨r_2, hr_2, H⟩ := bind_elim H
      refine TL_e rfl rfl rfl (E_call (Γ := Unit) (val := fun g => Value.agg (flat [(80, e64 r_2.toList)]).toArray) (mem := fun g => []) (vs := []) (Lin := []) (Ro := []) (is := []) rfl Try.call66 (F66_calls r_2 hr_2) rfl trivial) (fun g_2 => ?_)
      refine TL_v rfl rfl rfl (V_buildStruct (pv := [(0, vi n), (1, Value.agg (flat [(8, e64 r_1.toList)]).toArray), (2, Value.agg (flat [(80, e64 r_2.toList)]).toArray)]) (pl := [(0, 1), (1, 8), (9, 80), (89, 1), (90, 1)]) rfl rfl Try.underlying90 TryI.inf90 TryI.places90 TryI.zer90 (cs := flat [(1, [vi n]), (8, e64 r_1.toList), (80, e64 r_2.toList), (1, [sl none 0 0]), (1, [v64 0#64])]) (fill_part [] [(8, e64 ((Vector.replicate 8 0#64).toList)), (80, e64 ((Vector.replicate 80 0#64).toList)), (1, [sl none 0 0]), (1, [v64 0#64])] rfl rfl trivial rfl rfl rfl (fill_part [(1, [vi n])] [(80, e64 ((Vector.replicate 80 0#64).toList)), (1, [sl none 0 0]), (1, [v64 0#64])] rfl rfl ⟨rfl, trivial⟩ rfl (lenV (f := v64) (Vector.replicate 8 0#64)) (lenV (f := v64) r_1) (fill_part [(1, [vi n]), (8, e64 r_1.toList)] [(1, [sl none 0 0]), (1, [v64 0#64])] rfl rfl ⟨rfl, (lenV (f := v64) r_1), trivial⟩ rfl (lenV (f := v64) (Vector.replicate 80 0#64)) (lenV (f := v64) r_2) fill_end)))) ?_
      refine TL_e rfl rfl rfl (E_boxP [(1, [vi n]), (8, e64 r_1.toList), (80, e64 r_2.toList), (1, [sl none 0 0]), (1, [v64 0#64])] rfl rfl ⟨rfl, (lenV (f := v64) r_1), (lenV (f := v64) r_2), rfl, rfl, trivial⟩) (fun b1 => ?_)
      refine TL_gen (Lf := fun An1 => [⟨some (b1, 0), [vi n]⟩, ⟨some (b1, 1), e64 r_1.toList⟩, ⟨some (b1, 9), e64 r_2.toList⟩, ⟨some (b1, 89), [sl An1 ((([] : List (BitVec 8))).length) ((([] : List (BitVec 8)) ++ ([] : List (BitVec 8))).length)]⟩, ⟨some (b1, 90), [v64 0#64]⟩]) (z := e8 (([] : List (BitVec 8)) ++ ([] : List (BitVec 8)))) rfl rfl (fun An1 => ?_)
      refine TL_v rfl rfl rfl (V_assign rfl) ?_
      refine TL_v rfl rfl rfl (V_assign rfl) ?_
      refine TL_nil ?_
      refine TX_next ?_
      refine TC_ret ?_
      have hrv := Option.some.inj H
      subst hrv
      exact TX_ret (rs := [.tmp 2, .tmp 3]) (vs := [ptr (some (b1, 0)) 0, vi 0]) rfl ⟨rfl, rfl, trivial⟩ (fun w' hs' => ⟨((), (b1, An1)), rfl, Step.left (Step.pulled (is := [1, 1, 1, 1, 0, 0]) (A := [⟨some (b1, 0), [vi n]⟩, ⟨some (b1, 1), e64 r_1.toList⟩, ⟨some (b1, 9), e64 r_2.toList⟩, ⟨some (b1, 89), [sl An1 ((([] : List (BitVec 8))).length) ((([] : List (BitVec 8)) ++ ([] : List (BitVec 8))).length)]⟩, ⟨An1, e8 (([] : List (BitVec 8)) ++ ([] : List (BitVec 8)))⟩, ⟨some (b1, 90), [v64 0#64]⟩]) hs' rfl)⟩)
  · replace H := ite_f (of_decide_eq_false hc) H
    refine TL_skip rfl rfl rfl rfl rfl rfl rfl ?_
    refine TL_skip rfl rfl rfl rfl rfl rfl rfl ?_
    refine TL_v rfl rfl rfl (V_pick (b := false) rfl rfl) ?_
    refine TL_nil ?_
    refine TX_next ?_
    refine TC_cond_f rfl ?_
    refine TC_skip ?_
    refine TX_next ?_
    refine TC_seq ?_
    refine TC_region ?_
    refine TL_v rfl rfl rfl (V_move rfl) ?_
    refine TL_v rfl rfl rfl (V_move rfl) ?_
    obtain ⟨r_3, hr_3, H⟩ := bind_elim H
    refine TL_e rfl rfl rfl (E_call (Γ := Unit) (val := fun g => Value.agg (flat [(8, e64 r_3.toList)]).toArray) (mem := fun g => []) (vs := [vi n]) (Lin := []) (Ro := []) (is := []) rfl Try.call65 (F65_calls n r_3 hr_3) rfl trivial) (fun g_3 => ?_)
    obtain ⟨r_4, hr_4, H⟩ := bind_elim H
    refine TL_e rfl rfl rfl (E_call (Γ := Unit) (val := fun g => Value.agg (flat [(80, e64 r_4.toList)]).toArray) (mem := fun g => []) (vs := []) (Lin := []) (Ro := []) (is := []) rfl Try.call66 (F66_calls r_4 hr_4) rfl trivial) (fun g_4 => ?_)
    refine TL_v rfl rfl rfl (V_buildStruct (pv := [(0, vi n), (1, Value.agg (flat [(8, e64 r_3.toList)]).toArray), (2, Value.agg (flat [(80, e64 r_4.toList)]).toArray)]) (pl := [(0, 1), (1, 8), (9, 80), (89, 1), (90, 1)]) rfl rfl Try.underlying90 TryI.inf90 TryI.places90 TryI.zer90 (cs := flat [(1, [vi n]), (8, e64 r_3.toList), (80, e64 r_4.toList), (1, [sl none 0 0]), (1, [v64 0#64])]) (fill_part [] [(8, e64 ((Vector.replicate 8 0#64).toList)), (80, e64 ((Vector.replicate 80 0#64).toList)), (1, [sl none 0 0]), (1, [v64 0#64])] rfl rfl trivial rfl rfl rfl (fill_part [(1, [vi n])] [(80, e64 ((Vector.replicate 80 0#64).toList)), (1, [sl none 0 0]), (1, [v64 0#64])] rfl rfl ⟨rfl, trivial⟩ rfl (lenV (f := v64) (Vector.replicate 8 0#64)) (lenV (f := v64) r_3) (fill_part [(1, [vi n]), (8, e64 r_3.toList)] [(1, [sl none 0 0]), (1, [v64 0#64])] rfl rfl ⟨rfl, (lenV (f := v64) r_3), trivial⟩ rfl (lenV (f := v64) (Vector.replicate 80 0#64)) (lenV (f := v64) r_4) fill_end)))) ?_
    refine TL_e rfl rfl rfl (E_boxP [(1, [vi n]), (8, e64 r_3.toList), (80, e64 r_4.toList), (1, [sl none 0 0]), (1, [v64 0#64])] rfl rfl ⟨rfl, (lenV (f := v64) r_3), (lenV (f := v64) r_4), rfl, rfl, trivial⟩) (fun b2 => ?_)
    refine TL_gen (Lf := fun An2 => [⟨some (b2, 0), [vi n]⟩, ⟨some (b2, 1), e64 r_3.toList⟩, ⟨some (b2, 9), e64 r_4.toList⟩, ⟨some (b2, 89), [sl An2 ((([] : List (BitVec 8))).length) ((([] : List (BitVec 8)) ++ ([] : List (BitVec 8))).length)]⟩, ⟨some (b2, 90), [v64 0#64]⟩]) (z := e8 (([] : List (BitVec 8)) ++ ([] : List (BitVec 8)))) rfl rfl (fun An2 => ?_)
    refine TL_v rfl rfl rfl (V_assign rfl) ?_
    refine TL_v rfl rfl rfl (V_assign rfl) ?_
    refine TL_nil ?_
    refine TX_next ?_
    refine TC_ret ?_
    have hrv := Option.some.inj H
    subst hrv
    exact TX_ret (rs := [.tmp 2, .tmp 3]) (vs := [ptr (some (b2, 0)) 0, vi 0]) rfl ⟨rfl, rfl, trivial⟩ (fun w' hs' => ⟨((), (b2, An2)), rfl, Step.left (Step.pulled (is := [1, 1, 1, 1, 0, 0]) (A := [⟨some (b2, 0), [vi n]⟩, ⟨some (b2, 1), e64 r_3.toList⟩, ⟨some (b2, 9), e64 r_4.toList⟩, ⟨some (b2, 89), [sl An2 ((([] : List (BitVec 8))).length) ((([] : List (BitVec 8)) ++ ([] : List (BitVec 8))).length)]⟩, ⟨An2, e8 (([] : List (BitVec 8)) ++ ([] : List (BitVec 8)))⟩, ⟨some (b2, 90), [v64 0#64]⟩]) hs' rfl)⟩)

end Go.Proofs
end

section
namespace Go.Proofs
open Go Go.Kx
set_option linter.unusedVariables false
set_option linter.unusedSimpArgs false
def sha_Hash_Fork (h_n : Int) (h_h : Vector (BitVec 64) 8) (h_k : Vector (BitVec 64) 80) (h_rest : List (BitVec 8)) (h_all : BitVec 64) : Option (Int × Vector (BitVec 64) 8 × Vector (BitVec 64) 80 × List (BitVec 8) × BitVec 64) :=
  if (([] : List (BitVec 8))).length + (h_rest).length ≤ 140737488355328 then (ltt (([] : List (BitVec 8)) ++ h_rest) fun (l1 : List (BitVec 8)) => (some (h_n, h_h, h_k, l1, h_all))) else none

set_option maxHeartbeats 4000000 in
set_option maxRecDepth 20000 in
theorem F62_calls (bh : Nat) (obh : Nat) (Ah_rest : Adr) (ch_rest : Nat) (h_n : Int) (h_h : Vector (BitVec 64) 8) (h_k : Vector (BitVec 64) 80) (h_rest : List (BitVec 8)) (h_all : BitVec 64) (hch_rest : (h_rest).length ≤ ch_rest) (r : Int × Vector (BitVec 64) 8 × Vector (BitVec 64) 80 × List (BitVec 8) × BitVec 64) (H : sha_Hash_Fork h_n h_h h_k h_rest h_all = some r) :
    Does Try.prog 62 [ptr (some (bh, obh)) 0] [] [⟨some (bh, obh), [vi h_n]⟩, ⟨some (bh, obh + 1), e64 h_h.toList⟩, ⟨some (bh, obh + 9), e64 h_k.toList⟩, ⟨some (bh, obh + 89), [sl Ah_rest ((h_rest).length) ch_rest]⟩, ⟨some (bh, obh + 90), [v64 h_all]⟩, ⟨Ah_rest, e8 h_rest⟩] (Γ := Nat × Adr × List (BitVec 8)) (fun g => ptr (some (g.1, 0)) 0) (fun g => [⟨some (g.1, 0), [vi r.1]⟩, ⟨some (g.1, 1), e64 r.2.1.toList⟩, ⟨some (g.1, 9), e64 r.2.2.1.toList⟩, ⟨some (g.1, 89), [sl g.2.1 ((r.2.2.2.1).length) ((r.2.2.2.1 ++ g.2.2).length)]⟩, ⟨g.2.1, e8 (r.2.2.2.1 ++ g.2.2)⟩, ⟨some (g.1, 90), [v64 r.2.2.2.2]⟩]) := by
  intro w hmem hro hd
  refine calls_of (N := 15) (m0 := [(0, ptr (some (bh, obh)) 0)]) Try.func62 rfl Try.ntmps62 (argM_ok [ptr (some (bh, obh)) 0]) rfl hmem hro hd ?_
  unfold sha_Hash_Fork at H
  refine TC_seq ?_
  refine TC_region ?_
  refine TL_v rfl rfl rfl (V_assign rfl) ?_
  refine TL_nil ?_
  refine TX_next ?_
  refine TC_seq ?_
  refine TC_seq ?_
  refine TC_region ?_
  refine TL_v rfl rfl rfl (V_move rfl) ?_
  refine TL_v rfl rfl rfl (V_bin rfl rfl (fun w => eqlPpn w Try.underlying61)) ?_
  refine TL_nil ?_
  refine TX_next ?_
  refine TC_cond_f rfl ?_
  refine TC_skip ?_
  refine TX_next ?_
  refine TC_seq ?_
  refine TC_region ?_
  refine TL_v rfl rfl rfl (V_move rfl) ?_
  refine TL_v rfl rfl rfl (V_nilCheck rfl) ?_
  refine TL_v rfl rfl rfl (V_loadAgg (n := 91) (cs := flat [(1, [vi h_n]), (8, e64 h_h.toList), (80, e64 h_k.toList), (1, [sl Ah_rest ((h_rest).length) ch_rest]), (1, [v64 h_all])]) rfl (by simp) (SrcEnts (b := bh) [(1, [vi h_n]), (8, e64 h_h.toList), (80, e64 h_k.toList), (1, [sl Ah_rest ((h_rest).length) ch_rest]), (1, [v64 h_all])] obh ⟨rfl, (lenV (f := v64) h_h), (lenV (f := v64) h_k), rfl, rfl, trivial⟩ (AllSrc.all (M := ents bh obh [(1, [vi h_n]), (8, e64 h_h.toList), (80, e64 h_k.toList), (1, [sl Ah_rest ((h_rest).length) ch_rest]), (1, [v64 h_all])]) ⟨Src.ro (j := 0) rfl, Src.ro (j := 1) rfl, Src.ro (j := 2) rfl, Src.ro (j := 3) rfl, Src.ro (j := 4) rfl, trivial⟩)) Try.isAgg90 TryI.inf90 rfl (flat_len ⟨rfl, (lenV (f := v64) h_h), (lenV (f := v64) h_k), rfl, rfl, trivial⟩ rfl)) ?_
  refine TL_e rfl rfl rfl (E_allocP [(1, [vi 0]), (8, e64 ((Vector.replicate 8 0#64).toList)), (80, e64 ((Vector.replicate 80 0#64).toList)), (1, [sl none 0 0]), (1, [v64 0#64])] TryI.inf90 TryI.zer90 ⟨rfl, (lenV (f := v64) (Vector.replicate 8 0#64)), (lenV (f := v64) (Vector.replicate 80 0#64)), rfl, rfl, trivial⟩) (fun b1 => ?_)
  refine TL_gen (Lf := fun An1 => [⟨some (b1, 0), [vi 0]⟩, ⟨some (b1, 1), e64 ((Vector.replicate 8 0#64).toList)⟩, ⟨some (b1, 9), e64 ((Vector.replicate 80 0#64).toList)⟩, ⟨some (b1, 89), [sl An1 ((([] : List (BitVec 8))).length) ((([] : List (BitVec 8)) ++ ([] : List (BitVec 8))).length)]⟩, ⟨some (b1, 90), [v64 0#64]⟩]) (z := e8 (([] : List (BitVec 8)) ++ ([] : List (BitVec 8)))) rfl rfl (fun An1 => ?_)
  refine TL_n rfl rfl (E_storeParts (b := b1) (o := 0) (n := 91) (is := [1, 1, 1, 1, 1]) [(1, [vi 0]), (8, e64 ((Vector.replicate 8 0#64).toList)), (80, e64 ((Vector.replicate 80 0#64).toList)), (1, [sl An1 ((([] : List (BitVec 8))).length) ((([] : List (BitVec 8)) ++ ([] : List (BitVec 8))).length)]), (1, [v64 0#64])] [(1, [vi h_n]), (8, e64 h_h.toList), (80, e64 h_k.toList), (1, [sl Ah_rest ((h_rest).length) ch_rest]), (1, [v64 h_all])] rfl rfl rfl TryI.inf90 rfl ⟨rfl, (lenV (f := v64) (Vector.replicate 8 0#64)), (lenV (f := v64) (Vector.replicate 80 0#64)), rfl, rfl, trivial⟩ ⟨rfl, (lenV (f := v64) h_h), (lenV (f := v64) h_k), rfl, rfl, trivial⟩ (flat_len ⟨rfl, (lenV (f := v64) (Vector.replicate 8 0#64)), (lenV (f := v64) (Vector.replicate 80 0#64)), rfl, rfl, trivial⟩ rfl) (flat_len ⟨rfl, (lenV (f := v64) h_h), (lenV (f := v64) h_k), rfl, rfl, trivial⟩ rfl) (flat_onec ⟨(OneC.cons rfl OneC.nil), (OneC.map (fun _ => rfl) _), (OneC.map (fun _ => rfl) _), (OneC.cons rfl OneC.nil), (OneC.cons rfl OneC.nil), trivial⟩)) (fun _ => ?_)
  refine TL_nil ?_
  refine TX_next ?_
  refine TC_seq ?_
  refine TC_region ?_
  refine TL_v rfl rfl rfl (V_move rfl) ?_
  refine TL_v rfl rfl rfl (V_nilCheck rfl) ?_
  refine TL_v rfl rfl rfl (V_fieldE rfl Try.underlying90 rfl rfl TryI.inf49 rfl (v := ptr (some (bh, obh + 89)) 0) rfl) ?_
  refine TL_v rfl rfl rfl (V_load rfl (Src.ro (j := 3) rfl) rfl Try.isAgg49) ?_
  refine TL_none ?_
  obtain ⟨h1, H⟩ := if_elim H
  obtain ⟨l1, hl1, H⟩ := ltt_elim H
  refine TL_e rfl rfl rfl (E_app1 (f := v8) (j := 0) (l := ([] : List (BitVec 8))) (sp := ([] : List (BitVec 8))) (ds := h_rest) 0#8 (Src.ro (j := 5) rfl) rfl rfl rfl (fun _ => rfl) Try.underlying49 Try.underlying49 TryI.inf5 rfl TryI.zer5 (B' := 1) rfl (by have := h1; omega) (by have := h1; omega) hl1) (fun q1 => ?_)
  refine TL_v rfl rfl rfl (V_fieldE rfl Try.underlying90 rfl rfl TryI.inf49 rfl (v := ptr (some (b1, 89)) 0) rfl) ?_
  refine TL_n rfl rfl (E_store (j := 4) rfl rfl TryI.inf49 rfl rfl rfl (Nat.lt_succ_self 0) (cs' := [sl q1.1 ((l1).length) ((l1 ++ q1.2).length)]) rfl) (fun _ => ?_)
  refine TL_nil ?_
  refine TX_next ?_
  refine TC_seq ?_
  refine TC_region ?_
  refine TL_v rfl rfl rfl (V_assign rfl) ?_
  refine TL_nil ?_
  refine TX_next ?_
  refine TC_ret ?_
  have hrv := Option.some.inj H
  subst hrv
  exact TX_ret (rs := [.tmp 2]) (vs := [ptr (some (b1, 0)) 0]) rfl ⟨rfl, trivial⟩ (fun w' hs' => ⟨(b1, q1.1, q1.2), rfl, Step.left (Step.pulled (is := [1, 1, 1, 1, 0, 0]) (A := [⟨some (b1, 0), [vi h_n]⟩, ⟨some (b1, 1), e64 h_h.toList⟩, ⟨some (b1, 9), e64 h_k.toList⟩, ⟨some (b1, 89), [sl q1.1 ((l1).length) ((l1 ++ q1.2).length)]⟩, ⟨q1.1, e8 (l1 ++ q1.2)⟩, ⟨some (b1, 90), [v64 h_all]⟩]) hs' rfl)⟩)

end Go.Proofs
end

section
namespace Go.Proofs
open Go Go.Kx
set_option linter.unusedVariables false
set_option linter.unusedSimpArgs false
def sha_Hash_Write.b0 (h_n : Int) (h_k : Vector (BitVec 64) 80) (h_all : BitVec 64) (s_ : Str) (l1 : List (BitVec 8)) (r_1 : Int) (s0 : Int × Vector (BitVec 64) 8) : Option ((Int × Vector (BitVec 64) 8) ⊕ (Int × Vector (BitVec 64) 8)) :=
  if r_1 ≤ (w64 (((l1).length : Int) - s0.1)) then (if 0 ≤ w64 (s0.1 + r_1) then (if 0 ≤ s0.1 then (if (w64 (s0.1 + r_1)).toNat ≤ (l1).length then (if (s0.1).toNat ≤ (w64 (s0.1 + r_1)).toNat then (if (w64 (s0.1 + r_1)).toNat ≤ (l1).length then (if (w64 (s0.1 + r_1)).toNat ≤ (l1).length then ((sha_Hash_turn h_n s0.2 h_k l1 (h_all + (BitVec.ofInt 64 ((s_).length : Int))) (sub l1 ((s0.1).toNat) ((w64 (s0.1 + r_1)).toNat))).bind fun (r_2 : Vector (BitVec 64) 8) => (ltt (w64 (s0.1 + r_1)) fun (at_1 : Int) => (some (.inl (at_1, r_2))))) else none) else none) else none) else none) else none) else none) else (some (.inr (s0.1, s0.2)))

def sha_Hash_Write (h_n : Int) (h_h : Vector (BitVec 64) 8) (h_k : Vector (BitVec 64) 80) (h_rest : List (BitVec 8)) (h_all : BitVec 64) (s_ : Str) : Option (Vector (BitVec 64) 8 × List (BitVec 8) × BitVec 64) :=
  if (h_rest).length + (s_).length ≤ 140737488355328 then (ltt (h_rest ++ s_) fun (l1 : List (BitVec 8)) => ((sha_Hash_block h_n h_h h_k l1 (h_all + (BitVec.ofInt 64 ((s_).length : Int)))).bind fun (r_1 : Int) => ((loop (sha_Hash_Write.b0 h_n h_k h_all s_ l1 r_1) BIG (0, h_h)).bind fun (t_1 : Int × Vector (BitVec 64) 8) => (if 0 ≤ t_1.1 then (if (t_1.1).toNat ≤ (l1).length then (if (([] : List (BitVec 8))).length + (sub l1 ((t_1.1).toNat) ((l1).length)).length ≤ 140737488355328 then (ltt (([] : List (BitVec 8)) ++ (sub l1 ((t_1.1).toNat) ((l1).length))) fun (l2 : List (BitVec 8)) => (some (t_1.2, l2, h_all + (BitVec.ofInt 64 ((s_).length : Int))))) else none) else none) else none)))) else none

set_option maxHeartbeats 4000000 in
set_option maxRecDepth 20000 in
theorem F59_calls (bh : Nat) (obh : Nat) (Ah_rest : Adr) (sph_rest : List (BitVec 8)) (h_n : Int) (h_h : Vector (BitVec 64) 8) (h_k : Vector (BitVec 64) 80) (h_rest : List (BitVec 8)) (h_all : BitVec 64) (s_ : Str) (r : Vector (BitVec 64) 8 × List (BitVec 8) × BitVec 64) (H : sha_Hash_Write h_n h_h h_k h_rest h_all s_ = some r) :
    Does Try.prog 59 [ptr (some (bh, obh)) 0, vs s_] [⟨some (bh, obh + 1), e64 h_h.toList⟩, ⟨some (bh, obh + 89), [sl Ah_rest ((h_rest).length) ((h_rest ++ sph_rest).length)]⟩, ⟨some (bh, obh + 90), [v64 h_all]⟩, ⟨Ah_rest, e8 (h_rest ++ sph_rest)⟩] [⟨some (bh, obh), [vi h_n]⟩, ⟨some (bh, obh + 9), e64 h_k.toList⟩] (Γ := Adr × List (BitVec 8)) (fun g => Value.tuple [].toArray) (fun g => [⟨some (bh, obh + 1), e64 r.1.toList⟩, ⟨some (bh, obh + 89), [sl g.1 ((r.2.1).length) ((r.2.1 ++ g.2).length)]⟩, ⟨g.1, e8 (r.2.1 ++ g.2)⟩, ⟨some (bh, obh + 90), [v64 r.2.2]⟩]) := by
  intro w hmem hro hd
  refine calls_of (N := 62) (m0 := [(0, ptr (some (bh, obh)) 0), (1, vs s_)]) Try.func59 rfl Try.ntmps59 (argM_ok [ptr (some (bh, obh)) 0, vs s_]) rfl hmem hro hd ?_
  unfold sha_Hash_Write at H
  refine TC_seq ?_
  refine TC_seq ?_
  refine TC_region ?_
  refine TL_v rfl rfl rfl (V_move rfl) ?_
  refine TL_v rfl rfl rfl (V_bin rfl rfl (fun w => eqlPpn w Try.underlying61)) ?_
  refine TL_nil ?_
  refine TX_next ?_
  refine TC_cond_f rfl ?_
  refine TC_skip ?_
  refine TX_next ?_
  refine TC_seq ?_
  refine TC_region ?_
  refine TL_v rfl rfl rfl (V_move rfl) ?_
  refine TL_v rfl rfl rfl (V_nilCheck rfl) ?_
  refine TL_v rfl rfl rfl (V_fieldE rfl Try.underlying90 rfl rfl TryI.inf71 rfl (v := ptr (some (bh, obh + 90)) 0) rfl) ?_
  refine TL_v rfl rfl rfl (V_load rfl (Src.own (j := 2) rfl) rfl Try.isAgg71) ?_
  refine TL_v rfl rfl rfl (V_move rfl) ?_
  refine TL_v rfl rfl rfl (V_len_str rfl Try.underlying9) ?_
  refine TL_v rfl rfl rfl (V_conv rfl (fun w => cvI64 w _ _ Try.underlying71 (TryI.und3) .i64 ((s_).length : Int))) ?_
  refine TL_v rfl rfl rfl (V_bin rfl rfl (fun w => add64 w h_all (BitVec.ofInt 64 ((s_).length : Int)))) ?_
  refine TL_v rfl rfl rfl (V_nilCheck rfl) ?_
  refine TL_v rfl rfl rfl (V_fieldE rfl Try.underlying90 rfl rfl TryI.inf71 rfl (v := ptr (some (bh, obh + 90)) 0) rfl) ?_
  refine TL_n rfl rfl (E_store (j := 2) rfl rfl TryI.inf71 rfl rfl rfl (Nat.lt_succ_self 0) (cs' := [v64 (h_all + (BitVec.ofInt 64 ((s_).length : Int)))]) rfl) (fun _ => ?_)
  refine TL_nil ?_
  refine TX_next ?_
  refine TC_seq ?_
  refine TC_region ?_
  refine TL_v rfl rfl rfl (V_move rfl) ?_
  refine TL_v rfl rfl rfl (V_move rfl) ?_
  refine TL_v rfl rfl rfl (V_nilCheck rfl) ?_
  refine TL_v rfl rfl rfl (V_fieldE rfl Try.underlying90 rfl rfl TryI.inf49 rfl (v := ptr (some (bh, obh + 89)) 0) rfl) ?_
  refine TL_v rfl rfl rfl (V_load rfl (Src.own (j := 1) rfl) rfl Try.isAgg49) ?_
  refine TL_v rfl rfl rfl (V_move rfl) ?_
  obtain ⟨h1, H⟩ := if_elim H
  obtain ⟨l1, hl1, H⟩ := ltt_elim H
  refine TL_e rfl rfl rfl (E_appStr (j := 3) (l := h_rest) (sp := sph_rest) (st := s_) rfl rfl rfl Try.underlying49 Try.underlying9 TryI.inf5 rfl TryI.zer5 (B := 1) rfl (by have := h1; omega) (by have := h1; omega) hl1) (fun q1 => ?_)
  refine TL_v rfl rfl rfl (V_nilCheck rfl) ?_
  refine TL_v rfl rfl rfl (V_fieldE rfl Try.underlying90 rfl rfl TryI.inf49 rfl (v := ptr (some (bh, obh + 89)) 0) rfl) ?_
  refine TL_n rfl rfl (E_store (j := 1) rfl rfl TryI.inf49 rfl rfl rfl (Nat.lt_succ_self 0) (cs' := [sl q1.1 ((l1).length) ((l1 ++ q1.2).length)]) rfl) (fun _ => ?_)
  refine TL_nil ?_
  refine TX_next ?_
  refine TC_seq ?_
  refine TC_region ?_
  refine TL_v rfl rfl rfl (V_move rfl) ?_
  obtain ⟨r_1, hr_1, H⟩ := bind_elim H
  refine TL_e rfl rfl rfl (E_call (Γ := Unit) (val := fun g => vi r_1) (mem := fun g => []) (vs := [ptr (some (bh, obh)) 0]) (Lin := []) (Ro := [⟨some (bh, obh), [vi h_n]⟩, ⟨some (bh, obh + 1), e64 h_h.toList⟩, ⟨some (bh, obh + 9), e64 h_k.toList⟩, ⟨some (bh, obh + 89), [sl q1.1 ((l1).length) ((l1 ++ q1.2).length)]⟩, ⟨some (bh, obh + 90), [v64 (h_all + (BitVec.ofInt 64 ((s_).length : Int)))]⟩, ⟨q1.1, e8 l1⟩]) (is := []) rfl Try.call67 (F67_calls bh obh q1.1 ((l1 ++ q1.2).length) h_n h_h h_k l1 (h_all + (BitVec.ofInt 64 ((s_).length : Int))) (row_le _ _) r_1 hr_1) rfl ⟨SrcD.ro (j := 0) rfl, SrcD.own (j := 0) rfl, SrcD.ro (j := 1) rfl, SrcD.own (j := 1) rfl, SrcD.own (j := 2) rfl, (srcdRow (SrcD.own (j := 3) rfl)), trivial⟩) (fun g_1 => ?_)
  refine TL_v rfl rfl rfl (V_assign rfl) ?_
  refine TL_nil ?_
  refine TX_next ?_
  refine TC_seq ?_
  refine TC_region ?_
  refine TL_v rfl rfl rfl (V_assign rfl) ?_
  refine TL_nil ?_
  refine TX_next ?_
  refine TC_seq ?_
  refine TC_block ?_
  obtain ⟨t_1, Hl, H⟩ := bind_elim H
  refine TC.sub (m' := [(0, ptr (some (bh, obh)) 0), (4, vi r_1), (5, vi 0)]) ⟨rfl, rfl, rfl, trivial⟩ ?_
  refine TC.pull (is := [0, 0, 1, 0]) (L' := [⟨some (bh, obh + 1), e64 h_h.toList⟩, ⟨some (bh, obh + 89), [sl q1.1 ((l1).length) ((l1 ++ q1.2).length)]⟩, ⟨q1.1, e8 (l1 ++ q1.2)⟩, ⟨some (bh, obh + 90), [v64 (h_all + (BitVec.ofInt 64 ((s_).length : Int)))]⟩]) rfl ?_
  refine TC_loopL (id := 0) (body := (sha_Hash_Write.b0 h_n h_k h_all s_ l1 r_1)) (σ := Int × Vector (BitVec 64) 8) (Γ := Unit) (Γx := Unit) (fun s0 g0_ => [(0, ptr (some (bh, obh)) 0), (4, vi r_1), (5, vi s0.1)]) (fun s0 g0_ => [⟨some (bh, obh + 1), e64 s0.2.toList⟩, ⟨some (bh, obh + 89), [sl q1.1 ((l1).length) ((l1 ++ q1.2).length)]⟩, ⟨q1.1, e8 (l1 ++ q1.2)⟩, ⟨some (bh, obh + 90), [v64 (h_all + (BitVec.ofInt 64 ((s_).length : Int)))]⟩]) (fun t g => [(0, ptr (some (bh, obh)) 0), (5, vi t.1)]) (fun t g => [⟨some (bh, obh + 1), e64 t.2.toList⟩, ⟨some (bh, obh + 89), [sl q1.1 ((l1).length) ((l1 ++ q1.2).length)]⟩, ⟨q1.1, e8 (l1 ++ q1.2)⟩, ⟨some (bh, obh + 90), [v64 (h_all + (BitVec.ofInt 64 ((s_).length : Int)))]⟩]) ?_ BIG (0, h_h) () t_1 Hl ?_
  · intro s0 g0_ r1 H K hK hE
    unfold sha_Hash_Write.b0 at H
    refine TC_seq ?_
    refine TC_seq ?_
    refine TC_region ?_
    refine TL_v rfl rfl rfl (V_move rfl) ?_
    refine TL_v rfl rfl rfl (V_nilCheck rfl) ?_
    refine TL_v rfl rfl rfl (V_fieldE rfl Try.underlying90 rfl rfl TryI.inf49 rfl (v := ptr (some (bh, obh + 89)) 0) rfl) ?_
    refine TL_v rfl rfl rfl (V_load rfl (Src.own (j := 1) rfl) rfl Try.isAgg49) ?_
    refine TL_v rfl rfl rfl (V_len_slice rfl Try.underlying49) ?_
    refine TL_v rfl rfl rfl (V_move rfl) ?_
    refine TL_v rfl rfl rfl (V_bin rfl rfl (fun w => subI w ((l1).length : Int) s0.1)) ?_
    refine TL_v rfl rfl rfl (V_move rfl) ?_
    refine TL_v rfl rfl rfl (V_bin rfl rfl (fun w => geqI w (w64 (((l1).length : Int) - s0.1)) r_1)) ?_
    refine TL_nil ?_
    refine TX_next ?_
    refine TC_cond (b := (decide (r_1 ≤ (w64 (((l1).length : Int) - s0.1))))) rfl (fun hc => ?_) (fun hc => ?_)
    · replace H := ite_t (of_decide_eq_true hc) H
      refine TC_skip ?_
      refine TX_next ?_
      refine TC_seq ?_
      refine TC_block ?_
      refine TC_region ?_
      refine TL_v rfl rfl rfl (V_move rfl) ?_
      refine TL_v rfl rfl rfl (V_move rfl) ?_
      refine TL_v rfl rfl rfl (V_nilCheck rfl) ?_
      refine TL_v rfl rfl rfl (V_fieldE rfl Try.underlying90 rfl rfl TryI.inf49 rfl (v := ptr (some (bh, obh + 89)) 0) rfl) ?_
      refine TL_v rfl rfl rfl (V_load rfl (Src.own (j := 1) rfl) rfl Try.isAgg49) ?_
      refine TL_v rfl rfl rfl (V_move rfl) ?_
      refine TL_v rfl rfl rfl (V_move rfl) ?_
      refine TL_v rfl rfl rfl (V_move rfl) ?_
      refine TL_v rfl rfl rfl (V_bin rfl rfl (fun w => addI w s0.1 r_1)) ?_
      obtain ⟨h2, H⟩ := if_elim H
      obtain ⟨h3, H⟩ := if_elim H
      obtain ⟨h4, H⟩ := if_elim H
      obtain ⟨h5, H⟩ := if_elim H
      refine TL_v rfl rfl rfl (V_sliceVw0 (l := (s0.1).toNat) (h := (w64 (s0.1 + r_1)).toNat) rfl Try.underlying49 TryI.inf5 rfl (Bnd.some' (i := s0.1) rfl h3) (Bnd.some' (i := w64 (s0.1 + r_1)) rfl h2) h5 (Nat.le_trans h4 (row_le _ _))) ?_
      obtain ⟨h6, H⟩ := if_elim H
      obtain ⟨h7, H⟩ := if_elim H
      refine TL_re (d := 50) (v := sl (cutB q1.1 ((l1 ++ q1.2).length) ((s0.1).toNat) 0 1) (((w64 (s0.1 + r_1)).toNat) - ((s0.1).toNat)) (((l1 ++ q1.2).length) - ((s0.1).toNat))) (v' := sl (cutB q1.1 ((l1 ++ q1.2).length) ((s0.1).toNat) 0 1) ((sub l1 ((s0.1).toNat) ((w64 (s0.1 + r_1)).toNat)).length) (((l1 ++ q1.2).length) - ((s0.1).toNat))) rfl (congrArg (fun n => sl (cutB q1.1 ((l1 ++ q1.2).length) ((s0.1).toNat) 0 1) n (((l1 ++ q1.2).length) - ((s0.1).toNat))) (sub_length h7).symm) ?_
      obtain ⟨r_2, hr_2, H⟩ := bind_elim H
      refine TL_e rfl rfl rfl (E_call (Γ := Unit) (val := fun g => Value.tuple [].toArray) (mem := fun g => [⟨some (bh, obh + 1), e64 r_2.toList⟩]) (vs := [ptr (some (bh, obh)) 0, sl (cutB q1.1 ((l1 ++ q1.2).length) ((s0.1).toNat) 0 1) ((sub l1 ((s0.1).toNat) ((w64 (s0.1 + r_1)).toNat)).length) (((l1 ++ q1.2).length) - ((s0.1).toNat))]) (Lin := [⟨some (bh, obh + 1), e64 s0.2.toList⟩]) (Ro := [⟨some (bh, obh), [vi h_n]⟩, ⟨some (bh, obh + 9), e64 h_k.toList⟩, ⟨some (bh, obh + 89), [sl q1.1 ((l1).length) ((l1 ++ q1.2).length)]⟩, ⟨some (bh, obh + 90), [v64 (h_all + (BitVec.ofInt 64 ((s_).length : Int)))]⟩, ⟨q1.1, e8 l1⟩, ⟨cutB q1.1 ((l1 ++ q1.2).length) ((s0.1).toNat) 0 1, e8 (sub l1 ((s0.1).toNat) ((w64 (s0.1 + r_1)).toNat))⟩]) (is := [0]) rfl Try.call68 (F68_calls bh obh q1.1 ((l1 ++ q1.2).length) (cutB q1.1 ((l1 ++ q1.2).length) ((s0.1).toNat) 0 1) (((l1 ++ q1.2).length) - ((s0.1).toNat)) h_n s0.2 h_k l1 (h_all + (BitVec.ofInt 64 ((s_).length : Int))) (sub l1 ((s0.1).toNat) ((w64 (s0.1 + r_1)).toNat)) (row_le _ _) (vw_cap h6 (Nat.le_trans h4 (row_le _ _))) r_2 hr_2) rfl ⟨SrcD.ro (j := 0) rfl, SrcD.ro (j := 1) rfl, SrcD.own (j := 0) rfl, SrcD.own (j := 2) rfl, (srcdRow (SrcD.own (j := 1) rfl)), (srcdVw (lst := l1) (srcdRow (SrcD.own (j := 1) rfl)) (Nat.le_trans h4 (row_le _ _))), trivial⟩) (fun g_2 => ?_)
      refine TL_re (d := 50) (v := sl (cutB q1.1 ((l1 ++ q1.2).length) ((s0.1).toNat) 0 1) ((sub l1 ((s0.1).toNat) ((w64 (s0.1 + r_1)).toNat)).length) (((l1 ++ q1.2).length) - ((s0.1).toNat))) (v' := sl (cutB q1.1 ((l1 ++ q1.2).length) ((s0.1).toNat) 0 1) (((w64 (s0.1 + r_1)).toNat) - ((s0.1).toNat)) (((l1 ++ q1.2).length) - ((s0.1).toNat))) rfl (congrArg (fun n => sl (cutB q1.1 ((l1 ++ q1.2).length) ((s0.1).toNat) 0 1) n (((l1 ++ q1.2).length) - ((s0.1).toNat))) (sub_length h7)) ?_
      refine TL_nil ?_
      refine TX_block_normal ?_
      refine TX_next ?_
      refine TC_region ?_
      refine TL_v rfl rfl rfl (V_move rfl) ?_
      refine TL_v rfl rfl rfl (V_move rfl) ?_
      refine TL_v rfl rfl rfl (V_bin rfl rfl (fun w => addI w s0.1 r_1)) ?_
      refine TL_v rfl rfl rfl (V_assign rfl) ?_
      obtain ⟨at_1, hat_1, H⟩ := ltt_elim H
      refine TL_re (d := 5) (v := vi (w64 (s0.1 + r_1))) (v' := vi at_1) rfl (congrArg vi hat_1) ?_
      refine TL_nil ?_
      refine TX.sub (m' := [(0, ptr (some (bh, obh)) 0), (4, vi r_1), (5, vi at_1)]) ⟨rfl, rfl, rfl, trivial⟩ ?_
      refine TX.pull (is := [0, 0, 0, 0]) (L' := [⟨some (bh, obh + 1), e64 r_2.toList⟩, ⟨some (bh, obh + 89), [sl q1.1 ((l1).length) ((l1 ++ q1.2).length)]⟩, ⟨q1.1, e8 (l1 ++ q1.2)⟩, ⟨some (bh, obh + 90), [v64 (h_all + (BitVec.ofInt 64 ((s_).length : Int)))]⟩]) rfl ?_
      obtain rfl := Option.some.inj H
      exact fun a w hs => hK (at_1, r_2) rfl () a w hs
    · replace H := ite_f (of_decide_eq_false hc) H
      refine TC_exit ?_
      refine TX_then_exit ?_
      refine TX_then_exit ?_
      refine TX.sub (m' := [(0, ptr (some (bh, obh)) 0), (5, vi s0.1)]) ⟨rfl, rfl, trivial⟩ ?_
      refine TX.pull (is := [0, 0, 0, 0]) (L' := [⟨some (bh, obh + 1), e64 s0.2.toList⟩, ⟨some (bh, obh + 89), [sl q1.1 ((l1).length) ((l1 ++ q1.2).length)]⟩, ⟨q1.1, e8 (l1 ++ q1.2)⟩, ⟨some (bh, obh + 90), [v64 (h_all + (BitVec.ofInt 64 ((s_).length : Int)))]⟩]) rfl ?_
      obtain rfl := Option.some.inj H
      exact hE (s0.1, s0.2) rfl ()
  · intro g
    refine TX_block_exit ?_
    refine TX_next ?_
    refine TC_region ?_
    refine TL_v rfl rfl rfl (V_move rfl) ?_
    refine TL_v rfl rfl rfl (V_move rfl) ?_
    refine TL_v rfl rfl rfl (V_nilCheck rfl) ?_
    refine TL_v rfl rfl rfl (V_fieldE rfl Try.underlying90 rfl rfl TryI.inf49 rfl (v := ptr (some (bh, obh + 89)) 0) rfl) ?_
    refine TL_v rfl rfl rfl (V_load rfl (Src.own (j := 1) rfl) rfl Try.isAgg49) ?_
    refine TL_v rfl rfl rfl (V_move rfl) ?_
    obtain ⟨h8, H⟩ := if_elim H
    obtain ⟨h9, H⟩ := if_elim H
    refine TL_v rfl rfl rfl (V_sliceVw0 (l := (t_1.1).toNat) (h := (l1).length) rfl Try.underlying49 TryI.inf5 rfl (Bnd.some' (i := t_1.1) rfl h8) Bnd.none' h9 (row_le _ _)) ?_
    refine TL_none ?_
    refine TL_re (d := 58) (v := sl (cutB q1.1 ((l1 ++ q1.2).length) ((t_1.1).toNat) 0 1) (((l1).length) - ((t_1.1).toNat)) (((l1 ++ q1.2).length) - ((t_1.1).toNat))) (v' := sl (cutB q1.1 ((l1 ++ q1.2).length) ((t_1.1).toNat) 0 1) ((sub l1 ((t_1.1).toNat) ((l1).length)).length) (((l1 ++ q1.2).length) - ((t_1.1).toNat))) rfl (congrArg (fun n => sl (cutB q1.1 ((l1 ++ q1.2).length) ((t_1.1).toNat) 0 1) n (((l1 ++ q1.2).length) - ((t_1.1).toNat))) (sub_length (Nat.le_refl _)).symm) ?_
    obtain ⟨h10, H⟩ := if_elim H
    obtain ⟨l2, hl2, H⟩ := ltt_elim H
    refine TL_e rfl rfl rfl (E_app1 (f := v8) (j := 0) (l := ([] : List (BitVec 8))) (sp := ([] : List (BitVec 8))) (ds := (sub l1 ((t_1.1).toNat) ((l1).length))) 0#8 (srcVw (lst := l1) (srcRow (Src.own (j := 3) rfl)) (row_le _ _)) rfl rfl rfl (fun _ => rfl) Try.underlying49 Try.underlying49 TryI.inf5 rfl TryI.zer5 (B' := 1) rfl (by have := h10; omega) (by have := h10; omega) hl2) (fun q2 => ?_)
    refine TL_v rfl rfl rfl (V_nilCheck rfl) ?_
    refine TL_v rfl rfl rfl (V_fieldE rfl Try.underlying90 rfl rfl TryI.inf49 rfl (v := ptr (some (bh, obh + 89)) 0) rfl) ?_
    refine TL_n rfl rfl (E_store (j := 2) rfl rfl TryI.inf49 rfl rfl rfl (Nat.lt_succ_self 0) (cs' := [sl q2.1 ((l2).length) ((l2 ++ q2.2).length)]) rfl) (fun _ => ?_)
    refine TL_nil ?_
    have hrv := Option.some.inj H
    subst hrv
    exact TX_end (rs := []) (vs := []) rfl trivial (fun w' hs' => ⟨(q2.1, q2.2), rfl, Step.left (Step.pulled (is := [1, 1, 0, 1]) (A := [⟨some (bh, obh + 1), e64 t_1.2.toList⟩, ⟨some (bh, obh + 89), [sl q2.1 ((l2).length) ((l2 ++ q2.2).length)]⟩, ⟨q2.1, e8 (l2 ++ q2.2)⟩, ⟨some (bh, obh + 90), [v64 (h_all + (BitVec.ofInt 64 ((s_).length : Int)))]⟩]) hs' rfl)⟩)

end Go.Proofs
end

section
namespace Go.Proofs
open Go Go.Kx
set_option linter.unusedVariables false
set_option linter.unusedSimpArgs false
def sha_Hash_Sum.b0 (h_all : BitVec 64) (r_1 : Int × Vector (BitVec 64) 8 × Vector (BitVec 64) 80 × List (BitVec 8) × BitVec 64) (r_2 : Int) (s0 : Int × List (BitVec 8)) : Option ((Int × List (BitVec 8)) ⊕ (List (BitVec 8))) :=
  if s0.1 < 8 then (if 0 ≤ w64 (8 * s0.1) then (if 0 ≤ w64 ((w64 (((w64 ((w64 (1 + ((w64 ((w64 ((w64 ((w64 (2 * r_2)) - 1)) - (w64 (r_2.tdiv 8)))) - ((r_1.2.2.2.1).length : Int))).tmod r_2))) + (w64 (r_2.tdiv 8)))).toNat : Int) - 1)) - s0.1) ∧ w64 ((w64 (((w64 ((w64 (1 + ((w64 ((w64 ((w64 ((w64 (2 * r_2)) - 1)) - (w64 (r_2.tdiv 8)))) - ((r_1.2.2.2.1).length : Int))).tmod r_2))) + (w64 (r_2.tdiv 8)))).toNat : Int) - 1)) - s0.1) < ((w64 ((w64 (1 + ((w64 ((w64 ((w64 ((w64 (2 * r_2)) - 1)) - (w64 (r_2.tdiv 8)))) - ((r_1.2.2.2.1).length : Int))).tmod r_2))) + (w64 (r_2.tdiv 8)))).toNat : Int) then (if (w64 ((w64 (((w64 ((w64 (1 + ((w64 ((w64 ((w64 ((w64 (2 * r_2)) - 1)) - (w64 (r_2.tdiv 8)))) - ((r_1.2.2.2.1).length : Int))).tmod r_2))) + (w64 (r_2.tdiv 8)))).toNat : Int) - 1)) - s0.1)).toNat < (s0.2).length then (ltt (s0.2.set ((w64 ((w64 (((w64 ((w64 (1 + ((w64 ((w64 ((w64 ((w64 (2 * r_2)) - 1)) - (w64 (r_2.tdiv 8)))) - ((r_1.2.2.2.1).length : Int))).tmod r_2))) + (w64 (r_2.tdiv 8)))).toNat : Int) - 1)) - s0.1)).toNat) (((h_all * 8#64) >>> (w64 (8 * s0.1)).toNat).setWidth 8)) fun (m_2 : List (BitVec 8)) => (some (.inl (w64 (s0.1 + 1), m_2)))) else none) else none) else none) else (some (.inr s0.2))

def sha_Hash_Sum.b2 (w_1 : BitVec 64) (s2 : Int × List (BitVec 8)) : Option ((Int × List (BitVec 8)) ⊕ (List (BitVec 8))) :=
  if 0 ≤ s2.1 then (if 0 ≤ w64 (8 * s2.1) then (if (s2.2).length + (([(w_1 >>> (w64 (8 * s2.1)).toNat).setWidth 8] : List (BitVec 8))).length ≤ 140737488355328 then (ltt (s2.2 ++ ([(w_1 >>> (w64 (8 * s2.1)).toNat).setWidth 8] : List (BitVec 8))) fun (l1 : List (BitVec 8)) => (ltt (w64 (s2.1 - 1)) fun (i2 : Int) => (some (.inl (i2, l1))))) else none) else none) else (some (.inr s2.2))

def sha_Hash_Sum.b1 (r_3 : Vector (BitVec 64) 8 × List (BitVec 8) × BitVec 64) (size1 : Int) (s1 : Int × List (BitVec 8)) : Option ((Int × List (BitVec 8)) ⊕ (List (BitVec 8))) :=
  if s1.1 < 8 then (if 0 ≤ s1.1 ∧ s1.1 < (8 : Int) then (ltt (vg r_3.1 ((s1.1).toNat)) fun (w_1 : BitVec 64) => (ltt (w64 (size1 - 1)) fun (i1 : Int) => ((loop (sha_Hash_Sum.b2 w_1) BIG (i1, s1.2)).bind fun (t_3 : List (BitVec 8)) => (some (.inl (w64 (s1.1 + 1), t_3)))))) else none) else (some (.inr s1.2))

def sha_Hash_Sum (h_n : Int) (h_h : Vector (BitVec 64) 8) (h_k : Vector (BitVec 64) 80) (h_rest : List (BitVec 8)) (h_all : BitVec 64) : Option (Str) :=
  (sha_Hash_Fork h_n h_h h_k h_rest h_all).bind fun (r_1 : Int × Vector (BitVec 64) 8 × Vector (BitVec 64) 80 × List (BitVec 8) × BitVec 64) => ((sha_Hash_block r_1.1 r_1.2.1 r_1.2.2.1 r_1.2.2.2.1 r_1.2.2.2.2).bind fun (r_2 : Int) => (if r_2 ≠ 0 then (if 0 ≤ w64 ((w64 (1 + ((w64 ((w64 ((w64 ((w64 (2 * r_2)) - 1)) - (w64 (r_2.tdiv 8)))) - ((r_1.2.2.2.1).length : Int))).tmod r_2))) + (w64 (r_2.tdiv 8))) ∧ w64 ((w64 (1 + ((w64 ((w64 ((w64 ((w64 (2 * r_2)) - 1)) - (w64 (r_2.tdiv 8)))) - ((r_1.2.2.2.1).length : Int))).tmod r_2))) + (w64 (r_2.tdiv 8))) ≤ 17592186044416 then (if 0 ≤ (0 : Int) ∧ (0 : Int) < ((w64 ((w64 (1 + ((w64 ((w64 ((w64 ((w64 (2 * r_2)) - 1)) - (w64 (r_2.tdiv 8)))) - ((r_1.2.2.2.1).length : Int))).tmod r_2))) + (w64 (r_2.tdiv 8)))).toNat : Int) then (if 0 < (List.replicate ((w64 ((w64 (1 + ((w64 ((w64 ((w64 ((w64 (2 * r_2)) - 1)) - (w64 (r_2.tdiv 8)))) - ((r_1.2.2.2.1).length : Int))).tmod r_2))) + (w64 (r_2.tdiv 8)))).toNat) 0#8).length then (ltt ((List.replicate ((w64 ((w64 (1 + ((w64 ((w64 ((w64 ((w64 (2 * r_2)) - 1)) - (w64 (r_2.tdiv 8)))) - ((r_1.2.2.2.1).length : Int))).tmod r_2))) + (w64 (r_2.tdiv 8)))).toNat) 0#8).set 0 128#8) fun (m_1 : List (BitVec 8)) => ((loop (sha_Hash_Sum.b0 h_all r_1 r_2) BIG (0, m_1)).bind fun (t_1 : List (BitVec 8)) => (if (t_1).length = (w64 ((w64 (1 + ((w64 ((w64 ((w64 ((w64 (2 * r_2)) - 1)) - (w64 (r_2.tdiv 8)))) - ((r_1.2.2.2.1).length : Int))).tmod r_2))) + (w64 (r_2.tdiv 8)))).toNat then ((sha_Hash_Write r_1.1 r_1.2.1 r_1.2.2.1 r_1.2.2.2.1 r_1.2.2.2.2 t_1).bind fun (r_3 : Vector (BitVec 64) 8 × List (BitVec 8) × BitVec 64) => (ltt (w64 (r_2.tdiv 16)) fun (size1 : Int) => ((loop (sha_Hash_Sum.b1 r_3 size1) BIG (0, ([] : List (BitVec 8)))).bind fun (t_2 : List (BitVec 8)) => (if 0 ≤ w64 (h_n.tdiv 8) then (if (w64 (h_n.tdiv 8)).toNat ≤ (t_2).length then (if (w64 (h_n.tdiv 8)).toNat ≤ (t_2).length then (ltt (sub t_2 0 ((w64 (h_n.tdiv 8)).toNat)) fun (x1 : Str) => (some x1)) else none) else none) else none)))) else none))) else none) else none) else none) else none))

set_option maxHeartbeats 4000000 in
set_option maxRecDepth 20000 in
theorem F60_calls (bh : Nat) (obh : Nat) (Ah_rest : Adr) (ch_rest : Nat) (h_n : Int) (h_h : Vector (BitVec 64) 8) (h_k : Vector (BitVec 64) 80) (h_rest : List (BitVec 8)) (h_all : BitVec 64) (hch_rest : (h_rest).length ≤ ch_rest) (r : Str) (H : sha_Hash_Sum h_n h_h h_k h_rest h_all = some r) :
    Does Try.prog 60 [ptr (some (bh, obh)) 0] [] [⟨some (bh, obh), [vi h_n]⟩, ⟨some (bh, obh + 1), e64 h_h.toList⟩, ⟨some (bh, obh + 9), e64 h_k.toList⟩, ⟨some (bh, obh + 89), [sl Ah_rest ((h_rest).length) ch_rest]⟩, ⟨some (bh, obh + 90), [v64 h_all]⟩, ⟨Ah_rest, e8 h_rest⟩] (Γ := Unit) (fun g => vs r) (fun g => []) := by
  intro w hmem hro hd
  refine calls_of (N := 95) (m0 := [(0, ptr (some (bh, obh)) 0)]) Try.func60 rfl Try.ntmps60 (argM_ok [ptr (some (bh, obh)) 0]) rfl hmem hro hd ?_
  unfold sha_Hash_Sum at H
  refine TC_seq ?_
  refine TC_region ?_
  refine TL_v rfl rfl rfl (V_assign rfl) ?_
  refine TL_nil ?_
  refine TX_next ?_
  refine TC_seq ?_
  refine TC_seq ?_
  refine TC_region ?_
  refine TL_v rfl rfl rfl (V_move rfl) ?_
  refine TL_v rfl rfl rfl (V_bin rfl rfl (fun w => eqlPpn w Try.underlying61)) ?_
  refine TL_nil ?_
  refine TX_next ?_
  refine TC_cond_f rfl ?_
  refine TC_skip ?_
  refine TX_next ?_
  refine TC_seq ?_
  refine TC_region ?_
  refine TL_v rfl rfl rfl (V_move rfl) ?_
  obtain ⟨r_1, hr_1, H⟩ := bind_elim H
  refine TL_e rfl rfl rfl (E_call (Γ := Nat × Adr × List (BitVec 8)) (val := fun g => ptr (some (g.1, 0)) 0) (mem := fun g => [⟨some (g.1, 0), [vi r_1.1]⟩, ⟨some (g.1, 1), e64 r_1.2.1.toList⟩, ⟨some (g.1, 9), e64 r_1.2.2.1.toList⟩, ⟨some (g.1, 89), [sl g.2.1 ((r_1.2.2.2.1).length) ((r_1.2.2.2.1 ++ g.2.2).length)]⟩, ⟨g.2.1, e8 (r_1.2.2.2.1 ++ g.2.2)⟩, ⟨some (g.1, 90), [v64 r_1.2.2.2.2]⟩]) (vs := [ptr (some (bh, obh)) 0]) (Lin := []) (Ro := [⟨some (bh, obh), [vi h_n]⟩, ⟨some (bh, obh + 1), e64 h_h.toList⟩, ⟨some (bh, obh + 9), e64 h_k.toList⟩, ⟨some (bh, obh + 89), [sl Ah_rest ((h_rest).length) ch_rest]⟩, ⟨some (bh, obh + 90), [v64 h_all]⟩, ⟨Ah_rest, e8 h_rest⟩]) (is := []) rfl Try.call62 (F62_calls bh obh Ah_rest ch_rest h_n h_h h_k h_rest h_all hch_rest r_1 hr_1) rfl ⟨SrcD.ro (j := 0) rfl, SrcD.ro (j := 1) rfl, SrcD.ro (j := 2) rfl, SrcD.ro (j := 3) rfl, SrcD.ro (j := 4) rfl, SrcD.ro (j := 5) rfl, trivial⟩) (fun g_1 => ?_)
  refine TL_v rfl rfl rfl (V_assign rfl) ?_
  refine TL_nil ?_
  refine TX_next ?_
  refine TC_seq ?_
  refine TC_region ?_
  refine TL_v rfl rfl rfl (V_move rfl) ?_
  obtain ⟨r_2, hr_2, H⟩ := bind_elim H
  refine TL_e rfl rfl rfl (E_call (Γ := Unit) (val := fun g => vi r_2) (mem := fun g => []) (vs := [ptr (some (g_1.1, 0)) 0]) (Lin := []) (Ro := [⟨some (g_1.1, 0), [vi r_1.1]⟩, ⟨some (g_1.1, 1), e64 r_1.2.1.toList⟩, ⟨some (g_1.1, 9), e64 r_1.2.2.1.toList⟩, ⟨some (g_1.1, 89), [sl g_1.2.1 ((r_1.2.2.2.1).length) ((r_1.2.2.2.1 ++ g_1.2.2).length)]⟩, ⟨some (g_1.1, 90), [v64 r_1.2.2.2.2]⟩, ⟨g_1.2.1, e8 r_1.2.2.2.1⟩]) (is := []) rfl Try.call67 (F67_calls g_1.1 0 g_1.2.1 ((r_1.2.2.2.1 ++ g_1.2.2).length) r_1.1 r_1.2.1 r_1.2.2.1 r_1.2.2.2.1 r_1.2.2.2.2 (row_le _ _) r_2 hr_2) rfl ⟨SrcD.own (j := 0) rfl, SrcD.own (j := 1) rfl, SrcD.own (j := 2) rfl, SrcD.own (j := 3) rfl, SrcD.own (j := 5) rfl, (srcdRow (SrcD.own (j := 4) rfl)), trivial⟩) (fun g_2 => ?_)
  refine TL_v rfl rfl rfl (V_assign rfl) ?_
  refine TL_nil ?_
  refine TX_next ?_
  refine TC_seq ?_
  refine TC_region ?_
  refine TL_v rfl rfl rfl (V_move rfl) ?_
  refine TL_v rfl rfl rfl (V_bin rfl rfl (fun w => mulI w 2 r_2)) ?_
  refine TL_v rfl rfl rfl (V_bin rfl rfl (fun w => subI w (w64 (2 * r_2)) 1)) ?_
  refine TL_v rfl rfl rfl (V_move rfl) ?_
  refine TL_v rfl rfl rfl (V_bin rfl rfl (fun w => quoI w r_2 8 (by decide))) ?_
  refine TL_v rfl rfl rfl (V_bin rfl rfl (fun w => subI w (w64 ((w64 (2 * r_2)) - 1)) (w64 (r_2.tdiv 8)))) ?_
  refine TL_v rfl rfl rfl (V_move rfl) ?_
  refine TL_v rfl rfl rfl (V_nilCheck rfl) ?_
  refine TL_v rfl rfl rfl (V_fieldE rfl Try.underlying90 rfl rfl TryI.inf49 rfl (v := ptr (some (g_1.1, 89)) 0) rfl) ?_
  refine TL_v rfl rfl rfl (V_load rfl (Src.own (j := 3) rfl) rfl Try.isAgg49) ?_
  refine TL_v rfl rfl rfl (V_len_slice rfl Try.underlying49) ?_
  refine TL_v rfl rfl rfl (V_bin rfl rfl (fun w => subI w (w64 ((w64 ((w64 (2 * r_2)) - 1)) - (w64 (r_2.tdiv 8)))) ((r_1.2.2.2.1).length : Int))) ?_
  refine TL_v rfl rfl rfl (V_move rfl) ?_
  obtain ⟨h1, H⟩ := if_elim H
  refine TL_v rfl rfl rfl (V_bin rfl rfl (fun w => remI w (w64 ((w64 ((w64 ((w64 (2 * r_2)) - 1)) - (w64 (r_2.tdiv 8)))) - ((r_1.2.2.2.1).length : Int))) r_2 h1)) ?_
  refine TL_v rfl rfl rfl (V_bin rfl rfl (fun w => addI w 1 ((w64 ((w64 ((w64 ((w64 (2 * r_2)) - 1)) - (w64 (r_2.tdiv 8)))) - ((r_1.2.2.2.1).length : Int))).tmod r_2))) ?_
  refine TL_v rfl rfl rfl (V_move rfl) ?_
  refine TL_v rfl rfl rfl (V_bin rfl rfl (fun w => quoI w r_2 8 (by decide))) ?_
  refine TL_v rfl rfl rfl (V_bin rfl rfl (fun w => addI w (w64 (1 + ((w64 ((w64 ((w64 ((w64 (2 * r_2)) - 1)) - (w64 (r_2.tdiv 8)))) - ((r_1.2.2.2.1).length : Int))).tmod r_2))) (w64 (r_2.tdiv 8)))) ?_
  obtain ⟨h2, H⟩ := if_elim H
  refine TL_e rfl rfl rfl (E_mk1 rfl rfl Try.underlying49 TryI.inf5 (z := v8 0#8) rfl rfl rfl (B := 1) rfl h2.1 (Int.le_refl _) (by have := h2; omega) (by have := h2; omega) (n' := (w64 ((w64 (1 + ((w64 ((w64 ((w64 ((w64 (2 * r_2)) - 1)) - (w64 (r_2.tdiv 8)))) - ((r_1.2.2.2.1).length : Int))).tmod r_2))) + (w64 (r_2.tdiv 8)))).toNat) (c' := (w64 ((w64 (1 + ((w64 ((w64 ((w64 ((w64 (2 * r_2)) - 1)) - (w64 (r_2.tdiv 8)))) - ((r_1.2.2.2.1).length : Int))).tmod r_2))) + (w64 (r_2.tdiv 8)))).toNat) rfl rfl (cs := e8 (List.replicate ((w64 ((w64 (1 + ((w64 ((w64 ((w64 ((w64 (2 * r_2)) - 1)) - (w64 (r_2.tdiv 8)))) - ((r_1.2.2.2.1).length : Int))).tmod r_2))) + (w64 (r_2.tdiv 8)))).toNat) 0#8)) (rep_map (f := v8))) (fun b1 => ?_)
  refine TL_v rfl rfl rfl (V_assign rfl) ?_
  refine TL_nil ?_
  refine TX_next ?_
  refine TC_seq ?_
  refine TC_region ?_
  refine TL_v rfl rfl rfl (V_move rfl) ?_
  obtain ⟨h3, H⟩ := if_elim H
  obtain ⟨h4, H⟩ := if_elim H
  refine TL_v rfl rfl rfl (V_idxSl (i := 0) rfl rfl Try.underlying49 TryI.inf5 rfl (fun _ h => by cases h) h3.1 h3.2 (k := 0) (km1 _)) ?_
  refine TL_n rfl rfl (E_store (j := 0) rfl rfl TryI.inf5 rfl rfl rfl (by simpa using h4) (cs' := e8 ((List.replicate ((w64 ((w64 (1 + ((w64 ((w64 ((w64 ((w64 (2 * r_2)) - 1)) - (w64 (r_2.tdiv 8)))) - ((r_1.2.2.2.1).length : Int))).tmod r_2))) + (w64 (r_2.tdiv 8)))).toNat) 0#8).set 0 128#8)) (set_map (f := v8) (l := (List.replicate ((w64 ((w64 (1 + ((w64 ((w64 ((w64 ((w64 (2 * r_2)) - 1)) - (w64 (r_2.tdiv 8)))) - ((r_1.2.2.2.1).length : Int))).tmod r_2))) + (w64 (r_2.tdiv 8)))).toNat) 0#8)) (k := 0) (x := 128#8))) (fun _ => ?_)
  obtain ⟨m_1, hm_1, H⟩ := ltt_elim H
  refine TL_reE (j := 0) (A := some (b1, 0)) (cs := e8 ((List.replicate ((w64 ((w64 (1 + ((w64 ((w64 ((w64 ((w64 (2 * r_2)) - 1)) - (w64 (r_2.tdiv 8)))) - ((r_1.2.2.2.1).length : Int))).tmod r_2))) + (w64 (r_2.tdiv 8)))).toNat) 0#8).set 0 128#8)) (cs' := e8 m_1) rfl (congrArg (e8) hm_1) ?_
  refine TL_nil ?_
  refine TX_next ?_
  refine TC.sub (m' := [(0, ptr (some (bh, obh)) 0), (3, ptr (some (g_1.1, 0)) 0), (4, vi r_2), (5, sl (some (b1, 0)) ((w64 ((w64 (1 + ((w64 ((w64 ((w64 ((w64 (2 * r_2)) - 1)) - (w64 (r_2.tdiv 8)))) - ((r_1.2.2.2.1).length : Int))).tmod r_2))) + (w64 (r_2.tdiv 8)))).toNat) ((w64 ((w64 (1 + ((w64 ((w64 ((w64 ((w64 (2 * r_2)) - 1)) - (w64 (r_2.tdiv 8)))) - ((r_1.2.2.2.1).length : Int))).tmod r_2))) + (w64 (r_2.tdiv 8)))).toNat))]) ⟨rfl, rfl, rfl, rfl, trivial⟩ ?_
  refine TC_seq ?_
  refine TC_seq ?_
  refine TC_region ?_
  refine TL_v rfl rfl rfl (V_move rfl) ?_
  refine TL_nil ?_
  refine TX_next ?_
  refine TC_block ?_
  obtain ⟨t_1, Hl, H⟩ := bind_elim H
  refine TC.sub (m' := [(0, ptr (some (bh, obh)) 0), (3, ptr (some (g_1.1, 0)) 0), (4, vi r_2), (5, sl (some (b1, 0)) ((w64 ((w64 (1 + ((w64 ((w64 ((w64 ((w64 (2 * r_2)) - 1)) - (w64 (r_2.tdiv 8)))) - ((r_1.2.2.2.1).length : Int))).tmod r_2))) + (w64 (r_2.tdiv 8)))).toNat) ((w64 ((w64 (1 + ((w64 ((w64 ((w64 ((w64 (2 * r_2)) - 1)) - (w64 (r_2.tdiv 8)))) - ((r_1.2.2.2.1).length : Int))).tmod r_2))) + (w64 (r_2.tdiv 8)))).toNat)), (39, vi 0)]) ⟨rfl, rfl, rfl, rfl, rfl, trivial⟩ ?_
  refine TC.pull (is := [1, 1, 1, 1, 1, 1, 0]) (L' := [⟨some (g_1.1, 0), [vi r_1.1]⟩, ⟨some (g_1.1, 1), e64 r_1.2.1.toList⟩, ⟨some (g_1.1, 9), e64 r_1.2.2.1.toList⟩, ⟨some (g_1.1, 89), [sl g_1.2.1 ((r_1.2.2.2.1).length) ((r_1.2.2.2.1 ++ g_1.2.2).length)]⟩, ⟨g_1.2.1, e8 (r_1.2.2.2.1 ++ g_1.2.2)⟩, ⟨some (g_1.1, 90), [v64 r_1.2.2.2.2]⟩, ⟨some (b1, 0), e8 m_1⟩]) rfl ?_
  refine TC_loopL (id := 0) (body := (sha_Hash_Sum.b0 h_all r_1 r_2)) (σ := Int × List (BitVec 8)) (Γ := Unit) (Γx := Unit) (fun s0 g0_ => [(0, ptr (some (bh, obh)) 0), (3, ptr (some (g_1.1, 0)) 0), (4, vi r_2), (5, sl (some (b1, 0)) ((w64 ((w64 (1 + ((w64 ((w64 ((w64 ((w64 (2 * r_2)) - 1)) - (w64 (r_2.tdiv 8)))) - ((r_1.2.2.2.1).length : Int))).tmod r_2))) + (w64 (r_2.tdiv 8)))).toNat) ((w64 ((w64 (1 + ((w64 ((w64 ((w64 ((w64 (2 * r_2)) - 1)) - (w64 (r_2.tdiv 8)))) - ((r_1.2.2.2.1).length : Int))).tmod r_2))) + (w64 (r_2.tdiv 8)))).toNat)), (39, vi s0.1)]) (fun s0 g0_ => [⟨some (g_1.1, 0), [vi r_1.1]⟩, ⟨some (g_1.1, 1), e64 r_1.2.1.toList⟩, ⟨some (g_1.1, 9), e64 r_1.2.2.1.toList⟩, ⟨some (g_1.1, 89), [sl g_1.2.1 ((r_1.2.2.2.1).length) ((r_1.2.2.2.1 ++ g_1.2.2).length)]⟩, ⟨g_1.2.1, e8 (r_1.2.2.2.1 ++ g_1.2.2)⟩, ⟨some (g_1.1, 90), [v64 r_1.2.2.2.2]⟩, ⟨some (b1, 0), e8 s0.2⟩]) (fun t g => [(0, ptr (some (bh, obh)) 0), (3, ptr (some (g_1.1, 0)) 0), (4, vi r_2), (5, sl (some (b1, 0)) ((w64 ((w64 (1 + ((w64 ((w64 ((w64 ((w64 (2 * r_2)) - 1)) - (w64 (r_2.tdiv 8)))) - ((r_1.2.2.2.1).length : Int))).tmod r_2))) + (w64 (r_2.tdiv 8)))).toNat) ((w64 ((w64 (1 + ((w64 ((w64 ((w64 ((w64 (2 * r_2)) - 1)) - (w64 (r_2.tdiv 8)))) - ((r_1.2.2.2.1).length : Int))).tmod r_2))) + (w64 (r_2.tdiv 8)))).toNat))]) (fun t g => [⟨some (g_1.1, 0), [vi r_1.1]⟩, ⟨some (g_1.1, 1), e64 r_1.2.1.toList⟩, ⟨some (g_1.1, 9), e64 r_1.2.2.1.toList⟩, ⟨some (g_1.1, 89), [sl g_1.2.1 ((r_1.2.2.2.1).length) ((r_1.2.2.2.1 ++ g_1.2.2).length)]⟩, ⟨g_1.2.1, e8 (r_1.2.2.2.1 ++ g_1.2.2)⟩, ⟨some (g_1.1, 90), [v64 r_1.2.2.2.2]⟩, ⟨some (b1, 0), e8 t⟩]) ?_ BIG (0, m_1) () t_1 Hl ?_
  · intro s0 g0_ r1 H K hK hE
    unfold sha_Hash_Sum.b0 at H
    refine TC_seq ?_
    refine TC_region ?_
    refine TL_v rfl rfl rfl (V_bin rfl rfl (fun w => lssI w s0.1 8)) ?_
    refine TL_nil ?_
    refine TX_next ?_
    refine TC_seq ?_
    refine TC_cond (b := (decide (s0.1 < 8))) rfl (fun hc => ?_) (fun hc => ?_)
    · replace H := ite_t (of_decide_eq_true hc) H
      refine TC_skip ?_
      refine TX_next ?_
      refine TC_seq ?_
      refine TC_block ?_
      refine TC_seq ?_
      refine TC_region ?_
      refine TL_v rfl rfl rfl (V_move rfl) ?_
      refine TL_v rfl rfl rfl (V_assign rfl) ?_
      refine TL_nil ?_
      refine TX_next ?_
      refine TC_region ?_
      refine TL_v rfl rfl rfl (V_move rfl) ?_
      refine TL_v rfl rfl rfl (V_move rfl) ?_
      refine TL_v rfl rfl rfl (V_len_slice rfl Try.underlying49) ?_
      refine TL_v rfl rfl rfl (V_bin rfl rfl (fun w => subI w ((w64 ((w64 (1 + ((w64 ((w64 ((w64 ((w64 (2 * r_2)) - 1)) - (w64 (r_2.tdiv 8)))) - ((r_1.2.2.2.1).length : Int))).tmod r_2))) + (w64 (r_2.tdiv 8)))).toNat : Int) 1)) ?_
      refine TL_v rfl rfl rfl (V_move rfl) ?_
      refine TL_v rfl rfl rfl (V_bin rfl rfl (fun w => subI w (w64 (((w64 ((w64 (1 + ((w64 ((w64 ((w64 ((w64 (2 * r_2)) - 1)) - (w64 (r_2.tdiv 8)))) - ((r_1.2.2.2.1).length : Int))).tmod r_2))) + (w64 (r_2.tdiv 8)))).toNat : Int) - 1)) s0.1)) ?_
      refine TL_v rfl rfl rfl (V_move rfl) ?_
      refine TL_v rfl rfl rfl (V_nilCheck rfl) ?_
      refine TL_v rfl rfl rfl (V_fieldE rfl Try.underlying90 rfl rfl TryI.inf71 rfl (v := ptr (some (bh, obh + 90)) 0) rfl) ?_
      refine TL_v rfl rfl rfl (V_load rfl (Src.ro (j := 4) rfl) rfl Try.isAgg71) ?_
      refine TL_v rfl rfl rfl (V_bin rfl rfl (fun w => mul64 w h_all 8#64)) ?_
      refine TL_v rfl rfl rfl (V_move rfl) ?_
      refine TL_v rfl rfl rfl (V_bin rfl rfl (fun w => mulI w 8 s0.1)) ?_
      obtain ⟨h5, H⟩ := if_elim H
      refine TL_v rfl rfl rfl (V_bin rfl rfl (fun w => shr64 w (h_all * 8#64) .i64 (w64 (8 * s0.1)) h5)) ?_
      refine TL_v rfl rfl rfl (V_conv rfl (fun w => cv64to8 w _ _ Try.underlying5 (TryI.und71) ((h_all * 8#64) >>> (w64 (8 * s0.1)).toNat))) ?_
      obtain ⟨h6, H⟩ := if_elim H
      obtain ⟨h7, H⟩ := if_elim H
      refine TL_v rfl rfl rfl (V_idxSl (i := w64 ((w64 (((w64 ((w64 (1 + ((w64 ((w64 ((w64 ((w64 (2 * r_2)) - 1)) - (w64 (r_2.tdiv 8)))) - ((r_1.2.2.2.1).length : Int))).tmod r_2))) + (w64 (r_2.tdiv 8)))).toNat : Int) - 1)) - s0.1)) rfl rfl Try.underlying49 TryI.inf5 rfl (fun _ h => by cases h) h6.1 h6.2 (k := (w64 ((w64 (((w64 ((w64 (1 + ((w64 ((w64 ((w64 ((w64 (2 * r_2)) - 1)) - (w64 (r_2.tdiv 8)))) - ((r_1.2.2.2.1).length : Int))).tmod r_2))) + (w64 (r_2.tdiv 8)))).toNat : Int) - 1)) - s0.1)).toNat) (km1 _)) ?_
      refine TL_n rfl rfl (E_store (j := 6) rfl rfl TryI.inf5 rfl rfl rfl (by simpa using h7) (cs' := e8 (s0.2.set ((w64 ((w64 (((w64 ((w64 (1 + ((w64 ((w64 ((w64 ((w64 (2 * r_2)) - 1)) - (w64 (r_2.tdiv 8)))) - ((r_1.2.2.2.1).length : Int))).tmod r_2))) + (w64 (r_2.tdiv 8)))).toNat : Int) - 1)) - s0.1)).toNat) (((h_all * 8#64) >>> (w64 (8 * s0.1)).toNat).setWidth 8))) (set_map (f := v8) (l := s0.2) (k := ((w64 ((w64 (((w64 ((w64 (1 + ((w64 ((w64 ((w64 ((w64 (2 * r_2)) - 1)) - (w64 (r_2.tdiv 8)))) - ((r_1.2.2.2.1).length : Int))).tmod r_2))) + (w64 (r_2.tdiv 8)))).toNat : Int) - 1)) - s0.1)).toNat)) (x := (((h_all * 8#64) >>> (w64 (8 * s0.1)).toNat).setWidth 8)))) (fun _ => ?_)
      obtain ⟨m_2, hm_2, H⟩ := ltt_elim H
      refine TL_reE (j := 6) (A := some (b1, 0)) (cs := e8 (s0.2.set ((w64 ((w64 (((w64 ((w64 (1 + ((w64 ((w64 ((w64 ((w64 (2 * r_2)) - 1)) - (w64 (r_2.tdiv 8)))) - ((r_1.2.2.2.1).length : Int))).tmod r_2))) + (w64 (r_2.tdiv 8)))).toNat : Int) - 1)) - s0.1)).toNat) (((h_all * 8#64) >>> (w64 (8 * s0.1)).toNat).setWidth 8))) (cs' := e8 m_2) rfl (congrArg (e8) hm_2) ?_
      refine TL_nil ?_
      refine TX_block_normal ?_
      refine TX_next ?_
      refine TC_region ?_
      refine TL_v rfl rfl rfl (V_bin rfl rfl (fun w => addI w s0.1 1)) ?_
      refine TL_v rfl rfl rfl (V_move rfl) ?_
      refine TL_nil ?_
      refine TX.sub (m' := [(0, ptr (some (bh, obh)) 0), (3, ptr (some (g_1.1, 0)) 0), (4, vi r_2), (5, sl (some (b1, 0)) ((w64 ((w64 (1 + ((w64 ((w64 ((w64 ((w64 (2 * r_2)) - 1)) - (w64 (r_2.tdiv 8)))) - ((r_1.2.2.2.1).length : Int))).tmod r_2))) + (w64 (r_2.tdiv 8)))).toNat) ((w64 ((w64 (1 + ((w64 ((w64 ((w64 ((w64 (2 * r_2)) - 1)) - (w64 (r_2.tdiv 8)))) - ((r_1.2.2.2.1).length : Int))).tmod r_2))) + (w64 (r_2.tdiv 8)))).toNat)), (39, vi (w64 (s0.1 + 1)))]) ⟨rfl, rfl, rfl, rfl, rfl, trivial⟩ ?_
      refine TX.pull (is := [0, 0, 0, 0, 0, 0, 0]) (L' := [⟨some (g_1.1, 0), [vi r_1.1]⟩, ⟨some (g_1.1, 1), e64 r_1.2.1.toList⟩, ⟨some (g_1.1, 9), e64 r_1.2.2.1.toList⟩, ⟨some (g_1.1, 89), [sl g_1.2.1 ((r_1.2.2.2.1).length) ((r_1.2.2.2.1 ++ g_1.2.2).length)]⟩, ⟨g_1.2.1, e8 (r_1.2.2.2.1 ++ g_1.2.2)⟩, ⟨some (g_1.1, 90), [v64 r_1.2.2.2.2]⟩, ⟨some (b1, 0), e8 m_2⟩]) rfl ?_
      obtain rfl := Option.some.inj H
      exact fun a w hs => hK (w64 (s0.1 + 1), m_2) rfl () a w hs
    · replace H := ite_f (of_decide_eq_false hc) H
      refine TC_exit ?_
      refine TX_then_exit ?_
      refine TX_then_exit ?_
      refine TX.sub (m' := [(0, ptr (some (bh, obh)) 0), (3, ptr (some (g_1.1, 0)) 0), (4, vi r_2), (5, sl (some (b1, 0)) ((w64 ((w64 (1 + ((w64 ((w64 ((w64 ((w64 (2 * r_2)) - 1)) - (w64 (r_2.tdiv 8)))) - ((r_1.2.2.2.1).length : Int))).tmod r_2))) + (w64 (r_2.tdiv 8)))).toNat) ((w64 ((w64 (1 + ((w64 ((w64 ((w64 ((w64 (2 * r_2)) - 1)) - (w64 (r_2.tdiv 8)))) - ((r_1.2.2.2.1).length : Int))).tmod r_2))) + (w64 (r_2.tdiv 8)))).toNat))]) ⟨rfl, rfl, rfl, rfl, trivial⟩ ?_
      refine TX.pull (is := [0, 0, 0, 0, 0, 0, 0]) (L' := [⟨some (g_1.1, 0), [vi r_1.1]⟩, ⟨some (g_1.1, 1), e64 r_1.2.1.toList⟩, ⟨some (g_1.1, 9), e64 r_1.2.2.1.toList⟩, ⟨some (g_1.1, 89), [sl g_1.2.1 ((r_1.2.2.2.1).length) ((r_1.2.2.2.1 ++ g_1.2.2).length)]⟩, ⟨g_1.2.1, e8 (r_1.2.2.2.1 ++ g_1.2.2)⟩, ⟨some (g_1.1, 90), [v64 r_1.2.2.2.2]⟩, ⟨some (b1, 0), e8 s0.2⟩]) rfl ?_
      obtain rfl := Option.some.inj H
      exact hE s0.2 rfl ()
  · intro g
    refine TX_block_exit ?_
    refine TX_next ?_
    refine TC_seq ?_
    refine TC_region ?_
    refine TL_v rfl rfl rfl (V_move rfl) ?_
    refine TL_v rfl rfl rfl (V_move rfl) ?_
    obtain ⟨h8, H⟩ := if_elim H
    refine TL_v rfl rfl rfl (V_b2s rfl Try.underlying49 Try.underlying5 Try.underlying9 (Src.own (j := 6) rfl) h8) ?_
    obtain ⟨r_3, hr_3, H⟩ := bind_elim H
    refine TL_e rfl rfl rfl (E_call (Γ := Adr × List (BitVec 8)) (val := fun g => Value.tuple [].toArray) (mem := fun g => [⟨some (g_1.1, 1), e64 r_3.1.toList⟩, ⟨some (g_1.1, 89), [sl g.1 ((r_3.2.1).length) ((r_3.2.1 ++ g.2).length)]⟩, ⟨g.1, e8 (r_3.2.1 ++ g.2)⟩, ⟨some (g_1.1, 90), [v64 r_3.2.2]⟩]) (vs := [ptr (some (g_1.1, 0)) 0, vs t_1]) (Lin := [⟨some (g_1.1, 1), e64 r_1.2.1.toList⟩, ⟨some (g_1.1, 89), [sl g_1.2.1 ((r_1.2.2.2.1).length) ((r_1.2.2.2.1 ++ g_1.2.2).length)]⟩, ⟨some (g_1.1, 90), [v64 r_1.2.2.2.2]⟩, ⟨g_1.2.1, e8 (r_1.2.2.2.1 ++ g_1.2.2)⟩]) (Ro := [⟨some (g_1.1, 0), [vi r_1.1]⟩, ⟨some (g_1.1, 9), e64 r_1.2.2.1.toList⟩]) (is := [1, 2, 3, 2]) rfl Try.call59 (F59_calls g_1.1 0 g_1.2.1 g_1.2.2 r_1.1 r_1.2.1 r_1.2.2.1 r_1.2.2.2.1 r_1.2.2.2.2 t_1 r_3 hr_3) rfl ⟨SrcD.own (j := 0) rfl, SrcD.own (j := 1) rfl, trivial⟩) (fun g_3 => ?_)
    refine TL_nil ?_
    refine TX_next ?_
    refine TC_seq ?_
    refine TC_region ?_
    refine TL_e rfl rfl rfl (E_nilS rfl (z := e8 (([] : List (BitVec 8)) ++ ([] : List (BitVec 8)))) rfl) (fun A1 => ?_)
    refine TL_nil ?_
    refine TX_next ?_
    refine TC_seq ?_
    refine TC_region ?_
    refine TL_v rfl rfl rfl (V_move rfl) ?_
    refine TL_v rfl rfl rfl (V_bin rfl rfl (fun w => quoI w r_2 16 (by decide))) ?_
    refine TL_v rfl rfl rfl (V_assign rfl) ?_
    obtain ⟨size1, hsize1, H⟩ := ltt_elim H
    refine TL_re (d := 8) (v := vi (w64 (r_2.tdiv 16))) (v' := vi size1) rfl (congrArg vi hsize1) ?_
    refine TL_nil ?_
    refine TX_next ?_
    refine TC_seq ?_
    refine TC_seq ?_
    refine TC_region ?_
    refine TL_v rfl rfl rfl (V_move rfl) ?_
    refine TL_v rfl rfl rfl (V_nilCheck rfl) ?_
    refine TL_v rfl rfl rfl (V_fieldE rfl Try.underlying90 rfl rfl TryI.inf72 rfl (v := ptr (some (g_1.1, 1)) 0) rfl) ?_
    refine TL_v rfl rfl rfl (V_loadAgg (n := 8) rfl (by simp) (Src.own (j := 1) rfl) Try.isAgg72 TryI.inf72 rfl (lenV (f := v64) r_3.1)) ?_
    refine TL_v rfl rfl rfl (V_move rfl) ?_
    refine TL_nil ?_
    refine TX_next ?_
    refine TC_block ?_
    obtain ⟨t_2, Hl, H⟩ := bind_elim H
    refine TC.sub (m' := [(0, ptr (some (bh, obh)) 0), (7, sl A1 ((([] : List (BitVec 8))).length) ((([] : List (BitVec 8)) ++ ([] : List (BitVec 8))).length)), (8, vi size1), (68, Value.agg (flat [(8, e64 r_3.1.toList)]).toArray), (69, vi 0)]) ⟨rfl, rfl, rfl, rfl, rfl, trivial⟩ ?_
    refine TC.pull (is := [0]) (L' := [⟨A1, e8 (([] : List (BitVec 8)) ++ ([] : List (BitVec 8)))⟩]) rfl ?_
    refine TC_loopL (id := 2) (body := (sha_Hash_Sum.b1 r_3 size1)) (σ := Int × List (BitVec 8)) (Γ := Adr × List (BitVec 8)) (Γx := Adr × List (BitVec 8)) (fun s1 g1_ => [(0, ptr (some (bh, obh)) 0), (7, sl g1_.1 ((s1.2).length) ((s1.2 ++ g1_.2).length)), (8, vi size1), (68, Value.agg (flat [(8, e64 r_3.1.toList)]).toArray), (69, vi s1.1)]) (fun s1 g1_ => [⟨g1_.1, e8 (s1.2 ++ g1_.2)⟩]) (fun t g => [(0, ptr (some (bh, obh)) 0), (7, sl g.1 ((t).length) ((t ++ g.2).length))]) (fun t g => [⟨g.1, e8 (t ++ g.2)⟩]) ?_ BIG (0, ([] : List (BitVec 8))) (A1, ([] : List (BitVec 8))) t_2 Hl ?_
    · intro s1 g1_ r1 H K hK hE
      unfold sha_Hash_Sum.b1 at H
      refine TC_seq ?_
      refine TC_region ?_
      refine TL_v rfl rfl rfl (V_bin rfl rfl (fun w => lssI w s1.1 8)) ?_
      refine TL_nil ?_
      refine TX_next ?_
      refine TC_seq ?_
      refine TC_cond (b := (decide (s1.1 < 8))) rfl (fun hc => ?_) (fun hc => ?_)
      · replace H := ite_t (of_decide_eq_true hc) H
        refine TC_skip ?_
        refine TX_next ?_
        refine TC_seq ?_
        refine TC_block ?_
        refine TC_seq ?_
        refine TC_region ?_
        obtain ⟨h9, H⟩ := if_elim H
        refine TL_v rfl rfl rfl (V_idxAgg (f := v64) (V := r_3.1) (i := s1.1) rfl rfl Try.underlying72 TryI.inf71 rfl Try.isAgg71 h9.1 h9.2) ?_
        refine TL_v rfl rfl rfl (V_assign rfl) ?_
        obtain ⟨w_1, hw_1, H⟩ := ltt_elim H
        refine TL_re (d := 10) (v := v64 (vg r_3.1 ((s1.1).toNat))) (v' := v64 w_1) rfl (congrArg v64 hw_1) ?_
        refine TL_nil ?_
        refine TX_next ?_
        refine TC_seq ?_
        refine TC_region ?_
        refine TL_v rfl rfl rfl (V_move rfl) ?_
        refine TL_v rfl rfl rfl (V_bin rfl rfl (fun w => subI w size1 1)) ?_
        refine TL_v rfl rfl rfl (V_assign rfl) ?_
        obtain ⟨i1, hi1, H⟩ := ltt_elim H
        refine TL_re (d := 11) (v := vi (w64 (size1 - 1))) (v' := vi i1) rfl (congrArg vi hi1) ?_
        refine TL_nil ?_
        refine TX_next ?_
        refine TC_block ?_
        obtain ⟨t_3, Hl, H⟩ := bind_elim H
        refine TC.sub (m' := [(0, ptr (some (bh, obh)) 0), (7, sl g1_.1 ((s1.2).length) ((s1.2 ++ g1_.2).length)), (8, vi size1), (10, v64 w_1), (11, vi i1), (68, Value.agg (flat [(8, e64 r_3.1.toList)]).toArray), (69, vi s1.1)]) ⟨rfl, rfl, rfl, rfl, rfl, rfl, rfl, trivial⟩ ?_
        refine TC.pull (is := [0]) (L' := [⟨g1_.1, e8 (s1.2 ++ g1_.2)⟩]) rfl ?_
        refine TC_loopL (id := 4) (body := (sha_Hash_Sum.b2 w_1)) (σ := Int × List (BitVec 8)) (Γ := Adr × List (BitVec 8)) (Γx := Adr × List (BitVec 8)) (fun s2 g2_ => [(0, ptr (some (bh, obh)) 0), (7, sl g2_.1 ((s2.2).length) ((s2.2 ++ g2_.2).length)), (8, vi size1), (10, v64 w_1), (11, vi s2.1), (68, Value.agg (flat [(8, e64 r_3.1.toList)]).toArray), (69, vi s1.1)]) (fun s2 g2_ => [⟨g2_.1, e8 (s2.2 ++ g2_.2)⟩]) (fun t g => [(0, ptr (some (bh, obh)) 0), (7, sl g.1 ((t).length) ((t ++ g.2).length)), (8, vi size1), (68, Value.agg (flat [(8, e64 r_3.1.toList)]).toArray), (69, vi s1.1)]) (fun t g => [⟨g.1, e8 (t ++ g.2)⟩]) ?_ BIG (i1, s1.2) (g1_.1, g1_.2) t_3 Hl ?_
        · intro s2 g2_ r1 H K hK hE
          unfold sha_Hash_Sum.b2 at H
          refine TC_seq ?_
          refine TC_seq ?_
          refine TC_region ?_
          refine TL_v rfl rfl rfl (V_move rfl) ?_
          refine TL_v rfl rfl rfl (V_bin rfl rfl (fun w => geqI w s2.1 0)) ?_
          refine TL_nil ?_
          refine TX_next ?_
          refine TC_cond (b := (decide (0 ≤ s2.1))) rfl (fun hc => ?_) (fun hc => ?_)
          · replace H := ite_t (of_decide_eq_true hc) H
            refine TC_skip ?_
            refine TX_next ?_
            refine TC_seq ?_
            refine TC_block ?_
            refine TC_region ?_
            refine TL_v rfl rfl rfl (V_move rfl) ?_
            refine TL_v rfl rfl rfl (V_move rfl) ?_
            refine TL_v rfl rfl rfl (V_move rfl) ?_
            refine TL_v rfl rfl rfl (V_bin rfl rfl (fun w => mulI w 8 s2.1)) ?_
            obtain ⟨h10, H⟩ := if_elim H
            refine TL_v rfl rfl rfl (V_bin rfl rfl (fun w => shr64 w w_1 .i64 (w64 (8 * s2.1)) h10)) ?_
            refine TL_v rfl rfl rfl (V_conv rfl (fun w => cv64to8 w _ _ Try.underlying5 (TryI.und71) (w_1 >>> (w64 (8 * s2.1)).toNat))) ?_
            refine TL_e rfl rfl rfl (E_buildSlice (pv := [(0, v8 ((w_1 >>> (w64 (8 * s2.1)).toNat).setWidth 8))]) rfl rfl Try.underlying49 TryI.inf5 (s := 1) rfl TryI.zer5 rfl rfl rfl (cs := e8 ([(w_1 >>> (w64 (8 * s2.1)).toNat).setWidth 8] : List (BitVec 8))) (by kernel_rfl)) (fun b2 => ?_)
            refine TL_re (d := 84) (v := sl (some (b2, 0)) 1 1) (v' := sl (some (b2, 0)) ((([(w_1 >>> (w64 (8 * s2.1)).toNat).setWidth 8] : List (BitVec 8))).length) 1) rfl (congrArg (fun n => sl (some (b2, 0)) n 1) rfl) ?_
            obtain ⟨h11, H⟩ := if_elim H
            obtain ⟨l1, hl1, H⟩ := ltt_elim H
            refine TL_e rfl rfl rfl (E_app1 (f := v8) (j := 1) (l := s2.2) (sp := g2_.2) (ds := ([(w_1 >>> (w64 (8 * s2.1)).toNat).setWidth 8] : List (BitVec 8))) 0#8 (Src.own (j := 0) rfl) rfl rfl rfl (fun _ => rfl) Try.underlying49 Try.underlying49 TryI.inf5 rfl TryI.zer5 (B' := 1) rfl (by have := h11; omega) (by have := h11; omega) hl1) (fun q1 => ?_)
            refine TL_v rfl rfl rfl (V_assign rfl) ?_
            refine TL_nil ?_
            refine TX_block_normal ?_
            refine TX_next ?_
            refine TC_region ?_
            refine TL_v rfl rfl rfl (V_move rfl) ?_
            refine TL_v rfl rfl rfl (V_bin rfl rfl (fun w => subI w s2.1 1)) ?_
            refine TL_v rfl rfl rfl (V_assign rfl) ?_
            obtain ⟨i2, hi2, H⟩ := ltt_elim H
            refine TL_re (d := 11) (v := vi (w64 (s2.1 - 1))) (v' := vi i2) rfl (congrArg vi hi2) ?_
            refine TL_nil ?_
            refine TX.sub (m' := [(0, ptr (some (bh, obh)) 0), (7, sl q1.1 ((l1).length) ((l1 ++ q1.2).length)), (8, vi size1), (10, v64 w_1), (11, vi i2), (68, Value.agg (flat [(8, e64 r_3.1.toList)]).toArray), (69, vi s1.1)]) ⟨rfl, rfl, rfl, rfl, rfl, rfl, rfl, trivial⟩ ?_
            refine TX.pull (is := [1]) (L' := [⟨q1.1, e8 (l1 ++ q1.2)⟩]) rfl ?_
            obtain rfl := Option.some.inj H
            exact fun a w hs => hK (i2, l1) rfl (q1.1, q1.2) a w hs
          · replace H := ite_f (of_decide_eq_false hc) H
            refine TC_exit ?_
            refine TX_then_exit ?_
            refine TX_then_exit ?_
            refine TX.sub (m' := [(0, ptr (some (bh, obh)) 0), (7, sl g2_.1 ((s2.2).length) ((s2.2 ++ g2_.2).length)), (8, vi size1), (68, Value.agg (flat [(8, e64 r_3.1.toList)]).toArray), (69, vi s1.1)]) ⟨rfl, rfl, rfl, rfl, rfl, trivial⟩ ?_
            refine TX.pull (is := [0]) (L' := [⟨g2_.1, e8 (s2.2 ++ g2_.2)⟩]) rfl ?_
            obtain rfl := Option.some.inj H
            exact hE s2.2 rfl (g2_.1, g2_.2)
        · intro g
          obtain ⟨gx2, hgx⟩ : ∃ z, z = g := ⟨g, rfl⟩; subst hgx
          refine TX_block_exit ?_
          refine TX_block_normal ?_
          refine TX_next ?_
          refine TC_region ?_
          refine TL_v rfl rfl rfl (V_bin rfl rfl (fun w => addI w s1.1 1)) ?_
          refine TL_v rfl rfl rfl (V_move rfl) ?_
          refine TL_nil ?_
          refine TX.sub (m' := [(0, ptr (some (bh, obh)) 0), (7, sl gx2.1 ((t_3).length) ((t_3 ++ gx2.2).length)), (8, vi size1), (68, Value.agg (flat [(8, e64 r_3.1.toList)]).toArray), (69, vi (w64 (s1.1 + 1)))]) ⟨rfl, rfl, rfl, rfl, rfl, trivial⟩ ?_
          refine TX.pull (is := [0]) (L' := [⟨gx2.1, e8 (t_3 ++ gx2.2)⟩]) rfl ?_
          obtain rfl := Option.some.inj H
          exact fun a w hs => hK (w64 (s1.1 + 1), t_3) rfl (gx2.1, gx2.2) a w hs
      · replace H := ite_f (of_decide_eq_false hc) H
        refine TC_exit ?_
        refine TX_then_exit ?_
        refine TX_then_exit ?_
        refine TX.sub (m' := [(0, ptr (some (bh, obh)) 0), (7, sl g1_.1 ((s1.2).length) ((s1.2 ++ g1_.2).length))]) ⟨rfl, rfl, trivial⟩ ?_
        refine TX.pull (is := [0]) (L' := [⟨g1_.1, e8 (s1.2 ++ g1_.2)⟩]) rfl ?_
        obtain rfl := Option.some.inj H
        exact hE s1.2 rfl (g1_.1, g1_.2)
    · intro g
      obtain ⟨gx3, hgx⟩ : ∃ z, z = g := ⟨g, rfl⟩; subst hgx
      refine TX_block_exit ?_
      refine TX_next ?_
      refine TC_seq ?_
      refine TC_region ?_
      refine TL_v rfl rfl rfl (V_move rfl) ?_
      refine TL_v rfl rfl rfl (V_move rfl) ?_
      refine TL_v rfl rfl rfl (V_nilCheck rfl) ?_
      refine TL_v rfl rfl rfl (V_fieldE rfl Try.underlying90 rfl rfl TryI.inf3 rfl (v := ptr (some (bh, obh)) 0) rfl) ?_
      refine TL_v rfl rfl rfl (V_load rfl (Src.ro (j := 0) rfl) rfl Try.isAgg3) ?_
      refine TL_v rfl rfl rfl (V_bin rfl rfl (fun w => quoI w h_n 8 (by decide))) ?_
      obtain ⟨h12, H⟩ := if_elim H
      obtain ⟨h13, H⟩ := if_elim H
      refine TL_v rfl rfl rfl (V_sliceVw0 (l := 0) (h := (w64 (h_n.tdiv 8)).toNat) rfl Try.underlying49 TryI.inf5 rfl Bnd.none' (Bnd.some' (i := w64 (h_n.tdiv 8)) rfl h12) (Nat.zero_le _) (Nat.le_trans h13 (row_le _ _))) ?_
      obtain ⟨h14, H⟩ := if_elim H
      refine TL_v rfl rfl rfl (V_b2s rfl Try.underlying49 Try.underlying5 Try.underlying9 (srcVw (lst := t_2) (srcRow (Src.own (j := 0) rfl)) (Nat.le_trans h13 (row_le _ _))) (sub_length h14)) ?_
      refine TL_v rfl rfl rfl (V_assign rfl) ?_
      obtain ⟨x1, hx1, H⟩ := ltt_elim H
      refine TL_re (d := 2) (v := vs (sub t_2 0 ((w64 (h_n.tdiv 8)).toNat))) (v' := vs x1) rfl (congrArg vs hx1) ?_
      refine TL_nil ?_
      refine TX_next ?_
      refine TC_ret ?_
      have hrv := Option.some.inj H
      subst hrv
      exact TX_ret (rs := [.tmp 2]) (vs := [vs x1]) rfl ⟨rfl, trivial⟩ (fun w' hs' => ⟨(), rfl, Step.left (Step.pulled (is := []) (A := []) hs' rfl)⟩)

end Go.Proofs
end

section
namespace Go.Proofs
open Go Go.Kx
set_option linter.unusedVariables false
set_option linter.unusedSimpArgs false
def sha_Sum (n : Int) (s_ : Str) : Option (Str × Int) :=
  (sha_New n).bind fun (r_1 : (Unit) ⊕ (Int × Vector (BitVec 64) 8 × Vector (BitVec 64) 80 × List (BitVec 8))) => (match r_1 with | .inl r_1 => (some (([] : Str), 200)) | .inr r_1 => ((sha_Hash_Write r_1.1 r_1.2.1 r_1.2.2.1 r_1.2.2.2 0#64 s_).bind fun (r_2 : Vector (BitVec 64) 8 × List (BitVec 8) × BitVec 64) => ((sha_Hash_Sum r_1.1 r_2.1 r_1.2.2.1 r_2.2.1 r_2.2.2).bind fun (r_3 : Str) => (some (r_3, 0)))))

set_option maxHeartbeats 4000000 in
set_option maxRecDepth 20000 in
theorem F48_calls (n : Int) (s_ : Str) (r : Str × Int) (H : sha_Sum n s_ = some r) :
    Does Try.prog 48 [vi n, vs s_] [] [] (Γ := Unit) (fun g => Value.tuple [vs r.1, vi r.2].toArray) (fun g => []) := by
  intro w hmem hro hd
  refine calls_of (N := 21) (m0 := [(0, vi n), (1, vs s_)]) Try.func48 rfl Try.ntmps48 (argM_ok [vi n, vs s_]) rfl hmem hro hd ?_
  unfold sha_Sum at H
  refine TC_seq ?_
  refine TC_region ?_
  refine TL_v rfl rfl rfl (V_assign rfl) ?_
  refine TL_v rfl rfl rfl (V_assign rfl) ?_
  refine TL_nil ?_
  refine TX_next ?_
  refine TC_seq ?_
  refine TC_region ?_
  refine TL_v rfl rfl rfl (V_move rfl) ?_
  obtain ⟨r_1, hr_1, H⟩ := bind_elim H
  rcases r_1 with r_1 | r_1
  · dsimp only at H
    refine TL_e rfl rfl rfl (E_call (Γ := Unit × (Nat × Adr)) (val := fun g => Value.tuple [Value.pointer none, vi 200].toArray) (mem := fun g => []) (vs := [vi n]) (Lin := []) (Ro := []) (is := []) rfl Try.call58 (F58_calls n (.inl r_1) hr_1) rfl trivial) (fun g_1 => ?_)
    refine TL_v rfl rfl rfl (V_move rfl) ?_
    refine TL_v rfl rfl rfl (V_extract (vs := [Value.pointer none, vi 200]) rfl rfl) ?_
    refine TL_v rfl rfl rfl (V_extract (vs := [Value.pointer none, vi 200]) rfl rfl) ?_
    refine TL_v rfl rfl rfl (V_assign rfl) ?_
    refine TL_v rfl rfl rfl (V_assign rfl) ?_
    refine TL_nil ?_
    refine TX_next ?_
    refine TC_seq ?_
    refine TC_seq ?_
    refine TC_region ?_
    refine TL_v rfl rfl rfl (V_move rfl) ?_
    refine TL_v rfl rfl rfl (V_bin rfl rfl (fun w => neqI w 200 0)) ?_
    refine TL_nil ?_
    refine TX_next ?_
    refine TC_cond_t rfl ?_
    refine TC_seq ?_
    refine TC_region ?_
    refine TL_v rfl rfl rfl (V_move rfl) ?_
    refine TL_v rfl rfl rfl (V_assign rfl) ?_
    refine TL_v rfl rfl rfl (V_assign rfl) ?_
    refine TL_nil ?_
    refine TX_next ?_
    refine TC_ret ?_
    refine TX_then_ret ?_
    have hrv := Option.some.inj H
    subst hrv
    exact TX_ret (rs := [.tmp 4, .tmp 5]) (vs := [vs ([] : Str), vi 200]) rfl ⟨rfl, rfl, trivial⟩ (fun w' hs' => ⟨(), rfl, Step.left (Step.pulled (is := []) (A := []) hs' rfl)⟩)
  · dsimp only at H
    refine TL_e rfl rfl rfl (E_call (Γ := Unit × (Nat × Adr)) (val := fun g => Value.tuple [ptr (some (g.2.1, 0)) 0, vi 0].toArray) (mem := fun g => [⟨some (g.2.1, 0), [vi r_1.1]⟩, ⟨some (g.2.1, 1), e64 r_1.2.1.toList⟩, ⟨some (g.2.1, 9), e64 r_1.2.2.1.toList⟩, ⟨some (g.2.1, 89), [sl g.2.2 ((r_1.2.2.2).length) ((r_1.2.2.2 ++ ([] : List (BitVec 8))).length)]⟩, ⟨g.2.2, e8 (r_1.2.2.2 ++ ([] : List (BitVec 8)))⟩, ⟨some (g.2.1, 90), [v64 0#64]⟩]) (vs := [vi n]) (Lin := []) (Ro := []) (is := []) rfl Try.call58 (F58_calls n (.inr r_1) hr_1) rfl trivial) (fun g_2 => ?_)
    refine TL_v rfl rfl rfl (V_move rfl) ?_
    refine TL_v rfl rfl rfl (V_extract (vs := [ptr (some (g_2.2.1, 0)) 0, vi 0]) rfl rfl) ?_
    refine TL_v rfl rfl rfl (V_extract (vs := [ptr (some (g_2.2.1, 0)) 0, vi 0]) rfl rfl) ?_
    refine TL_v rfl rfl rfl (V_assign rfl) ?_
    refine TL_v rfl rfl rfl (V_assign rfl) ?_
    refine TL_nil ?_
    refine TX_next ?_
    refine TC_seq ?_
    refine TC_seq ?_
    refine TC_region ?_
    refine TL_v rfl rfl rfl (V_move rfl) ?_
    refine TL_v rfl rfl rfl (V_bin rfl rfl (fun w => neqI w 0 0)) ?_
    refine TL_nil ?_
    refine TX_next ?_
    refine TC_cond_f rfl ?_
    refine TC_skip ?_
    refine TX_next ?_
    refine TC_seq ?_
    refine TC_region ?_
    refine TL_v rfl rfl rfl (V_move rfl) ?_
    refine TL_v rfl rfl rfl (V_move rfl) ?_
    obtain ⟨r_2, hr_2, H⟩ := bind_elim H
    refine TL_e rfl rfl rfl (E_call (Γ := Adr × List (BitVec 8)) (val := fun g => Value.tuple [].toArray) (mem := fun g => [⟨some (g_2.2.1, 1), e64 r_2.1.toList⟩, ⟨some (g_2.2.1, 89), [sl g.1 ((r_2.2.1).length) ((r_2.2.1 ++ g.2).length)]⟩, ⟨g.1, e8 (r_2.2.1 ++ g.2)⟩, ⟨some (g_2.2.1, 90), [v64 r_2.2.2]⟩]) (vs := [ptr (some (g_2.2.1, 0)) 0, vs s_]) (Lin := [⟨some (g_2.2.1, 1), e64 r_1.2.1.toList⟩, ⟨some (g_2.2.1, 89), [sl g_2.2.2 ((r_1.2.2.2).length) ((r_1.2.2.2 ++ ([] : List (BitVec 8))).length)]⟩, ⟨some (g_2.2.1, 90), [v64 0#64]⟩, ⟨g_2.2.2, e8 (r_1.2.2.2 ++ ([] : List (BitVec 8)))⟩]) (Ro := [⟨some (g_2.2.1, 0), [vi r_1.1]⟩, ⟨some (g_2.2.1, 9), e64 r_1.2.2.1.toList⟩]) (is := [1, 2, 3, 2]) rfl Try.call59 (F59_calls g_2.2.1 0 g_2.2.2 ([] : List (BitVec 8)) r_1.1 r_1.2.1 r_1.2.2.1 r_1.2.2.2 0#64 s_ r_2 hr_2) rfl ⟨SrcD.own (j := 0) rfl, SrcD.own (j := 1) rfl, trivial⟩) (fun g_3 => ?_)
    refine TL_nil ?_
    refine TX_next ?_
    refine TC_seq ?_
    refine TC_region ?_
    refine TL_v rfl rfl rfl (V_move rfl) ?_
    obtain ⟨r_3, hr_3, H⟩ := bind_elim H
    refine TL_e rfl rfl rfl (E_call (Γ := Unit) (val := fun g => vs r_3) (mem := fun g => []) (vs := [ptr (some (g_2.2.1, 0)) 0]) (Lin := []) (Ro := [⟨some (g_2.2.1, 0), [vi r_1.1]⟩, ⟨some (g_2.2.1, 1), e64 r_2.1.toList⟩, ⟨some (g_2.2.1, 9), e64 r_1.2.2.1.toList⟩, ⟨some (g_2.2.1, 89), [sl g_3.1 ((r_2.2.1).length) ((r_2.2.1 ++ g_3.2).length)]⟩, ⟨some (g_2.2.1, 90), [v64 r_2.2.2]⟩, ⟨g_3.1, e8 r_2.2.1⟩]) (is := []) rfl Try.call60 (F60_calls g_2.2.1 0 g_3.1 ((r_2.2.1 ++ g_3.2).length) r_1.1 r_2.1 r_1.2.2.1 r_2.2.1 r_2.2.2 (row_le _ _) r_3 hr_3) rfl ⟨SrcD.own (j := 4) rfl, SrcD.own (j := 0) rfl, SrcD.own (j := 5) rfl, SrcD.own (j := 1) rfl, SrcD.own (j := 3) rfl, (srcdRow (SrcD.own (j := 2) rfl)), trivial⟩) (fun g_4 => ?_)
    refine TL_v rfl rfl rfl (V_assign rfl) ?_
    refine TL_v rfl rfl rfl (V_assign rfl) ?_
    refine TL_nil ?_
    refine TX_next ?_
    refine TC_ret ?_
    have hrv := Option.some.inj H
    subst hrv
    exact TX_ret (rs := [.tmp 4, .tmp 5]) (vs := [vs r_3, vi 0]) rfl ⟨rfl, rfl, trivial⟩ (fun w' hs' => ⟨(), rfl, Step.left (Step.pulled (is := []) (A := []) hs' rfl)⟩)

end Go.Proofs
end

section
namespace Go.Proofs
open Go Go.Kx
set_option linter.unusedVariables false
set_option linter.unusedSimpArgs false
def halberdref1_Sum.b0 (r_1 : Str) (s0 : Int × Vector (BitVec 32) 8) : Option ((Int × Vector (BitVec 32) 8) ⊕ (Vector (BitVec 32) 8)) :=
  if s0.1 < ((r_1).length : Int) then (if 0 ≤ w64 (s0.1 + 64) then (if 0 ≤ s0.1 then (if (w64 (s0.1 + 64)).toNat ≤ (r_1).length then (if (s0.1).toNat ≤ (w64 (s0.1 + 64)).toNat then ((halberdref1_block256 s0.2 (sub r_1 ((s0.1).toNat) ((w64 (s0.1 + 64)).toNat))).bind fun (r_2 : Vector (BitVec 32) 8) => (ltt (w64 (s0.1 + 64)) fun (i1 : Int) => (some (.inl (i1, r_2))))) else none) else none) else none) else none) else (some (.inr s0.2))

def halberdref1_Sum.b1 (t_1 : Vector (BitVec 32) 8) (s1 : Str × Int) : Option ((Str × Int) ⊕ (Str)) :=
  if s1.2 < 8 then (if 0 ≤ s1.2 ∧ s1.2 < (8 : Int) then ((halberdref1_Be ((vg t_1 ((s1.2).toNat)).toNat : Int) 4).bind fun (r_3 : Str) => (if (s1.1).length + (r_3).length ≤ 4611686018427387904 then (ltt (w64 (s1.2 + 1)) fun (i2 : Int) => (some (.inl (s1.1 ++ r_3, i2)))) else none)) else none) else (some (.inr s1.1))

def halberdref1_Sum.b2 (r_4 : Str) (s2 : Int × Vector (BitVec 64) 8) : Option ((Int × Vector (BitVec 64) 8) ⊕ (Vector (BitVec 64) 8)) :=
  if s2.1 < ((r_4).length : Int) then (if 0 ≤ w64 (s2.1 + 128) then (if 0 ≤ s2.1 then (if (w64 (s2.1 + 128)).toNat ≤ (r_4).length then (if (s2.1).toNat ≤ (w64 (s2.1 + 128)).toNat then ((halberdref1_block512 s2.2 (sub r_4 ((s2.1).toNat) ((w64 (s2.1 + 128)).toNat))).bind fun (r_5 : Vector (BitVec 64) 8) => (ltt (w64 (s2.1 + 128)) fun (i3 : Int) => (some (.inl (i3, r_5))))) else none) else none) else none) else none) else (some (.inr s2.2))

def halberdref1_Sum.b3 (t_3 : Vector (BitVec 64) 8) (s3 : Str × Int) : Option ((Str × Int) ⊕ (Str)) :=
  if s3.2 < 6 then (if 0 ≤ s3.2 ∧ s3.2 < (8 : Int) then ((halberdref1_Be (w64 (((vg t_3 ((s3.2).toNat)) >>> 32).toNat : Int)) 4).bind fun (r_6 : Str) => (if (s3.1).length + (r_6).length ≤ 4611686018427387904 then (if 0 ≤ s3.2 ∧ s3.2 < (8 : Int) then ((halberdref1_Be (w64 (((vg t_3 ((s3.2).toNat)) &&& 4294967295#64).toNat : Int)) 4).bind fun (r_7 : Str) => (if (s3.1 ++ r_6).length + (r_7).length ≤ 4611686018427387904 then (ltt ((s3.1 ++ r_6) ++ r_7) fun (out1 : Str) => (ltt (w64 (s3.2 + 1)) fun (i4 : Int) => (some (.inl (out1, i4))))) else none)) else none) else none)) else none) else (some (.inr s3.1))

def halberdref1_Sum (bits : Int) (s_ : Str) : Option (Str × Int) :=
  ltt (decide (bits = 256)) fun (x1 : Bool) => (if x1 = true then (ltt ((#v[1779033703#32, 3144134277#32, 1013904242#32, 2773480762#32, 1359893119#32, 2600822924#32, 528734635#32, 1541459225#32] : Vector (BitVec 32) 8)) fun (m_1 : Vector (BitVec 32) 8) => ((halberdref1_padded s_ 64 8).bind fun (r_1 : Str) => ((loop (halberdref1_Sum.b0 r_1) BIG (0, m_1)).bind fun (t_1 : Vector (BitVec 32) 8) => ((loop (halberdref1_Sum.b1 t_1) BIG (([] : Str), 0)).bind fun (t_2 : Str) => (some (t_2, 0)))))) else (ltt (decide (bits = 384)) fun (x2 : Bool) => (if x2 = true then (ltt ((#v[14680500436340154072#64, 7105036623409894663#64, 10473403895298186519#64, 1526699215303891257#64, 7436329637833083697#64, 10282925794625328401#64, 15784041429090275239#64, 5167115440072839076#64] : Vector (BitVec 64) 8)) fun (m_2 : Vector (BitVec 64) 8) => ((halberdref1_padded s_ 128 16).bind fun (r_4 : Str) => ((loop (halberdref1_Sum.b2 r_4) BIG (0, m_2)).bind fun (t_3 : Vector (BitVec 64) 8) => ((loop (halberdref1_Sum.b3 t_3) BIG (([] : Str), 0)).bind fun (t_4 : Str) => (some (t_4, 0)))))) else (some (([] : Str), 200)))))

set_option maxHeartbeats 4000000 in
set_option maxRecDepth 20000 in
theorem F45_calls (bits : Int) (s_ : Str) (r : Str × Int) (H : halberdref1_Sum bits s_ = some r) :
    Does Try.prog 45 [vi bits, vs s_] [] [] (Γ := Unit) (fun g => Value.tuple [vs r.1, vi r.2].toArray) (fun g => []) := by
  intro w hmem hro hd
  refine calls_of (N := 85) (m0 := [(0, vi bits), (1, vs s_)]) Try.func45 rfl Try.ntmps45 (argM_ok [vi bits, vs s_]) rfl hmem hro hd ?_
  unfold halberdref1_Sum at H
  refine TC_seq ?_
  refine TC_region ?_
  refine TL_v rfl rfl rfl (V_assign rfl) ?_
  refine TL_v rfl rfl rfl (V_assign rfl) ?_
  refine TL_nil ?_
  refine TX_next ?_
  refine TC_seq ?_
  refine TC_seq ?_
  refine TC_region ?_
  refine TL_v rfl rfl rfl (V_move rfl) ?_
  refine TL_nil ?_
  refine TX_next ?_
  refine TC_block ?_
  refine TC_seq ?_
  refine TC_region ?_
  refine TL_v rfl rfl rfl (V_bin rfl rfl (fun w => eqlI w bits 256)) ?_
  refine TL_v rfl rfl rfl (V_assign rfl) ?_
  obtain ⟨x1, hx1, H⟩ := ltt_elim H
  refine TL_re (d := 17) (v := vb (decide (bits = 256))) (v' := vb x1) rfl (congrArg vb hx1) ?_
  refine TL_nil ?_
  refine TX_next ?_
  refine TC_cond (b := x1) rfl (fun hc => ?_) (fun hc => ?_)
  · replace H := ite_t hc H
    refine TC_seq ?_
    refine TC_region ?_
    refine TL_v rfl rfl rfl (V_buildArr (pv := [(0, v32 1779033703#32), (1, v32 3144134277#32), (2, v32 1013904242#32), (3, v32 2773480762#32), (4, v32 1359893119#32), (5, v32 2600822924#32), (6, v32 528734635#32), (7, v32 1541459225#32)]) rfl rfl Try.underlying68 TryI.inf68 TryI.inf67 rfl TryI.zer68 (cs := e32 ((#v[1779033703#32, 3144134277#32, 1013904242#32, 2773480762#32, 1359893119#32, 2600822924#32, 528734635#32, 1541459225#32] : Vector (BitVec 32) 8).toList)) (by kernel_rfl)) ?_
    refine TL_e rfl rfl rfl (E_allocP [(8, e32 ((Vector.replicate 8 0#32).toList))] TryI.inf68 TryI.zer68 ⟨(lenV (f := v32) (Vector.replicate 8 0#32)), trivial⟩) (fun b1 => ?_)
    refine TL_n rfl rfl (E_storeAgg (n := 8) (j := 0) (vs := e32 ((#v[1779033703#32, 3144134277#32, 1013904242#32, 2773480762#32, 1359893119#32, 2600822924#32, 528734635#32, 1541459225#32] : Vector (BitVec 32) 8).toList)) rfl rfl TryI.inf68 rfl (lenV (f := v32) (#v[1779033703#32, 3144134277#32, 1013904242#32, 2773480762#32, 1359893119#32, 2600822924#32, 528734635#32, 1541459225#32] : Vector (BitVec 32) 8)) (OneC.map (fun _ => rfl) _) rfl (Nat.le_of_eq (by simp)) (cs' := e32 ((#v[1779033703#32, 3144134277#32, 1013904242#32, 2773480762#32, 1359893119#32, 2600822924#32, 528734635#32, 1541459225#32] : Vector (BitVec 32) 8).toList)) (splice_all (by simp))) (fun _ => ?_)
    obtain ⟨m_1, hm_1, H⟩ := ltt_elim H
    refine TL_reE (j := 0) (A := some (b1, 0)) (cs := e32 ((#v[1779033703#32, 3144134277#32, 1013904242#32, 2773480762#32, 1359893119#32, 2600822924#32, 528734635#32, 1541459225#32] : Vector (BitVec 32) 8).toList)) (cs' := e32 m_1.toList) rfl (congrArg (fun z : Vector (BitVec 32) 8 => e32 (Vector.toList z)) hm_1) ?_
    refine TL_nil ?_
    refine TX_next ?_
    refine TC_seq ?_
    refine TC_region ?_
    refine TL_v rfl rfl rfl (V_move rfl) ?_
    obtain ⟨r_1, hr_1, H⟩ := bind_elim H
    refine TL_e rfl rfl rfl (E_call (Γ := Unit) (val := fun g => vs r_1) (mem := fun g => []) (vs := [vs s_, vi 64, vi 8]) (Lin := []) (Ro := []) (is := []) rfl Try.call52 (F52_calls s_ 64 8 r_1 hr_1) rfl trivial) (fun g_1 => ?_)
    refine TL_v rfl rfl rfl (V_assign rfl) ?_
    refine TL_nil ?_
    refine TX_next ?_
    refine TC_seq ?_
    refine TC_seq ?_
    refine TC_region ?_
    refine TL_v rfl rfl rfl (V_assign rfl) ?_
    refine TL_nil ?_
    refine TX_next ?_
    refine TC_block ?_
    obtain ⟨t_1, Hl, H⟩ := bind_elim H
    refine TC.sub (m' := [(6, ptr (some (b1, 0)) 0), (7, vs r_1), (8, vi 0)]) ⟨rfl, rfl, rfl, trivial⟩ ?_
    refine TC.pull (is := [0]) (L' := [⟨some (b1, 0), e32 m_1.toList⟩]) rfl ?_
    refine TC_loopL (id := 1) (body := (halberdref1_Sum.b0 r_1)) (σ := Int × Vector (BitVec 32) 8) (Γ := Unit) (Γx := Unit) (fun s0 g0_ => [(6, ptr (some (b1, 0)) 0), (7, vs r_1), (8, vi s0.1)]) (fun s0 g0_ => [⟨some (b1, 0), e32 s0.2.toList⟩]) (fun t g => [(6, ptr (some (b1, 0)) 0)]) (fun t g => [⟨some (b1, 0), e32 t.toList⟩]) ?_ BIG (0, m_1) () t_1 Hl ?_
    · intro s0 g0_ r1 H K hK hE
      unfold halberdref1_Sum.b0 at H
      refine TC_seq ?_
      refine TC_seq ?_
      refine TC_region ?_
      refine TL_v rfl rfl rfl (V_move rfl) ?_
      refine TL_v rfl rfl rfl (V_move rfl) ?_
      refine TL_v rfl rfl rfl (V_len_str rfl Try.underlying9) ?_
      refine TL_v rfl rfl rfl (V_bin rfl rfl (fun w => lssI w s0.1 ((r_1).length : Int))) ?_
      refine TL_nil ?_
      refine TX_next ?_
      refine TC_cond (b := (decide (s0.1 < ((r_1).length : Int)))) rfl (fun hc => ?_) (fun hc => ?_)
      · replace H := ite_t (of_decide_eq_true hc) H
        refine TC_skip ?_
        refine TX_next ?_
        refine TC_seq ?_
        refine TC_block ?_
        obtain ⟨h1, H⟩ := if_elim H
        obtain ⟨h2, H⟩ := if_elim H
        obtain ⟨h3, H⟩ := if_elim H
        obtain ⟨h4, H⟩ := if_elim H
        obtain ⟨r_2, hr_2, H⟩ := bind_elim H
        refine TA_begin [⟨some (b1, 0), e32 s0.2.toList⟩] 7 (by kernel_rfl) (N := 8) rfl ?_
        refine TA_take (i := 0) (is := [0]) (done' := #[true, false, false, false, false, false, false, false]) rfl rfl rfl rfl (by kernel_rfl) (QP.block (QP.then (QP.then (QP.block (QP.then (QP.block (QP.then QP.body))))))) (by kernel_rfl) rfl (V_loadAgg (n := 8) rfl (by simp) (Src.own (j := 0) rfl) Try.isAgg68 TryI.inf68 rfl (lenV (f := v32) s0.2)) ?_
        refine TA_take (i := 1) (is := [0]) (done' := #[true, true, false, false, false, false, false, false]) rfl rfl rfl rfl (by kernel_rfl) (QP.block (QP.then (QP.then (QP.block (QP.then (QP.block (QP.then QP.body))))))) (by kernel_rfl) rfl (V_move rfl) ?_
        refine TA_take (i := 2) (is := [0]) (done' := #[true, true, true, false, false, false, false, false]) rfl rfl rfl rfl (by kernel_rfl) (QP.block (QP.then (QP.then (QP.block (QP.then (QP.block (QP.then QP.body))))))) (by kernel_rfl) rfl (V_move rfl) ?_
        refine TA_take (i := 3) (is := [0]) (done' := #[true, true, true, true, false, false, false, false]) rfl rfl rfl rfl (by kernel_rfl) (QP.block (QP.then (QP.then (QP.block (QP.then (QP.block (QP.then QP.body))))))) (by kernel_rfl) rfl (V_move rfl) ?_
        refine TA_take (i := 4) (is := [0]) (done' := #[true, true, true, true, true, false, false, false]) rfl rfl rfl rfl (by kernel_rfl) (QP.block (QP.then (QP.then (QP.block (QP.then (QP.block (QP.then QP.body))))))) (by kernel_rfl) rfl (V_bin rfl rfl (fun w => addI w s0.1 64)) ?_
        refine TA_take (i := 5) (is := [0]) (done' := #[true, true, true, true, true, true, false, false]) rfl rfl rfl rfl (by kernel_rfl) (QP.block (QP.then (QP.then (QP.block (QP.then (QP.block (QP.then QP.body))))))) (by kernel_rfl) rfl (V_sliceStr (l := (s0.1).toNat) (h := (w64 (s0.1 + 64)).toNat) rfl Try.underlying9 (Bnd.some' (i := s0.1) rfl h2) (Bnd.some' (i := w64 (s0.1 + 64)) rfl h1) h4 h3) ?_
        refine TA_all (rs := [6]) (by kernel_rfl) rfl ?_
        refine ⟨?_, trivial⟩
        refine TO_e (is := [0]) (done' := #[true, true, true, true, true, true, true, false]) rfl rfl rfl rfl (by kernel_rfl) (E_call (Γ := Unit) (val := fun g => Value.agg (flat [(8, e32 r_2.toList)]).toArray) (mem := fun g => []) (vs := [Value.agg (flat [(8, e32 s0.2.toList)]).toArray, vs (sub r_1 ((s0.1).toNat) ((w64 (s0.1 + 64)).toNat))]) (Lin := []) (Ro := []) (is := []) rfl Try.call53 (F53_calls s0.2 (sub r_1 ((s0.1).toNat) ((w64 (s0.1 + 64)).toNat)) r_2 hr_2) rfl trivial) (fun _ _ => rfl) (fun g_2 => ?_)
        refine TA_all (rs := [7]) (by kernel_rfl) rfl ?_
        refine ⟨?_, trivial⟩
        refine TO_n (is := []) (R := fun _ => []) (done' := #[true, true, true, true, true, true, true, true]) rfl rfl rfl (by kernel_rfl) (E_storeAgg (n := 8) (j := 0) (vs := e32 r_2.toList) rfl rfl TryI.inf68 rfl (lenV (f := v32) r_2) (OneC.map (fun _ => rfl) _) rfl (Nat.le_of_eq (by simp)) (cs' := e32 r_2.toList) (splice_all (by simp))) (fun h => by cases h) (fun _ => ?_)
        refine TA_done (by kernel_rfl) ?_ 0
        refine TX_block_normal ?_
        refine TX_next ?_
        refine TC_region ?_
        refine TL_v rfl rfl rfl (V_move rfl) ?_
        refine TL_v rfl rfl rfl (V_bin rfl rfl (fun w => addI w s0.1 64)) ?_
        refine TL_v rfl rfl rfl (V_assign rfl) ?_
        obtain ⟨i1, hi1, H⟩ := ltt_elim H
        refine TL_re (d := 8) (v := vi (w64 (s0.1 + 64))) (v' := vi i1) rfl (congrArg vi hi1) ?_
        refine TL_nil ?_
        refine TX.sub (m' := [(6, ptr (some (b1, 0)) 0), (7, vs r_1), (8, vi i1)]) ⟨rfl, rfl, rfl, trivial⟩ ?_
        refine TX.pull (is := [0]) (L' := [⟨some (b1, 0), e32 r_2.toList⟩]) rfl ?_
        obtain rfl := Option.some.inj H
        exact fun a w hs => hK (i1, r_2) rfl () a w hs
      · replace H := ite_f (of_decide_eq_false hc) H
        refine TC_exit ?_
        refine TX_then_exit ?_
        refine TX_then_exit ?_
        refine TX.sub (m' := [(6, ptr (some (b1, 0)) 0)]) ⟨rfl, trivial⟩ ?_
        refine TX.pull (is := [0]) (L' := [⟨some (b1, 0), e32 s0.2.toList⟩]) rfl ?_
        obtain rfl := Option.some.inj H
        exact hE s0.2 rfl ()
    · intro g
      refine TX_block_exit ?_
      refine TX_next ?_
      refine TC_seq ?_
      refine TC_region ?_
      refine TL_v rfl rfl rfl (V_assign rfl) ?_
      refine TL_nil ?_
      refine TX_next ?_
      refine TC_seq ?_
      refine TC_seq ?_
      refine TC_region ?_
      refine TL_v rfl rfl rfl (V_assign rfl) ?_
      refine TL_nil ?_
      refine TX_next ?_
      refine TC_block ?_
      obtain ⟨t_2, Hl, H⟩ := bind_elim H
      refine TC.sub (m' := [(6, ptr (some (b1, 0)) 0), (9, vs ([] : Str)), (10, vi 0)]) ⟨rfl, rfl, rfl, trivial⟩ ?_
      refine TC.pull (is := [0]) (L' := [⟨some (b1, 0), e32 t_1.toList⟩]) rfl ?_
      refine TC_loopL (id := 3) (body := (halberdref1_Sum.b1 t_1)) (σ := Str × Int) (Γ := Unit) (Γx := Unit) (fun s1 g1_ => [(6, ptr (some (b1, 0)) 0), (9, vs s1.1), (10, vi s1.2)]) (fun s1 g1_ => [⟨some (b1, 0), e32 t_1.toList⟩]) (fun t g => [(9, vs t)]) (fun t g => []) ?_ BIG (([] : Str), 0) () t_2 Hl ?_
      · intro s1 g1_ r1 H K hK hE
        unfold halberdref1_Sum.b1 at H
        refine TC_seq ?_
        refine TC_seq ?_
        refine TC_region ?_
        refine TL_v rfl rfl rfl (V_move rfl) ?_
        refine TL_v rfl rfl rfl (V_bin rfl rfl (fun w => lssI w s1.2 8)) ?_
        refine TL_nil ?_
        refine TX_next ?_
        refine TC_cond (b := (decide (s1.2 < 8))) rfl (fun hc => ?_) (fun hc => ?_)
        · replace H := ite_t (of_decide_eq_true hc) H
          refine TC_skip ?_
          refine TX_next ?_
          refine TC_seq ?_
          refine TC_block ?_
          refine TC_region ?_
          refine TL_v rfl rfl rfl (V_move rfl) ?_
          refine TL_v rfl rfl rfl (V_move rfl) ?_
          obtain ⟨h5, H⟩ := if_elim H
          refine TL_v rfl rfl rfl (V_idxArr (i := s1.2) rfl rfl Try.underlying68 TryI.inf67 rfl h5.1 h5.2 (k := (s1.2).toNat) (k01 _)) ?_
          refine TL_v rfl rfl rfl (V_load rfl (Src.own (j := 0) rfl) (get_vec (f := v32) (V := t_1) (toNat_lt h5.1 h5.2)) Try.isAgg67) ?_
          refine TL_v rfl rfl rfl (V_conv rfl (fun w => cv32toI w _ _ Try.underlying3 (TryI.und67) (vg t_1 ((s1.2).toNat)))) ?_
          obtain ⟨r_3, hr_3, H⟩ := bind_elim H
          refine TL_e rfl rfl rfl (E_call (Γ := Unit) (val := fun g => vs r_3) (mem := fun g => []) (vs := [vi ((vg t_1 ((s1.2).toNat)).toNat : Int), vi 4]) (Lin := []) (Ro := []) (is := []) rfl Try.call41 (F41_calls ((vg t_1 ((s1.2).toNat)).toNat : Int) 4 r_3 hr_3) rfl trivial) (fun g_3 => ?_)
          obtain ⟨h6, H⟩ := if_elim H
          refine TL_v rfl rfl rfl (V_bin rfl rfl (fun w => addS w s1.1 r_3 h6)) ?_
          refine TL_v rfl rfl rfl (V_assign rfl) ?_
          refine TL_nil ?_
          refine TX_block_normal ?_
          refine TX_next ?_
          refine TC_region ?_
          refine TL_v rfl rfl rfl (V_move rfl) ?_
          refine TL_v rfl rfl rfl (V_bin rfl rfl (fun w => addI w s1.2 1)) ?_
          refine TL_v rfl rfl rfl (V_assign rfl) ?_
          obtain ⟨i2, hi2, H⟩ := ltt_elim H
          refine TL_re (d := 10) (v := vi (w64 (s1.2 + 1))) (v' := vi i2) rfl (congrArg vi hi2) ?_
          refine TL_nil ?_
          refine TX.sub (m' := [(6, ptr (some (b1, 0)) 0), (9, vs (s1.1 ++ r_3)), (10, vi i2)]) ⟨rfl, rfl, rfl, trivial⟩ ?_
          refine TX.pull (is := [0]) (L' := [⟨some (b1, 0), e32 t_1.toList⟩]) rfl ?_
          obtain rfl := Option.some.inj H
          exact fun a w hs => hK (s1.1 ++ r_3, i2) rfl () a w hs
        · replace H := ite_f (of_decide_eq_false hc) H
          refine TC_exit ?_
          refine TX_then_exit ?_
          refine TX_then_exit ?_
          refine TX.sub (m' := [(9, vs s1.1)]) ⟨rfl, trivial⟩ ?_
          refine TX.pull (is := []) (L' := []) rfl ?_
          obtain rfl := Option.some.inj H
          exact hE s1.1 rfl ()
      · intro g
        refine TX_block_exit ?_
        refine TX_next ?_
        refine TC_seq ?_
        refine TC_region ?_
        refine TL_v rfl rfl rfl (V_move rfl) ?_
        refine TL_v rfl rfl rfl (V_assign rfl) ?_
        refine TL_v rfl rfl rfl (V_assign rfl) ?_
        refine TL_nil ?_
        refine TX_next ?_
        refine TC_ret ?_
        refine TX_block_ret ?_
        refine TX_then_ret ?_
        have hrv := Option.some.inj H
        subst hrv
        exact TX_ret (rs := [.tmp 4, .tmp 5]) (vs := [vs t_2, vi 0]) rfl ⟨rfl, rfl, trivial⟩ (fun w' hs' => ⟨(), rfl, Step.left (Step.pulled (is := []) (A := []) hs' rfl)⟩)
  · replace H := ite_f (Bool.eq_false_iff.1 hc) H
    refine TC_seq ?_
    refine TC_region ?_
    refine TL_v rfl rfl rfl (V_bin rfl rfl (fun w => eqlI w bits 384)) ?_
    refine TL_v rfl rfl rfl (V_assign rfl) ?_
    obtain ⟨x2, hx2, H⟩ := ltt_elim H
    refine TL_re (d := 47) (v := vb (decide (bits = 384))) (v' := vb x2) rfl (congrArg vb hx2) ?_
    refine TL_nil ?_
    refine TX_next ?_
    refine TC_cond (b := x2) rfl (fun hc => ?_) (fun hc => ?_)
    · replace H := ite_t hc H
      refine TC_seq ?_
      refine TC_region ?_
      refine TL_v rfl rfl rfl (V_buildArr (pv := [(0, v64 14680500436340154072#64), (1, v64 7105036623409894663#64), (2, v64 10473403895298186519#64), (3, v64 1526699215303891257#64), (4, v64 7436329637833083697#64), (5, v64 10282925794625328401#64), (6, v64 15784041429090275239#64), (7, v64 5167115440072839076#64)]) rfl rfl Try.underlying72 TryI.inf72 TryI.inf71 rfl TryI.zer72 (cs := e64 ((#v[14680500436340154072#64, 7105036623409894663#64, 10473403895298186519#64, 1526699215303891257#64, 7436329637833083697#64, 10282925794625328401#64, 15784041429090275239#64, 5167115440072839076#64] : Vector (BitVec 64) 8).toList)) (by kernel_rfl)) ?_
      refine TL_e rfl rfl rfl (E_allocP [(8, e64 ((Vector.replicate 8 0#64).toList))] TryI.inf72 TryI.zer72 ⟨(lenV (f := v64) (Vector.replicate 8 0#64)), trivial⟩) (fun b2 => ?_)
      refine TL_n rfl rfl (E_storeAgg (n := 8) (j := 0) (vs := e64 ((#v[14680500436340154072#64, 7105036623409894663#64, 10473403895298186519#64, 1526699215303891257#64, 7436329637833083697#64, 10282925794625328401#64, 15784041429090275239#64, 5167115440072839076#64] : Vector (BitVec 64) 8).toList)) rfl rfl TryI.inf72 rfl (lenV (f := v64) (#v[14680500436340154072#64, 7105036623409894663#64, 10473403895298186519#64, 1526699215303891257#64, 7436329637833083697#64, 10282925794625328401#64, 15784041429090275239#64, 5167115440072839076#64] : Vector (BitVec 64) 8)) (OneC.map (fun _ => rfl) _) rfl (Nat.le_of_eq (by simp)) (cs' := e64 ((#v[14680500436340154072#64, 7105036623409894663#64, 10473403895298186519#64, 1526699215303891257#64, 7436329637833083697#64, 10282925794625328401#64, 15784041429090275239#64, 5167115440072839076#64] : Vector (BitVec 64) 8).toList)) (splice_all (by simp))) (fun _ => ?_)
      obtain ⟨m_2, hm_2, H⟩ := ltt_elim H
      refine TL_reE (j := 0) (A := some (b2, 0)) (cs := e64 ((#v[14680500436340154072#64, 7105036623409894663#64, 10473403895298186519#64, 1526699215303891257#64, 7436329637833083697#64, 10282925794625328401#64, 15784041429090275239#64, 5167115440072839076#64] : Vector (BitVec 64) 8).toList)) (cs' := e64 m_2.toList) rfl (congrArg (fun z : Vector (BitVec 64) 8 => e64 (Vector.toList z)) hm_2) ?_
      refine TL_nil ?_
      refine TX_next ?_
      refine TC_seq ?_
      refine TC_region ?_
      refine TL_v rfl rfl rfl (V_move rfl) ?_
      obtain ⟨r_4, hr_4, H⟩ := bind_elim H
      refine TL_e rfl rfl rfl (E_call (Γ := Unit) (val := fun g => vs r_4) (mem := fun g => []) (vs := [vs s_, vi 128, vi 16]) (Lin := []) (Ro := []) (is := []) rfl Try.call52 (F52_calls s_ 128 16 r_4 hr_4) rfl trivial) (fun g_4 => ?_)
      refine TL_v rfl rfl rfl (V_assign rfl) ?_
      refine TL_nil ?_
      refine TX_next ?_
      refine TC_seq ?_
      refine TC_seq ?_
      refine TC_region ?_
      refine TL_v rfl rfl rfl (V_assign rfl) ?_
      refine TL_nil ?_
      refine TX_next ?_
      refine TC_block ?_
      obtain ⟨t_3, Hl, H⟩ := bind_elim H
      refine TC.sub (m' := [(11, ptr (some (b2, 0)) 0), (12, vs r_4), (13, vi 0)]) ⟨rfl, rfl, rfl, trivial⟩ ?_
      refine TC.pull (is := [0]) (L' := [⟨some (b2, 0), e64 m_2.toList⟩]) rfl ?_
      refine TC_loopL (id := 5) (body := (halberdref1_Sum.b2 r_4)) (σ := Int × Vector (BitVec 64) 8) (Γ := Unit) (Γx := Unit) (fun s2 g2_ => [(11, ptr (some (b2, 0)) 0), (12, vs r_4), (13, vi s2.1)]) (fun s2 g2_ => [⟨some (b2, 0), e64 s2.2.toList⟩]) (fun t g => [(11, ptr (some (b2, 0)) 0)]) (fun t g => [⟨some (b2, 0), e64 t.toList⟩]) ?_ BIG (0, m_2) () t_3 Hl ?_
      · intro s2 g2_ r1 H K hK hE
        unfold halberdref1_Sum.b2 at H
        refine TC_seq ?_
        refine TC_seq ?_
        refine TC_region ?_
        refine TL_v rfl rfl rfl (V_move rfl) ?_
        refine TL_v rfl rfl rfl (V_move rfl) ?_
        refine TL_v rfl rfl rfl (V_len_str rfl Try.underlying9) ?_
        refine TL_v rfl rfl rfl (V_bin rfl rfl (fun w => lssI w s2.1 ((r_4).length : Int))) ?_
        refine TL_nil ?_
        refine TX_next ?_
        refine TC_cond (b := (decide (s2.1 < ((r_4).length : Int)))) rfl (fun hc => ?_) (fun hc => ?_)
        · replace H := ite_t (of_decide_eq_true hc) H
          refine TC_skip ?_
          refine TX_next ?_
          refine TC_seq ?_
          refine TC_block ?_
          obtain ⟨h7, H⟩ := if_elim H
          obtain ⟨h8, H⟩ := if_elim H
          obtain ⟨h9, H⟩ := if_elim H
          obtain ⟨h10, H⟩ := if_elim H
          obtain ⟨r_5, hr_5, H⟩ := bind_elim H
          refine TA_begin [⟨some (b2, 0), e64 s2.2.toList⟩] 7 (by kernel_rfl) (N := 8) rfl ?_
          refine TA_take (i := 0) (is := [0]) (done' := #[true, false, false, false, false, false, false, false]) rfl rfl rfl rfl (by kernel_rfl) (QP.block (QP.then (QP.then (QP.block (QP.then (QP.block (QP.then QP.body))))))) (by kernel_rfl) rfl (V_loadAgg (n := 8) rfl (by simp) (Src.own (j := 0) rfl) Try.isAgg72 TryI.inf72 rfl (lenV (f := v64) s2.2)) ?_
          refine TA_take (i := 1) (is := [0]) (done' := #[true, true, false, false, false, false, false, false]) rfl rfl rfl rfl (by kernel_rfl) (QP.block (QP.then (QP.then (QP.block (QP.then (QP.block (QP.then QP.body))))))) (by kernel_rfl) rfl (V_move rfl) ?_
          refine TA_take (i := 2) (is := [0]) (done' := #[true, true, true, false, false, false, false, false]) rfl rfl rfl rfl (by kernel_rfl) (QP.block (QP.then (QP.then (QP.block (QP.then (QP.block (QP.then QP.body))))))) (by kernel_rfl) rfl (V_move rfl) ?_
          refine TA_take (i := 3) (is := [0]) (done' := #[true, true, true, true, false, false, false, false]) rfl rfl rfl rfl (by kernel_rfl) (QP.block (QP.then (QP.then (QP.block (QP.then (QP.block (QP.then QP.body))))))) (by kernel_rfl) rfl (V_move rfl) ?_
          refine TA_take (i := 4) (is := [0]) (done' := #[true, true, true, true, true, false, false, false]) rfl rfl rfl rfl (by kernel_rfl) (QP.block (QP.then (QP.then (QP.block (QP.then (QP.block (QP.then QP.body))))))) (by kernel_rfl) rfl (V_bin rfl rfl (fun w => addI w s2.1 128)) ?_
          refine TA_take (i := 5) (is := [0]) (done' := #[true, true, true, true, true, true, false, false]) rfl rfl rfl rfl (by kernel_rfl) (QP.block (QP.then (QP.then (QP.block (QP.then (QP.block (QP.then QP.body))))))) (by kernel_rfl) rfl (V_sliceStr (l := (s2.1).toNat) (h := (w64 (s2.1 + 128)).toNat) rfl Try.underlying9 (Bnd.some' (i := s2.1) rfl h8) (Bnd.some' (i := w64 (s2.1 + 128)) rfl h7) h10 h9) ?_
          refine TA_all (rs := [6]) (by kernel_rfl) rfl ?_
          refine ⟨?_, trivial⟩
          refine TO_e (is := [0]) (done' := #[true, true, true, true, true, true, true, false]) rfl rfl rfl rfl (by kernel_rfl) (E_call (Γ := Unit) (val := fun g => Value.agg (flat [(8, e64 r_5.toList)]).toArray) (mem := fun g => []) (vs := [Value.agg (flat [(8, e64 s2.2.toList)]).toArray, vs (sub r_4 ((s2.1).toNat) ((w64 (s2.1 + 128)).toNat))]) (Lin := []) (Ro := []) (is := []) rfl Try.call54 (F54_calls s2.2 (sub r_4 ((s2.1).toNat) ((w64 (s2.1 + 128)).toNat)) r_5 hr_5) rfl trivial) (fun _ _ => rfl) (fun g_5 => ?_)
          refine TA_all (rs := [7]) (by kernel_rfl) rfl ?_
          refine ⟨?_, trivial⟩
          refine TO_n (is := []) (R := fun _ => []) (done' := #[true, true, true, true, true, true, true, true]) rfl rfl rfl (by kernel_rfl) (E_storeAgg (n := 8) (j := 0) (vs := e64 r_5.toList) rfl rfl TryI.inf72 rfl (lenV (f := v64) r_5) (OneC.map (fun _ => rfl) _) rfl (Nat.le_of_eq (by simp)) (cs' := e64 r_5.toList) (splice_all (by simp))) (fun h => by cases h) (fun _ => ?_)
          refine TA_done (by kernel_rfl) ?_ 0
          refine TX_block_normal ?_
          refine TX_next ?_
          refine TC_region ?_
          refine TL_v rfl rfl rfl (V_move rfl) ?_
          refine TL_v rfl rfl rfl (V_bin rfl rfl (fun w => addI w s2.1 128)) ?_
          refine TL_v rfl rfl rfl (V_assign rfl) ?_
          obtain ⟨i3, hi3, H⟩ := ltt_elim H
          refine TL_re (d := 13) (v := vi (w64 (s2.1 + 128))) (v' := vi i3) rfl (congrArg vi hi3) ?_
          refine TL_nil ?_
          refine TX.sub (m' := [(11, ptr (some (b2, 0)) 0), (12, vs r_4), (13, vi i3)]) ⟨rfl, rfl, rfl, trivial⟩ ?_
          refine TX.pull (is := [0]) (L' := [⟨some (b2, 0), e64 r_5.toList⟩]) rfl ?_
          obtain rfl := Option.some.inj H
          exact fun a w hs => hK (i3, r_5) rfl () a w hs
        · replace H := ite_f (of_decide_eq_false hc) H
          refine TC_exit ?_
          refine TX_then_exit ?_
          refine TX_then_exit ?_
          refine TX.sub (m' := [(11, ptr (some (b2, 0)) 0)]) ⟨rfl, trivial⟩ ?_
          refine TX.pull (is := [0]) (L' := [⟨some (b2, 0), e64 s2.2.toList⟩]) rfl ?_
          obtain rfl := Option.some.inj H
          exact hE s2.2 rfl ()
      · intro g
        refine TX_block_exit ?_
        refine TX_next ?_
        refine TC_seq ?_
        refine TC_region ?_
        refine TL_v rfl rfl rfl (V_assign rfl) ?_
        refine TL_nil ?_
        refine TX_next ?_
        refine TC_seq ?_
        refine TC_seq ?_
        refine TC_region ?_
        refine TL_v rfl rfl rfl (V_assign rfl) ?_
        refine TL_nil ?_
        refine TX_next ?_
        refine TC_block ?_
        obtain ⟨t_4, Hl, H⟩ := bind_elim H
        refine TC.sub (m' := [(11, ptr (some (b2, 0)) 0), (14, vs ([] : Str)), (15, vi 0)]) ⟨rfl, rfl, rfl, trivial⟩ ?_
        refine TC.pull (is := [0]) (L' := [⟨some (b2, 0), e64 t_3.toList⟩]) rfl ?_
        refine TC_loopL (id := 7) (body := (halberdref1_Sum.b3 t_3)) (σ := Str × Int) (Γ := Unit) (Γx := Unit) (fun s3 g3_ => [(11, ptr (some (b2, 0)) 0), (14, vs s3.1), (15, vi s3.2)]) (fun s3 g3_ => [⟨some (b2, 0), e64 t_3.toList⟩]) (fun t g => [(14, vs t)]) (fun t g => []) ?_ BIG (([] : Str), 0) () t_4 Hl ?_
        · intro s3 g3_ r1 H K hK hE
          unfold halberdref1_Sum.b3 at H
          refine TC_seq ?_
          refine TC_seq ?_
          refine TC_region ?_
          refine TL_v rfl rfl rfl (V_move rfl) ?_
          refine TL_v rfl rfl rfl (V_bin rfl rfl (fun w => lssI w s3.2 6)) ?_
          refine TL_nil ?_
          refine TX_next ?_
          refine TC_cond (b := (decide (s3.2 < 6))) rfl (fun hc => ?_) (fun hc => ?_)
          · replace H := ite_t (of_decide_eq_true hc) H
            refine TC_skip ?_
            refine TX_next ?_
            refine TC_seq ?_
            refine TC_block ?_
            obtain ⟨h11, H⟩ := if_elim H
            obtain ⟨r_6, hr_6, H⟩ := bind_elim H
            obtain ⟨h12, H⟩ := if_elim H
            obtain ⟨h13, H⟩ := if_elim H
            obtain ⟨r_7, hr_7, H⟩ := bind_elim H
            obtain ⟨h14, H⟩ := if_elim H
            obtain ⟨out1, hout1, H⟩ := ltt_elim H
            refine TA_begin [⟨some (b2, 0), e64 t_3.toList⟩] 16 (by kernel_rfl) (N := 16) rfl ?_
            refine TA_take (i := 0) (is := [0]) (done' := #[true, false, false, false, false, false, false, false, false, false, false, false, false, false, false, false]) rfl rfl rfl rfl (by kernel_rfl) (QP.block (QP.then (QP.then (QP.block (QP.then (QP.block (QP.then QP.body))))))) (by kernel_rfl) rfl (V_move rfl) ?_
            refine TA_take (i := 1) (is := [0]) (done' := #[true, true, false, false, false, false, false, false, false, false, false, false, false, false, false, false]) rfl rfl rfl rfl (by kernel_rfl) (QP.block (QP.then (QP.then (QP.block (QP.then (QP.block (QP.then QP.body))))))) (by kernel_rfl) rfl (V_move rfl) ?_
            refine TA_take (i := 2) (is := [0]) (done' := #[true, true, true, false, false, false, false, false, false, false, false, false, false, false, false, false]) rfl rfl rfl rfl (by kernel_rfl) (QP.block (QP.then (QP.then (QP.block (QP.then (QP.block (QP.then QP.body))))))) (by kernel_rfl) rfl (V_idxArr (i := s3.2) rfl rfl Try.underlying72 TryI.inf71 rfl h11.1 h11.2 (k := (s3.2).toNat) (k01 _)) ?_
            refine TA_take (i := 3) (is := [0]) (done' := #[true, true, true, true, false, false, false, false, false, false, false, false, false, false, false, false]) rfl rfl rfl rfl (by kernel_rfl) (QP.block (QP.then (QP.then (QP.block (QP.then (QP.block (QP.then QP.body))))))) (by kernel_rfl) rfl (V_load rfl (Src.own (j := 0) rfl) (get_vec (f := v64) (V := t_3) (toNat_lt h11.1 h11.2)) Try.isAgg71) ?_
            refine TA_take (i := 4) (is := [0]) (done' := #[true, true, true, true, true, false, false, false, false, false, false, false, false, false, false, false]) rfl rfl rfl rfl (by kernel_rfl) (QP.block (QP.then (QP.then (QP.block (QP.then (QP.block (QP.then QP.body))))))) (by kernel_rfl) rfl (V_bin rfl rfl (fun w => shr64 w (vg t_3 ((s3.2).toNat)) .u64 32 (by decide))) ?_
            refine TA_take (i := 5) (is := [0]) (done' := #[true, true, true, true, true, true, false, false, false, false, false, false, false, false, false, false]) rfl rfl rfl rfl (by kernel_rfl) (QP.block (QP.then (QP.then (QP.block (QP.then (QP.block (QP.then QP.body))))))) (by kernel_rfl) rfl (V_conv rfl (fun w => cv64toI w _ _ Try.underlying3 (TryI.und71) ((vg t_3 ((s3.2).toNat)) >>> 32))) ?_
            refine TA_take (i := 8) (is := [0]) (done' := #[true, true, true, true, true, true, false, false, true, false, false, false, false, false, false, false]) rfl rfl rfl rfl (by kernel_rfl) (QP.block (QP.then (QP.then (QP.block (QP.then (QP.block (QP.then QP.body))))))) (by kernel_rfl) rfl (V_move rfl) ?_
            refine TA_take (i := 9) (is := [0]) (done' := #[true, true, true, true, true, true, false, false, true, true, false, false, false, false, false, false]) rfl rfl rfl rfl (by kernel_rfl) (QP.block (QP.then (QP.then (QP.block (QP.then (QP.block (QP.then QP.body))))))) (by kernel_rfl) rfl (V_idxArr (i := s3.2) rfl rfl Try.underlying72 TryI.inf71 rfl h13.1 h13.2 (k := (s3.2).toNat) (k01 _)) ?_
            refine TA_take (i := 10) (is := [0]) (done' := #[true, true, true, true, true, true, false, false, true, true, true, false, false, false, false, false]) rfl rfl rfl rfl (by kernel_rfl) (QP.block (QP.then (QP.then (QP.block (QP.then (QP.block (QP.then QP.body))))))) (by kernel_rfl) rfl (V_load rfl (Src.own (j := 0) rfl) (get_vec (f := v64) (V := t_3) (toNat_lt h13.1 h13.2)) Try.isAgg71) ?_
            refine TA_take (i := 11) (is := [0]) (done' := #[true, true, true, true, true, true, false, false, true, true, true, true, false, false, false, false]) rfl rfl rfl rfl (by kernel_rfl) (QP.block (QP.then (QP.then (QP.block (QP.then (QP.block (QP.then QP.body))))))) (by kernel_rfl) rfl (V_bin rfl rfl (fun w => and64 w (vg t_3 ((s3.2).toNat)) 4294967295#64)) ?_
            refine TA_take (i := 12) (is := [0]) (done' := #[true, true, true, true, true, true, false, false, true, true, true, true, true, false, false, false]) rfl rfl rfl rfl (by kernel_rfl) (QP.block (QP.then (QP.then (QP.block (QP.then (QP.block (QP.then QP.body))))))) (by kernel_rfl) rfl (V_conv rfl (fun w => cv64toI w _ _ Try.underlying3 (TryI.und71) ((vg t_3 ((s3.2).toNat)) &&& 4294967295#64))) ?_
            refine TA_all (rs := [6]) (by kernel_rfl) rfl ?_
            refine ⟨?_, trivial⟩
            refine TO_e (is := [0]) (done' := #[true, true, true, true, true, true, true, false, true, true, true, true, true, false, false, false]) rfl rfl rfl rfl (by kernel_rfl) (E_call (Γ := Unit) (val := fun g => vs r_6) (mem := fun g => []) (vs := [vi (w64 (((vg t_3 ((s3.2).toNat)) >>> 32).toNat : Int)), vi 4]) (Lin := []) (Ro := []) (is := []) rfl Try.call41 (F41_calls (w64 (((vg t_3 ((s3.2).toNat)) >>> 32).toNat : Int)) 4 r_6 hr_6) rfl trivial) (fun _ _ => rfl) (fun g_6 => ?_)
            refine TA_take (i := 7) (is := [0]) (done' := #[true, true, true, true, true, true, true, true, true, true, true, true, true, false, false, false]) rfl rfl rfl rfl (by kernel_rfl) (QP.block (QP.then (QP.then (QP.block (QP.then (QP.block (QP.then QP.body))))))) (by kernel_rfl) rfl (V_bin rfl rfl (fun w => addS w s3.1 r_6 h12)) ?_
            refine TA_all (rs := [13]) (by kernel_rfl) rfl ?_
            refine ⟨?_, trivial⟩
            refine TO_e (is := [0]) (done' := #[true, true, true, true, true, true, true, true, true, true, true, true, true, true, false, false]) rfl rfl rfl rfl (by kernel_rfl) (E_call (Γ := Unit) (val := fun g => vs r_7) (mem := fun g => []) (vs := [vi (w64 (((vg t_3 ((s3.2).toNat)) &&& 4294967295#64).toNat : Int)), vi 4]) (Lin := []) (Ro := []) (is := []) rfl Try.call41 (F41_calls (w64 (((vg t_3 ((s3.2).toNat)) &&& 4294967295#64).toNat : Int)) 4 r_7 hr_7) rfl trivial) (fun _ _ => rfl) (fun g_7 => ?_)
            refine TA_take (i := 14) (is := [0]) (done' := #[true, true, true, true, true, true, true, true, true, true, true, true, true, true, true, false]) rfl rfl rfl rfl (by kernel_rfl) (QP.block (QP.then (QP.then (QP.block (QP.then (QP.block (QP.then QP.body))))))) (by kernel_rfl) rfl (V_bin rfl rfl (fun w => addS w (s3.1 ++ r_6) r_7 h14)) ?_
            refine TA_take (i := 15) (is := [0]) (done' := #[true, true, true, true, true, true, true, true, true, true, true, true, true, true, true, true]) rfl rfl rfl rfl (by kernel_rfl) (QP.block (QP.then (QP.then (QP.block (QP.then (QP.block (QP.then QP.body))))))) (by kernel_rfl) rfl (V_assign rfl) ?_
            refine TA_re (d := 14) (v := vs ((s3.1 ++ r_6) ++ r_7)) (v' := vs out1) rfl (congrArg vs hout1) ?_
            refine TA_done (by kernel_rfl) ?_ 0
            refine TX_block_normal ?_
            refine TX_next ?_
            refine TC_region ?_
            refine TL_v rfl rfl rfl (V_move rfl) ?_
            refine TL_v rfl rfl rfl (V_bin rfl rfl (fun w => addI w s3.2 1)) ?_
            refine TL_v rfl rfl rfl (V_assign rfl) ?_
            obtain ⟨i4, hi4, H⟩ := ltt_elim H
            refine TL_re (d := 15) (v := vi (w64 (s3.2 + 1))) (v' := vi i4) rfl (congrArg vi hi4) ?_
            refine TL_nil ?_
            refine TX.sub (m' := [(11, ptr (some (b2, 0)) 0), (14, vs out1), (15, vi i4)]) ⟨rfl, rfl, rfl, trivial⟩ ?_
            refine TX.pull (is := [0]) (L' := [⟨some (b2, 0), e64 t_3.toList⟩]) rfl ?_
            obtain rfl := Option.some.inj H
            exact fun a w hs => hK (out1, i4) rfl () a w hs
          · replace H := ite_f (of_decide_eq_false hc) H
            refine TC_exit ?_
            refine TX_then_exit ?_
            refine TX_then_exit ?_
            refine TX.sub (m' := [(14, vs s3.1)]) ⟨rfl, trivial⟩ ?_
            refine TX.pull (is := []) (L' := []) rfl ?_
            obtain rfl := Option.some.inj H
            exact hE s3.1 rfl ()
        · intro g
          refine TX_block_exit ?_
          refine TX_next ?_
          refine TC_seq ?_
          refine TC_region ?_
          refine TL_v rfl rfl rfl (V_move rfl) ?_
          refine TL_v rfl rfl rfl (V_assign rfl) ?_
          refine TL_v rfl rfl rfl (V_assign rfl) ?_
          refine TL_nil ?_
          refine TX_next ?_
          refine TC_ret ?_
          refine TX_block_ret ?_
          refine TX_then_ret ?_
          have hrv := Option.some.inj H
          subst hrv
          exact TX_ret (rs := [.tmp 4, .tmp 5]) (vs := [vs t_4, vi 0]) rfl ⟨rfl, rfl, trivial⟩ (fun w' hs' => ⟨(), rfl, Step.left (Step.pulled (is := []) (A := []) hs' rfl)⟩)
    · replace H := ite_f (Bool.eq_false_iff.1 hc) H
      refine TC_skip ?_
      refine TX_block_normal ?_
      refine TX_next ?_
      refine TC_seq ?_
      refine TC_region ?_
      refine TL_v rfl rfl rfl (V_assign rfl) ?_
      refine TL_v rfl rfl rfl (V_assign rfl) ?_
      refine TL_nil ?_
      refine TX_next ?_
      refine TC_ret ?_
      have hrv := Option.some.inj H
      subst hrv
      exact TX_ret (rs := [.tmp 4, .tmp 5]) (vs := [vs ([] : Str), vi 200]) rfl ⟨rfl, rfl, trivial⟩ (fun w' hs' => ⟨(), rfl, Step.left (Step.pulled (is := []) (A := []) hs' rfl)⟩)

end Go.Proofs
end

section
namespace Go.Proofs
open Go Go.Kx
set_option linter.unusedVariables false
set_option linter.unusedSimpArgs false
def halberdref1_Hash (bits : Int) (s_ : Str) : Option (Str) :=
  (halberdref1_Sum bits s_).bind fun (r_1 : Str × Int) => (some r_1.1)

set_option maxHeartbeats 4000000 in
set_option maxRecDepth 20000 in
theorem F31_calls (bits : Int) (s_ : Str) (r : Str) (H : halberdref1_Hash bits s_ = some r) :
    Does Try.prog 31 [vi bits, vs s_] [] [] (Γ := Unit) (fun g => vs r) (fun g => []) := by
  intro w hmem hro hd
  refine calls_of (N := 14) (m0 := [(0, vi bits), (1, vs s_)]) Try.func31 rfl Try.ntmps31 (argM_ok [vi bits, vs s_]) rfl hmem hro hd ?_
  unfold halberdref1_Hash at H
  refine TC_seq ?_
  refine TC_region ?_
  refine TL_v rfl rfl rfl (V_assign rfl) ?_
  refine TL_nil ?_
  refine TX_next ?_
  refine TC_seq ?_
  refine TC_region ?_
  refine TL_v rfl rfl rfl (V_move rfl) ?_
  refine TL_v rfl rfl rfl (V_move rfl) ?_
  obtain ⟨r_1, hr_1, H⟩ := bind_elim H
  refine TL_e rfl rfl rfl (E_call (Γ := Unit) (val := fun g => Value.tuple [vs r_1.1, vi r_1.2].toArray) (mem := fun g => []) (vs := [vi bits, vs s_]) (Lin := []) (Ro := []) (is := []) rfl Try.call45 (F45_calls bits s_ r_1 hr_1) rfl trivial) (fun g_1 => ?_)
  refine TL_v rfl rfl rfl (V_move rfl) ?_
  refine TL_v rfl rfl rfl (V_extract (vs := [vs r_1.1, vi r_1.2]) rfl rfl) ?_
  refine TL_v rfl rfl rfl (V_extract (vs := [vs r_1.1, vi r_1.2]) rfl rfl) ?_
  refine TL_v rfl rfl rfl (V_assign rfl) ?_
  refine TL_v rfl rfl rfl (V_assign rfl) ?_
  refine TL_nil ?_
  refine TX_next ?_
  refine TC_seq ?_
  refine TC_region ?_
  refine TL_v rfl rfl rfl (V_move rfl) ?_
  refine TL_v rfl rfl rfl (V_assign rfl) ?_
  refine TL_nil ?_
  refine TX_next ?_
  refine TC_ret ?_
  have hrv := Option.some.inj H
  subst hrv
  exact TX_ret (rs := [.tmp 4]) (vs := [vs r_1.1]) rfl ⟨rfl, trivial⟩ (fun w' hs' => ⟨(), rfl, Step.left (Step.pulled (is := []) (A := []) hs' rfl)⟩)

end Go.Proofs
end

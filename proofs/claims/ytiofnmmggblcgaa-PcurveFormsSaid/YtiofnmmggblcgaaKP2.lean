/-
  Part KP2 of the proofs of this seat: F76, F44, F39, F64, F38, F50, F40, F37, F19, F14.
-/
import Derived.Test.YtiofnmmggblcgaaK2
import Derived.Test.YtiofnmmggblcgaaKN2
set_option linter.unusedVariables false
set_option linter.unusedSimpArgs false
section
namespace Go.Proofs
open Go Go.Kx
open Vector (replicate)
def halberdref9_twice (p_X : Vx 32 8) (p_Y : Vx 32 8) (p_Z : Vx 32 8) : Option (Vx 32 8 × Vx 32 8 × Vx 32 8) :=
 if p_Z = (replicate 8 0#32 : Vx 32 8) then (some (p_X, p_Y, p_Z)) else ((halberdref9_mont 0 p_Y p_Y).bind fun (r_1 : Vx 32 8) => ((halberdref9_mont 0 p_X r_1).bind fun (r_2 : Vx 32 8) => ((halberdref9_add 0 r_2 r_2).bind fun (r_3 : Vx 32 8) => ((halberdref9_add 0 r_3 r_3).bind fun (r_4 : Vx 32 8) => ((halberdref9_mont 0 p_Z p_Z).bind fun (r_5 : Vx 32 8) => ((halberdref9_sub 0 p_X r_5).bind fun (r_6 : Vx 32 8) => ((halberdref9_add 0 p_X r_5).bind fun (r_7 : Vx 32 8) => ((halberdref9_mont 0 r_6 r_7).bind fun (r_8 : Vx 32 8) => ((halberdref9_add 0 r_8 r_8).bind fun (r_9 : Vx 32 8) => ((halberdref9_add 0 r_8 r_9).bind fun (r_10 : Vx 32 8) => ((halberdref9_mont 0 r_10 r_10).bind fun (r_11 : Vx 32 8) => ((halberdref9_add 0 r_4 r_4).bind fun (r_12 : Vx 32 8) => ((halberdref9_sub 0 r_11 r_12).bind fun (r_13 : Vx 32 8) => ((halberdref9_mont 0 r_1 r_1).bind fun (r_14 : Vx 32 8) => ((halberdref9_add 0 r_14 r_14).bind fun (r_15 : Vx 32 8) => ((halberdref9_add 0 r_15 r_15).bind fun (r_16 : Vx 32 8) => ((halberdref9_add 0 r_16 r_16).bind fun (r_17 : Vx 32 8) => ((halberdref9_mont 0 p_Y p_Z).bind fun (r_18 : Vx 32 8) => ((halberdref9_sub 0 r_4 r_13).bind fun (r_19 : Vx 32 8) => ((halberdref9_mont 0 r_10 r_19).bind fun (r_20 : Vx 32 8) => ((halberdref9_sub 0 r_20 r_17).bind fun (r_21 : Vx 32 8) => ((halberdref9_add 0 r_18 r_18).bind fun (r_22 : Vx 32 8) => (some (r_13, r_21, r_22))))))))))))))))))))))))
set_option maxHeartbeats 4000000 in
set_option maxRecDepth 20000 in
theorem F76_calls (p_X : Vx 32 8) (p_Y : Vx 32 8) (p_Z : Vx 32 8) (r : Vx 32 8 × Vx 32 8 × Vx 32 8) (H : halberdref9_twice p_X p_Y p_Z = some r) :
  Does Try.prog 76 [aG [(8, e32 p_X.toList), (8, e32 p_Y.toList), (8, e32 p_Z.toList)]] [] [] (Γ := Unit) (fun g => aG [(8, e32 r.1.toList), (8, e32 r.2.1.toList), (8, e32 r.2.2.toList)]) (fun g => []) := by
 intro w hmem hro hd
 refine calls_of (N := 108) (m0 := [(0, aG [(8, e32 p_X.toList), (8, e32 p_Y.toList), (8, e32 p_Z.toList)])]) Try.func76 rfl Try.ntmps76 (argM_ok [aG [(8, e32 p_X.toList), (8, e32 p_Y.toList), (8, e32 p_Z.toList)]]) rfl hmem hro hd ?_
 unfold halberdref9_twice at H
 refine TC_seq ?_
 refine TC_region ?_
 refine TLe (E_boxP [(8, e32 p_X.toList), (8, e32 p_Y.toList), (8, e32 p_Z.toList)] rfl rfl ⟨(lenV (f := v32) p_X), (lenV (f := v32) p_Y), (lenV (f := v32) p_Z), trivial⟩) (fun b1 => ?_)
 refine TLe (E_allocP [(8, e32 ((replicate 8 0#32).toList)), (8, e32 ((replicate 8 0#32).toList)), (8, e32 ((replicate 8 0#32).toList))] TryI.inf33 TryI.zer33 ⟨(lenV (f := v32) (replicate 8 0#32)), (lenV (f := v32) (replicate 8 0#32)), (lenV (f := v32) (replicate 8 0#32)), trivial⟩) (fun b2 => ?_)
 refine TL_nil ?_
 refine TX_next ?_
 refine TC_seq ?_
 refine TC_region ?_
 refine TLv (V_assign rfl) ?_
 refine TL_nil ?_
 refine TX_next ?_
 refine TC_seq ?_
 refine TC_seq ?_
 refine TC_region ?_
 refine TLv (V_fieldE rfl Try.underlying33 rfl rfl TryI.inf31 rfl (v := ptr (some (b1, 16)) 0) rfl) ?_
 refine TLv (V_lag (.o 5) Try.isAgg31 TryI.inf31) ?_
 refine TLv (V_buildArr (pv := []) rfl rfl Try.underlying31 TryI.inf31 TryI.inf29 rfl TryI.zer31 (cs := e32 ((replicate 8 0#32 : Vx 32 8).toList)) (by kernel_rfl)) ?_
 refine TLv (V_bin rfl rfl (fun w => eqlA32 w Try.underlying31 Try.underlying29 (by kernel_rfl) (by kernel_rfl) p_Z (replicate 8 0#32 : Vx 32 8))) ?_
 refine TL_nil ?_
 refine TX_next ?_
 refine TC_cond (b := (decide (p_Z = (replicate 8 0#32 : Vx 32 8)))) rfl (fun hc => ?_) (fun hc => ?_)
 ·replace H := ite_t (of_decide_eq_true hc) H
  refine TC_seq ?_
  refine TC_region ?_
  refine TLv (V_loadAgg (n := 24) (cs := flat [(8, e32 p_X.toList), (8, e32 p_Y.toList), (8, e32 p_Z.toList)]) rfl (by simp) (SrcEnts (b := b1) [(8, e32 p_X.toList), (8, e32 p_Y.toList), (8, e32 p_Z.toList)] 0 ⟨(lenV (f := v32) p_X), (lenV (f := v32) p_Y), (lenV (f := v32) p_Z), trivial⟩ (AllSrc.all (M := ents b1 0 [(8, e32 p_X.toList), (8, e32 p_Y.toList), (8, e32 p_Z.toList)]) ⟨Src.own (j := 3) rfl, Src.own (j := 4) rfl, Src.own (j := 5) rfl, trivial⟩)) Try.isAgg33 TryI.inf33 rfl (flat_len ⟨(lenV (f := v32) p_X), (lenV (f := v32) p_Y), (lenV (f := v32) p_Z), trivial⟩ rfl)) ?_
  refine TLn (E_sp (b := b2) (o := 0) [0, 0, 0] [(8, e32 ((replicate 8 0#32).toList)), (8, e32 ((replicate 8 0#32).toList)), (8, e32 ((replicate 8 0#32).toList))] [(8, e32 p_X.toList), (8, e32 p_Y.toList), (8, e32 p_Z.toList)] rfl TryI.inf33 ⟨(lenV (f := v32) (replicate 8 0#32)), (lenV (f := v32) (replicate 8 0#32)), (lenV (f := v32) (replicate 8 0#32)), trivial⟩ ⟨(lenV (f := v32) p_X), (lenV (f := v32) p_Y), (lenV (f := v32) p_Z), trivial⟩ ⟨(OneC.map (fun _ => rfl) _), (OneC.map (fun _ => rfl) _), (OneC.map (fun _ => rfl) _), trivial⟩) (fun _ => ?_)
  refine TL_nil ?_
  refine TX_next ?_
  refine TC_ret ?_
  refine TX_then_ret ?_
  have hrv := Option.some.inj H
  subst hrv
  exact TX_ret (rs := [.cell 2 33]) (vs := [aG [(8, e32 p_X.toList), (8, e32 p_Y.toList), (8, e32 p_Z.toList)]]) rfl ⟨(Res_agg (n := 24) (cs := flat [(8, e32 p_X.toList), (8, e32 p_Y.toList), (8, e32 p_Z.toList)]) rfl (by simp) (SrcEnts (b := b2) [(8, e32 p_X.toList), (8, e32 p_Y.toList), (8, e32 p_Z.toList)] 0 ⟨(lenV (f := v32) p_X), (lenV (f := v32) p_Y), (lenV (f := v32) p_Z), trivial⟩ (AllSrc.all (M := ents b2 0 [(8, e32 p_X.toList), (8, e32 p_Y.toList), (8, e32 p_Z.toList)]) ⟨Src.own (j := 0) rfl, Src.own (j := 1) rfl, Src.own (j := 2) rfl, trivial⟩)) Try.isAgg33 TryI.inf33 rfl (by simp [flat])), trivial⟩ (fun w' hs' => ⟨(), rfl, Step.left (Step.pulled (is := []) (A := []) hs' rfl)⟩)
 ·replace H := ite_f (of_decide_eq_false hc) H
  refine TC_skip ?_
  refine TX_next ?_
  refine TC_seq ?_
  refine TC_region ?_
  refine TLv (V_move rfl) ?_
  refine TLv (V_fieldE rfl Try.underlying33 rfl rfl TryI.inf31 rfl (v := ptr (some (b1, 8)) 0) rfl) ?_
  refine TLv (V_lag (.o 4) Try.isAgg31 TryI.inf31) ?_
  refine TLv (V_fieldE rfl Try.underlying33 rfl rfl TryI.inf31 rfl (v := ptr (some (b1, 8)) 0) rfl) ?_
  refine TLv (V_lag (.o 4) Try.isAgg31 TryI.inf31) ?_
  obtain ⟨r_1, hr_1, H⟩ := bind_elim H
  refine TLe (E_c0 (F47_calls 0 p_Y p_Y r_1 hr_1) Try.call47 .z) (fun g_1 => ?_)
  refine TLe (E_al32 8 TryI.inf31 TryI.zer31) (fun b3 => ?_)
  refine TLn (E_sv (vs := e32 r_1.toList) 0 TryI.inf31) (fun _ => ?_)
  refine TL_nil ?_
  refine TX_next ?_
  refine TC_seq ?_
  refine TC_region ?_
  refine TLv (V_move rfl) ?_
  refine TLv (V_fieldE rfl Try.underlying33 rfl rfl TryI.inf31 rfl (v := ptr (some (b1, 0)) 0) rfl) ?_
  refine TLv (V_lag (.o 4) Try.isAgg31 TryI.inf31) ?_
  refine TLv (V_lag (.o 0) Try.isAgg31 TryI.inf31) ?_
  obtain ⟨r_2, hr_2, H⟩ := bind_elim H
  refine TLe (E_c0 (F47_calls 0 p_X r_1 r_2 hr_2) Try.call47 .z) (fun g_2 => ?_)
  refine TLe (E_al32 8 TryI.inf31 TryI.zer31) (fun b4 => ?_)
  refine TLn (E_sv (vs := e32 r_2.toList) 0 TryI.inf31) (fun _ => ?_)
  refine TL_nil ?_
  refine TX_next ?_
  refine TC.sub (m' := [(1, ptr (some (b1, 0)) 0), (2, ptr (some (b2, 0)) 0), (3, vi 0), (4, ptr (some (b3, 0)) 0), (5, ptr (some (b4, 0)) 0)]) ⟨rfl, rfl, rfl, rfl, rfl, trivial⟩ ?_
  refine TC.pull (is := [5, 5, 5, 2, 2, 2, 1, 0]) (L' := [⟨some (b1, 0), e32 p_X.toList⟩, ⟨some (b1, 8), e32 p_Y.toList⟩, ⟨some (b1, 16), e32 p_Z.toList⟩, ⟨some (b2, 0), e32 ((replicate 8 0#32).toList)⟩, ⟨some (b2, 8), e32 ((replicate 8 0#32).toList)⟩, ⟨some (b2, 16), e32 ((replicate 8 0#32).toList)⟩, ⟨some (b3, 0), e32 r_1.toList⟩, ⟨some (b4, 0), e32 r_2.toList⟩]) rfl ?_
  refine TC_seq ?_
  refine TC_region ?_
  refine TLv (V_move rfl) ?_
  refine TLv (V_lag (.o 7) Try.isAgg31 TryI.inf31) ?_
  refine TLv (V_lag (.o 7) Try.isAgg31 TryI.inf31) ?_
  obtain ⟨r_3, hr_3, H⟩ := bind_elim H
  refine TLe (E_c0 (F48_calls 0 r_2 r_2 r_3 hr_3) Try.call48 .z) (fun g_3 => ?_)
  refine TLn (E_sv (vs := e32 r_3.toList) 7 TryI.inf31) (fun _ => ?_)
  refine TL_nil ?_
  refine TX_next ?_
  refine TC_seq ?_
  refine TC_region ?_
  refine TLv (V_move rfl) ?_
  refine TLv (V_lag (.o 7) Try.isAgg31 TryI.inf31) ?_
  refine TLv (V_lag (.o 7) Try.isAgg31 TryI.inf31) ?_
  obtain ⟨r_4, hr_4, H⟩ := bind_elim H
  refine TLe (E_c0 (F48_calls 0 r_3 r_3 r_4 hr_4) Try.call48 .z) (fun g_4 => ?_)
  refine TLn (E_sv (vs := e32 r_4.toList) 7 TryI.inf31) (fun _ => ?_)
  refine TL_nil ?_
  refine TX_next ?_
  refine TC_seq ?_
  refine TC_region ?_
  refine TLv (V_move rfl) ?_
  refine TLv (V_fieldE rfl Try.underlying33 rfl rfl TryI.inf31 rfl (v := ptr (some (b1, 16)) 0) rfl) ?_
  refine TLv (V_lag (.o 2) Try.isAgg31 TryI.inf31) ?_
  refine TLv (V_fieldE rfl Try.underlying33 rfl rfl TryI.inf31 rfl (v := ptr (some (b1, 16)) 0) rfl) ?_
  refine TLv (V_lag (.o 2) Try.isAgg31 TryI.inf31) ?_
  obtain ⟨r_5, hr_5, H⟩ := bind_elim H
  refine TLe (E_c0 (F47_calls 0 p_Z p_Z r_5 hr_5) Try.call47 .z) (fun g_5 => ?_)
  refine TLe (E_al32 8 TryI.inf31 TryI.zer31) (fun b5 => ?_)
  refine TLn (E_sv (vs := e32 r_5.toList) 0 TryI.inf31) (fun _ => ?_)
  refine TL_nil ?_
  refine TX_next ?_
  refine TC.sub (m' := [(1, ptr (some (b1, 0)) 0), (2, ptr (some (b2, 0)) 0), (3, vi 0), (4, ptr (some (b3, 0)) 0), (5, ptr (some (b4, 0)) 0), (6, ptr (some (b5, 0)) 0)]) ⟨rfl, rfl, rfl, rfl, rfl, rfl, trivial⟩ ?_
  refine TC.pull (is := [1, 1, 1, 1, 1, 1, 1, 1, 0]) (L' := [⟨some (b1, 0), e32 p_X.toList⟩, ⟨some (b1, 8), e32 p_Y.toList⟩, ⟨some (b1, 16), e32 p_Z.toList⟩, ⟨some (b2, 0), e32 ((replicate 8 0#32).toList)⟩, ⟨some (b2, 8), e32 ((replicate 8 0#32).toList)⟩, ⟨some (b2, 16), e32 ((replicate 8 0#32).toList)⟩, ⟨some (b3, 0), e32 r_1.toList⟩, ⟨some (b4, 0), e32 r_4.toList⟩, ⟨some (b5, 0), e32 r_5.toList⟩]) rfl ?_
  refine TC_seq ?_
  obtain ⟨r_6, hr_6, H⟩ := bind_elim H
  obtain ⟨r_7, hr_7, H⟩ := bind_elim H
  obtain ⟨r_8, hr_8, H⟩ := bind_elim H
  refine TA_begin [] 14 (by kernel_rfl) (N := 14) rfl ?_
  refine TA_mix (is := []) (done' := dn 14 8191) [itV 0 41 (vi 0) [], itV 1 42 (vi 0) [], itV 2 43 (ptr (some (b1, 0)) 0) [], itV 3 44 (aG [(8, e32 p_X.toList)]) [2], itV 4 45 (aG [(8, e32 r_5.toList)]) [], itV 5 46 (aG [(8, e32 r_6.toList)]) [1, 3, 4], itV 6 47 (vi 0) [], itV 7 48 (ptr (some (b1, 0)) 0) [], itV 8 49 (aG [(8, e32 p_X.toList)]) [7], itV 9 50 (aG [(8, e32 r_5.toList)]) [], itV 10 51 (aG [(8, e32 r_7.toList)]) [8, 9, 6], itV 11 52 (aG [(8, e32 r_8.toList)]) [0, 10, 5], itA32 12 7 8] [] 1 (by kernel_rfl) (QP.then QP.body) (by kernel_rfl) rfl (.v rfl (V_move rfl) (.v rfl (V_move rfl) (.v rfl (V_fe Try.underlying33 TryI.inf31) (.v rfl (V_lag (.o 0) Try.isAgg31 TryI.inf31) (.v rfl (V_lag (.o 8) Try.isAgg31 TryI.inf31) (.e rfl (E_cu (F49_calls 0 p_X r_5 r_6 hr_6) Try.call49 .z) (.v rfl (V_move rfl) (.v rfl (V_fe Try.underlying33 TryI.inf31) (.v rfl (V_lag (.o 0) Try.isAgg31 TryI.inf31) (.v rfl (V_lag (.o 8) Try.isAgg31 TryI.inf31) (.e rfl (E_cu (F48_calls 0 p_X r_5 r_7 hr_7) Try.call48 .z) (.e rfl (E_cu (F47_calls 0 r_6 r_7 r_8 hr_8) Try.call47 .z) (.c rfl (fun _ _ => (E_al32 8 TryI.inf31 TryI.zer31)) .nil))))))))))))) .nil (by kernel_rfl) rfl (fun γ => ?_)
  refine TA_cut [(7, ptr (some ((γ 12), 0)) 0), (52, aG [(8, e32 r_8.toList)]), (1, ptr (some (b1, 0)) 0), (2, ptr (some (b2, 0)) 0), (3, vi 0), (4, ptr (some (b3, 0)) 0), (5, ptr (some (b4, 0)) 0)] [⟨some ((γ 12), 0), e32 ((replicate 8 0#32).toList)⟩, ⟨some (b1, 0), e32 p_X.toList⟩, ⟨some (b1, 8), e32 p_Y.toList⟩, ⟨some (b1, 16), e32 p_Z.toList⟩, ⟨some (b2, 0), e32 ((replicate 8 0#32).toList)⟩, ⟨some (b2, 8), e32 ((replicate 8 0#32).toList)⟩, ⟨some (b2, 16), e32 ((replicate 8 0#32).toList)⟩, ⟨some (b3, 0), e32 r_1.toList⟩, ⟨some (b4, 0), e32 r_4.toList⟩, ⟨some (b5, 0), e32 r_5.toList⟩] ⟨rfl, rfl, rfl, rfl, rfl, rfl, rfl, trivial⟩ rfl ?_
  generalize γ 12 = b6
  refine TA_all (rs := [13]) (by kernel_rfl) rfl ?_
  refine ⟨?_, trivial⟩
  refine TO_n (is := []) (done' := dn 14 16383) rfl rfl rfl (by kernel_rfl) (E_sv (vs := e32 r_8.toList) 0 TryI.inf31) (fun _ _ => rfl) (fun _ => ?_)
  refine TA_done (by kernel_rfl) ?_ 0
  refine TX_next ?_
  refine TC_seq ?_
  obtain ⟨r_9, hr_9, H⟩ := bind_elim H
  obtain ⟨r_10, hr_10, H⟩ := bind_elim H
  refine TA_begin [] 8 (by kernel_rfl) (N := 8) rfl ?_
  refine TA_mix (is := []) (done' := dn 8 127) [itV 0 53 (vi 0) [], itV 1 54 (aG [(8, e32 r_8.toList)]) [], itV 2 55 (vi 0) [], itV 3 56 (aG [(8, e32 r_8.toList)]) [], itV 4 57 (aG [(8, e32 r_8.toList)]) [], itV 5 58 (aG [(8, e32 r_9.toList)]) [3, 4, 2], itV 6 59 (aG [(8, e32 r_10.toList)]) [5, 0, 1]] [] 1 (by kernel_rfl) (QP.then QP.body) (by kernel_rfl) rfl (.v rfl (V_move rfl) (.v rfl (V_lag (.o 0) Try.isAgg31 TryI.inf31) (.v rfl (V_move rfl) (.v rfl (V_lag (.o 0) Try.isAgg31 TryI.inf31) (.v rfl (V_lag (.o 0) Try.isAgg31 TryI.inf31) (.e rfl (E_cu (F48_calls 0 r_8 r_8 r_9 hr_9) Try.call48 .z) (.e rfl (E_cu (F48_calls 0 r_8 r_9 r_10 hr_10) Try.call48 .z) .nil))))))) .nil (by kernel_rfl) rfl (fun γ => ?_)
  refine TA_cut [(59, aG [(8, e32 r_10.toList)]), (7, ptr (some (b6, 0)) 0), (1, ptr (some (b1, 0)) 0), (2, ptr (some (b2, 0)) 0), (3, vi 0), (4, ptr (some (b3, 0)) 0), (5, ptr (some (b4, 0)) 0)] [⟨some (b6, 0), e32 r_8.toList⟩, ⟨some (b1, 0), e32 p_X.toList⟩, ⟨some (b1, 8), e32 p_Y.toList⟩, ⟨some (b1, 16), e32 p_Z.toList⟩, ⟨some (b2, 0), e32 ((replicate 8 0#32).toList)⟩, ⟨some (b2, 8), e32 ((replicate 8 0#32).toList)⟩, ⟨some (b2, 16), e32 ((replicate 8 0#32).toList)⟩, ⟨some (b3, 0), e32 r_1.toList⟩, ⟨some (b4, 0), e32 r_4.toList⟩, ⟨some (b5, 0), e32 r_5.toList⟩] ⟨rfl, rfl, rfl, rfl, rfl, rfl, rfl, trivial⟩ rfl ?_
  refine TA_all (rs := [7]) (by kernel_rfl) rfl ?_
  refine ⟨?_, trivial⟩
  refine TO_n (is := []) (done' := dn 8 255) rfl rfl rfl (by kernel_rfl) (E_sv (vs := e32 r_10.toList) 0 TryI.inf31) (fun _ _ => rfl) (fun _ => ?_)
  refine TA_done (by kernel_rfl) ?_ 0
  refine TX_next ?_
  refine TC_seq ?_
  obtain ⟨r_11, hr_11, H⟩ := bind_elim H
  obtain ⟨r_12, hr_12, H⟩ := bind_elim H
  obtain ⟨r_13, hr_13, H⟩ := bind_elim H
  refine TA_begin [] 12 (by kernel_rfl) (N := 12) rfl ?_
  refine TA_mix (is := []) (done' := dn 12 2047) [itV 0 60 (vi 0) [], itV 1 61 (vi 0) [], itV 2 62 (aG [(8, e32 r_10.toList)]) [], itV 3 63 (aG [(8, e32 r_10.toList)]) [], itV 4 64 (aG [(8, e32 r_11.toList)]) [1, 2, 3], itV 5 65 (vi 0) [], itV 6 66 (aG [(8, e32 r_4.toList)]) [], itV 7 67 (aG [(8, e32 r_4.toList)]) [], itV 8 68 (aG [(8, e32 r_12.toList)]) [5, 6, 7], itV 9 69 (aG [(8, e32 r_13.toList)]) [4, 0, 8], itA32 10 8 8] [] 1 (by kernel_rfl) (QP.then QP.body) (by kernel_rfl) rfl (.v rfl (V_move rfl) (.v rfl (V_move rfl) (.v rfl (V_lag (.o 0) Try.isAgg31 TryI.inf31) (.v rfl (V_lag (.o 0) Try.isAgg31 TryI.inf31) (.e rfl (E_cu (F47_calls 0 r_10 r_10 r_11 hr_11) Try.call47 .z) (.v rfl (V_move rfl) (.v rfl (V_lag (.o 8) Try.isAgg31 TryI.inf31) (.v rfl (V_lag (.o 8) Try.isAgg31 TryI.inf31) (.e rfl (E_cu (F48_calls 0 r_4 r_4 r_12 hr_12) Try.call48 .z) (.e rfl (E_cu (F49_calls 0 r_11 r_12 r_13 hr_13) Try.call49 .z) (.c rfl (fun _ _ => (E_al32 8 TryI.inf31 TryI.zer31)) .nil))))))))))) .nil (by kernel_rfl) rfl (fun γ => ?_)
  refine TA_cut [(8, ptr (some ((γ 10), 0)) 0), (69, aG [(8, e32 r_13.toList)]), (7, ptr (some (b6, 0)) 0), (1, ptr (some (b1, 0)) 0), (2, ptr (some (b2, 0)) 0), (3, vi 0), (4, ptr (some (b3, 0)) 0), (5, ptr (some (b4, 0)) 0)] [⟨some ((γ 10), 0), e32 ((replicate 8 0#32).toList)⟩, ⟨some (b6, 0), e32 r_10.toList⟩, ⟨some (b1, 0), e32 p_X.toList⟩, ⟨some (b1, 8), e32 p_Y.toList⟩, ⟨some (b1, 16), e32 p_Z.toList⟩, ⟨some (b2, 0), e32 ((replicate 8 0#32).toList)⟩, ⟨some (b2, 8), e32 ((replicate 8 0#32).toList)⟩, ⟨some (b2, 16), e32 ((replicate 8 0#32).toList)⟩, ⟨some (b3, 0), e32 r_1.toList⟩, ⟨some (b4, 0), e32 r_4.toList⟩, ⟨some (b5, 0), e32 r_5.toList⟩] ⟨rfl, rfl, rfl, rfl, rfl, rfl, rfl, rfl, trivial⟩ rfl ?_
  generalize γ 10 = b7
  refine TA_all (rs := [11]) (by kernel_rfl) rfl ?_
  refine ⟨?_, trivial⟩
  refine TO_n (is := []) (done' := dn 12 4095) rfl rfl rfl (by kernel_rfl) (E_sv (vs := e32 r_13.toList) 0 TryI.inf31) (fun _ _ => rfl) (fun _ => ?_)
  refine TA_done (by kernel_rfl) ?_ 0
  refine TX_next ?_
  refine TC_seq ?_
  refine TC_region ?_
  refine TLv (V_move rfl) ?_
  refine TLv (V_lag (.o 8) Try.isAgg31 TryI.inf31) ?_
  refine TLv (V_lag (.o 8) Try.isAgg31 TryI.inf31) ?_
  obtain ⟨r_14, hr_14, H⟩ := bind_elim H
  refine TLe (E_c0 (F47_calls 0 r_1 r_1 r_14 hr_14) Try.call47 .z) (fun g_14 => ?_)
  refine TLe (E_al32 8 TryI.inf31 TryI.zer31) (fun b8 => ?_)
  refine TLn (E_sv (vs := e32 r_14.toList) 0 TryI.inf31) (fun _ => ?_)
  refine TL_nil ?_
  refine TX_next ?_
  refine TC_seq ?_
  refine TC_region ?_
  refine TLv (V_move rfl) ?_
  refine TLv (V_lag (.o 0) Try.isAgg31 TryI.inf31) ?_
  refine TLv (V_lag (.o 0) Try.isAgg31 TryI.inf31) ?_
  obtain ⟨r_15, hr_15, H⟩ := bind_elim H
  refine TLe (E_c0 (F48_calls 0 r_14 r_14 r_15 hr_15) Try.call48 .z) (fun g_15 => ?_)
  refine TLn (E_sv (vs := e32 r_15.toList) 0 TryI.inf31) (fun _ => ?_)
  refine TL_nil ?_
  refine TX_next ?_
  refine TC_seq ?_
  refine TC_region ?_
  refine TLv (V_move rfl) ?_
  refine TLv (V_lag (.o 0) Try.isAgg31 TryI.inf31) ?_
  refine TLv (V_lag (.o 0) Try.isAgg31 TryI.inf31) ?_
  obtain ⟨r_16, hr_16, H⟩ := bind_elim H
  refine TLe (E_c0 (F48_calls 0 r_15 r_15 r_16 hr_16) Try.call48 .z) (fun g_16 => ?_)
  refine TLn (E_sv (vs := e32 r_16.toList) 0 TryI.inf31) (fun _ => ?_)
  refine TL_nil ?_
  refine TX_next ?_
  refine TC.sub (m' := [(1, ptr (some (b1, 0)) 0), (2, ptr (some (b2, 0)) 0), (3, vi 0), (5, ptr (some (b4, 0)) 0), (7, ptr (some (b6, 0)) 0), (8, ptr (some (b7, 0)) 0), (9, ptr (some (b8, 0)) 0)]) ⟨rfl, rfl, rfl, rfl, rfl, rfl, rfl, trivial⟩ ?_
  refine TC.pull (is := [3, 3, 3, 3, 3, 3, 4, 2, 1, 0]) (L' := [⟨some (b1, 0), e32 p_X.toList⟩, ⟨some (b1, 8), e32 p_Y.toList⟩, ⟨some (b1, 16), e32 p_Z.toList⟩, ⟨some (b2, 0), e32 ((replicate 8 0#32).toList)⟩, ⟨some (b2, 8), e32 ((replicate 8 0#32).toList)⟩, ⟨some (b2, 16), e32 ((replicate 8 0#32).toList)⟩, ⟨some (b4, 0), e32 r_4.toList⟩, ⟨some (b6, 0), e32 r_10.toList⟩, ⟨some (b7, 0), e32 r_13.toList⟩, ⟨some (b8, 0), e32 r_16.toList⟩]) rfl ?_
  refine TC_seq ?_
  refine TC_region ?_
  refine TLv (V_move rfl) ?_
  refine TLv (V_lag (.o 9) Try.isAgg31 TryI.inf31) ?_
  refine TLv (V_lag (.o 9) Try.isAgg31 TryI.inf31) ?_
  obtain ⟨r_17, hr_17, H⟩ := bind_elim H
  refine TLe (E_c0 (F48_calls 0 r_16 r_16 r_17 hr_17) Try.call48 .z) (fun g_17 => ?_)
  refine TLn (E_sv (vs := e32 r_17.toList) 9 TryI.inf31) (fun _ => ?_)
  refine TL_nil ?_
  refine TX_next ?_
  refine TC_seq ?_
  refine TC_region ?_
  refine TLv (V_move rfl) ?_
  refine TLv (V_fieldE rfl Try.underlying33 rfl rfl TryI.inf31 rfl (v := ptr (some (b1, 8)) 0) rfl) ?_
  refine TLv (V_lag (.o 1) Try.isAgg31 TryI.inf31) ?_
  refine TLv (V_fieldE rfl Try.underlying33 rfl rfl TryI.inf31 rfl (v := ptr (some (b1, 16)) 0) rfl) ?_
  refine TLv (V_lag (.o 2) Try.isAgg31 TryI.inf31) ?_
  obtain ⟨r_18, hr_18, H⟩ := bind_elim H
  refine TLe (E_c0 (F47_calls 0 p_Y p_Z r_18 hr_18) Try.call47 .z) (fun g_18 => ?_)
  refine TLe (E_al32 8 TryI.inf31 TryI.zer31) (fun b9 => ?_)
  refine TLn (E_sv (vs := e32 r_18.toList) 0 TryI.inf31) (fun _ => ?_)
  refine TL_nil ?_
  refine TX_next ?_
  refine TC_seq ?_
  obtain ⟨r_19, hr_19, H⟩ := bind_elim H
  obtain ⟨r_20, hr_20, H⟩ := bind_elim H
  obtain ⟨r_21, hr_21, H⟩ := bind_elim H
  obtain ⟨r_22, hr_22, H⟩ := bind_elim H
  refine TA_begin [] 17 (by kernel_rfl) (N := 17) rfl ?_
  refine TA_mix (is := []) (done' := dn 17 65535) [itV 0 92 (aG [(8, e32 r_13.toList)]) [], itV 1 93 (vi 0) [], itV 2 94 (vi 0) [], itV 3 95 (aG [(8, e32 r_10.toList)]) [], itV 4 96 (vi 0) [], itV 5 97 (aG [(8, e32 r_4.toList)]) [], itV 6 98 (aG [(8, e32 r_13.toList)]) [], itV 7 99 (aG [(8, e32 r_19.toList)]) [4, 5, 6], itV 8 100 (aG [(8, e32 r_20.toList)]) [7, 2, 3], itV 9 101 (aG [(8, e32 r_17.toList)]) [], itV 10 102 (aG [(8, e32 r_21.toList)]) [9, 8, 1], itV 11 103 (vi 0) [], itV 12 104 (aG [(8, e32 r_18.toList)]) [], itV 13 105 (aG [(8, e32 r_18.toList)]) [], itV 14 106 (aG [(8, e32 r_22.toList)]) [12, 13, 11], itV 15 107 (aG [(8, e32 r_13.toList), (8, e32 r_21.toList), (8, e32 r_22.toList)]) [14, 0, 10]] [] 1 (by kernel_rfl) (QP.then QP.body) (by kernel_rfl) rfl (.v rfl (V_lag (.o 9) Try.isAgg31 TryI.inf31) (.v rfl (V_move rfl) (.v rfl (V_move rfl) (.v rfl (V_lag (.o 8) Try.isAgg31 TryI.inf31) (.v rfl (V_move rfl) (.v rfl (V_lag (.o 7) Try.isAgg31 TryI.inf31) (.v rfl (V_lag (.o 9) Try.isAgg31 TryI.inf31) (.e rfl (E_cu (F49_calls 0 r_4 r_13 r_19 hr_19) Try.call49 .z) (.e rfl (E_cu (F47_calls 0 r_10 r_19 r_20 hr_20) Try.call47 .z) (.v rfl (V_lag (.o 10) Try.isAgg31 TryI.inf31) (.e rfl (E_cu (F49_calls 0 r_20 r_17 r_21 hr_21) Try.call49 .z) (.v rfl (V_move rfl) (.v rfl (V_lag (.o 0) Try.isAgg31 TryI.inf31) (.v rfl (V_lag (.o 0) Try.isAgg31 TryI.inf31) (.e rfl (E_cu (F48_calls 0 r_18 r_18 r_22 hr_22) Try.call48 .z) (.v rfl (V_buildStruct (pv := [(0, aG [(8, e32 r_13.toList)]), (1, aG [(8, e32 r_21.toList)]), (2, aG [(8, e32 r_22.toList)])]) (pl := [(0, 8), (8, 8), (16, 8)]) rfl rfl Try.underlying33 TryI.inf33 TryI.places33 TryI.zer33 (cs := flat [(8, e32 r_13.toList), (8, e32 r_21.toList), (8, e32 r_22.toList)]) (fill_part [] [(8, e32 ((replicate 8 0#32).toList)), (8, e32 ((replicate 8 0#32).toList))] rfl rfl trivial rfl (lenV (f := v32) (replicate 8 0#32)) (lenV (f := v32) r_13) (fill_part [(8, e32 r_13.toList)] [(8, e32 ((replicate 8 0#32).toList))] rfl rfl ⟨(lenV (f := v32) r_13), trivial⟩ rfl (lenV (f := v32) (replicate 8 0#32)) (lenV (f := v32) r_21) (fill_part [(8, e32 r_13.toList), (8, e32 r_21.toList)] [] rfl rfl ⟨(lenV (f := v32) r_13), (lenV (f := v32) r_21), trivial⟩ rfl (lenV (f := v32) (replicate 8 0#32)) (lenV (f := v32) r_22) fill_end)))) .nil)))))))))))))))) .nil (by kernel_rfl) rfl (fun γ => ?_)
  refine TA_cut [(107, aG [(8, e32 r_13.toList), (8, e32 r_21.toList), (8, e32 r_22.toList)]), (2, ptr (some (b2, 0)) 0)] [⟨some (b9, 0), e32 r_18.toList⟩, ⟨some (b1, 0), e32 p_X.toList⟩, ⟨some (b1, 8), e32 p_Y.toList⟩, ⟨some (b1, 16), e32 p_Z.toList⟩, ⟨some (b2, 0), e32 ((replicate 8 0#32).toList)⟩, ⟨some (b2, 8), e32 ((replicate 8 0#32).toList)⟩, ⟨some (b2, 16), e32 ((replicate 8 0#32).toList)⟩, ⟨some (b4, 0), e32 r_4.toList⟩, ⟨some (b6, 0), e32 r_10.toList⟩, ⟨some (b7, 0), e32 r_13.toList⟩, ⟨some (b8, 0), e32 r_17.toList⟩] ⟨rfl, rfl, trivial⟩ rfl ?_
  refine TA_all (rs := [16]) (by kernel_rfl) rfl ?_
  refine ⟨?_, trivial⟩
  refine TO_n (is := []) (done' := dn 17 131071) rfl rfl rfl (by kernel_rfl) (E_sp (b := b2) (o := 0) [4, 4, 4] [(8, e32 ((replicate 8 0#32).toList)), (8, e32 ((replicate 8 0#32).toList)), (8, e32 ((replicate 8 0#32).toList))] [(8, e32 r_13.toList), (8, e32 r_21.toList), (8, e32 r_22.toList)] rfl TryI.inf33 ⟨(lenV (f := v32) (replicate 8 0#32)), (lenV (f := v32) (replicate 8 0#32)), (lenV (f := v32) (replicate 8 0#32)), trivial⟩ ⟨(lenV (f := v32) r_13), (lenV (f := v32) r_21), (lenV (f := v32) r_22), trivial⟩ ⟨(OneC.map (fun _ => rfl) _), (OneC.map (fun _ => rfl) _), (OneC.map (fun _ => rfl) _), trivial⟩) (fun _ _ => rfl) (fun _ => ?_)
  refine TA_done (by kernel_rfl) ?_ 0
  refine TX_next ?_
  refine TC_ret ?_
  have hrv := Option.some.inj H
  subst hrv
  exact TX_ret (rs := [.cell 2 33]) (vs := [aG [(8, e32 r_13.toList), (8, e32 r_21.toList), (8, e32 r_22.toList)]]) rfl ⟨(Res_agg (n := 24) (cs := flat [(8, e32 r_13.toList), (8, e32 r_21.toList), (8, e32 r_22.toList)]) rfl (by simp) (SrcEnts (b := b2) [(8, e32 r_13.toList), (8, e32 r_21.toList), (8, e32 r_22.toList)] 0 ⟨(lenV (f := v32) r_13), (lenV (f := v32) r_21), (lenV (f := v32) r_22), trivial⟩ (AllSrc.all (M := ents b2 0 [(8, e32 r_13.toList), (8, e32 r_21.toList), (8, e32 r_22.toList)]) ⟨Src.own (j := 0) rfl, Src.own (j := 1) rfl, Src.own (j := 2) rfl, trivial⟩)) Try.isAgg33 TryI.inf33 rfl (by simp [flat])), trivial⟩ (fun w' hs' => ⟨(), rfl, Step.left (Step.pulled (is := []) (A := []) hs' rfl)⟩)
end Go.Proofs
end

section
namespace Go.Proofs
open Go Go.Kx
open Vector (replicate)
def halberdref9_together (p_X : Vx 32 8) (p_Y : Vx 32 8) (p_Z : Vx 32 8) (q_X : Vx 32 8) (q_Y : Vx 32 8) (q_Z : Vx 32 8) : Option (Vx 32 8 × Vx 32 8 × Vx 32 8) :=
 if p_Z = (replicate 8 0#32 : Vx 32 8) then (some (q_X, q_Y, q_Z)) else (if q_Z = (replicate 8 0#32 : Vx 32 8) then (some (p_X, p_Y, p_Z)) else ((halberdref9_mont 0 p_Z p_Z).bind fun (r_1 : Vx 32 8) => ((halberdref9_mont 0 q_Z q_Z).bind fun (r_2 : Vx 32 8) => ((halberdref9_mont 0 p_X r_2).bind fun (r_3 : Vx 32 8) => ((halberdref9_mont 0 q_X r_1).bind fun (r_4 : Vx 32 8) => ((halberdref9_mont 0 q_Z r_2).bind fun (r_5 : Vx 32 8) => ((halberdref9_mont 0 p_Y r_5).bind fun (r_6 : Vx 32 8) => ((halberdref9_mont 0 p_Z r_1).bind fun (r_7 : Vx 32 8) => ((halberdref9_mont 0 q_Y r_7).bind fun (r_8 : Vx 32 8) => ((halberdref9_sub 0 r_4 r_3).bind fun (r_9 : Vx 32 8) => ((halberdref9_sub 0 r_8 r_6).bind fun (r_10 : Vx 32 8) => (if r_9 = (replicate 8 0#32 : Vx 32 8) then (if r_10 = (replicate 8 0#32 : Vx 32 8) then ((halberdref9_twice p_X p_Y p_Z).bind fun (r_11 : Vx 32 8 × Vx 32 8 × Vx 32 8) => (some (r_11.1, r_11.2.1, r_11.2.2))) else (some (replicate 8 0#32, replicate 8 0#32, replicate 8 0#32))) else ((halberdref9_mont 0 r_9 r_9).bind fun (r_12 : Vx 32 8) => ((halberdref9_mont 0 r_9 r_12).bind fun (r_13 : Vx 32 8) => ((halberdref9_mont 0 r_3 r_12).bind fun (r_14 : Vx 32 8) => ((halberdref9_mont 0 r_10 r_10).bind fun (r_15 : Vx 32 8) => ((halberdref9_sub 0 r_15 r_13).bind fun (r_16 : Vx 32 8) => ((halberdref9_add 0 r_14 r_14).bind fun (r_17 : Vx 32 8) => ((halberdref9_sub 0 r_16 r_17).bind fun (r_18 : Vx 32 8) => ((halberdref9_sub 0 r_14 r_18).bind fun (r_19 : Vx 32 8) => ((halberdref9_mont 0 r_10 r_19).bind fun (r_20 : Vx 32 8) => ((halberdref9_mont 0 r_6 r_13).bind fun (r_21 : Vx 32 8) => ((halberdref9_sub 0 r_20 r_21).bind fun (r_22 : Vx 32 8) => ((halberdref9_mont 0 p_Z q_Z).bind fun (r_23 : Vx 32 8) => ((halberdref9_mont 0 r_9 r_23).bind fun (r_24 : Vx 32 8) => (some (r_18, r_22, r_24)))))))))))))))))))))))))))
set_option maxHeartbeats 4000000 in
set_option maxRecDepth 20000 in
theorem F44_calls (p_X : Vx 32 8) (p_Y : Vx 32 8) (p_Z : Vx 32 8) (q_X : Vx 32 8) (q_Y : Vx 32 8) (q_Z : Vx 32 8) (r : Vx 32 8 × Vx 32 8 × Vx 32 8) (H : halberdref9_together p_X p_Y p_Z q_X q_Y q_Z = some r) :
  Does Try.prog 44 [aG [(8, e32 p_X.toList), (8, e32 p_Y.toList), (8, e32 p_Z.toList)], aG [(8, e32 q_X.toList), (8, e32 q_Y.toList), (8, e32 q_Z.toList)]] [] [] (Γ := Unit) (fun g => aG [(8, e32 r.1.toList), (8, e32 r.2.1.toList), (8, e32 r.2.2.toList)]) (fun g => []) := by
 intro w hmem hro hd
 refine calls_of (N := 136) (m0 := [(0, aG [(8, e32 p_X.toList), (8, e32 p_Y.toList), (8, e32 p_Z.toList)]), (1, aG [(8, e32 q_X.toList), (8, e32 q_Y.toList), (8, e32 q_Z.toList)])]) Try.func44 rfl Try.ntmps44 (argM_ok [aG [(8, e32 p_X.toList), (8, e32 p_Y.toList), (8, e32 p_Z.toList)], aG [(8, e32 q_X.toList), (8, e32 q_Y.toList), (8, e32 q_Z.toList)]]) rfl hmem hro hd ?_
 unfold halberdref9_together at H
 refine TC_seq ?_
 refine TC_region ?_
 refine TLe (E_boxP [(8, e32 p_X.toList), (8, e32 p_Y.toList), (8, e32 p_Z.toList)] rfl rfl ⟨(lenV (f := v32) p_X), (lenV (f := v32) p_Y), (lenV (f := v32) p_Z), trivial⟩) (fun b1 => ?_)
 refine TLe (E_boxP [(8, e32 q_X.toList), (8, e32 q_Y.toList), (8, e32 q_Z.toList)] rfl rfl ⟨(lenV (f := v32) q_X), (lenV (f := v32) q_Y), (lenV (f := v32) q_Z), trivial⟩) (fun b2 => ?_)
 refine TLe (E_allocP [(8, e32 ((replicate 8 0#32).toList)), (8, e32 ((replicate 8 0#32).toList)), (8, e32 ((replicate 8 0#32).toList))] TryI.inf33 TryI.zer33 ⟨(lenV (f := v32) (replicate 8 0#32)), (lenV (f := v32) (replicate 8 0#32)), (lenV (f := v32) (replicate 8 0#32)), trivial⟩) (fun b3 => ?_)
 refine TL_nil ?_
 refine TX_next ?_
 refine TC_seq ?_
 refine TC_region ?_
 refine TLv (V_assign rfl) ?_
 refine TL_nil ?_
 refine TX_next ?_
 refine TC_seq ?_
 refine TC_seq ?_
 refine TC_region ?_
 refine TLv (V_fieldE rfl Try.underlying33 rfl rfl TryI.inf31 rfl (v := ptr (some (b1, 16)) 0) rfl) ?_
 refine TLv (V_lag (.o 8) Try.isAgg31 TryI.inf31) ?_
 refine TLv (V_buildArr (pv := []) rfl rfl Try.underlying31 TryI.inf31 TryI.inf29 rfl TryI.zer31 (cs := e32 ((replicate 8 0#32 : Vx 32 8).toList)) (by kernel_rfl)) ?_
 refine TLv (V_bin rfl rfl (fun w => eqlA32 w Try.underlying31 Try.underlying29 (by kernel_rfl) (by kernel_rfl) p_Z (replicate 8 0#32 : Vx 32 8))) ?_
 refine TL_nil ?_
 refine TX_next ?_
 refine TC_cond (b := (decide (p_Z = (replicate 8 0#32 : Vx 32 8)))) rfl (fun hc => ?_) (fun hc => ?_)
 ·replace H := ite_t (of_decide_eq_true hc) H
  refine TC_seq ?_
  refine TC_region ?_
  refine TLv (V_loadAgg (n := 24) (cs := flat [(8, e32 q_X.toList), (8, e32 q_Y.toList), (8, e32 q_Z.toList)]) rfl (by simp) (SrcEnts (b := b2) [(8, e32 q_X.toList), (8, e32 q_Y.toList), (8, e32 q_Z.toList)] 0 ⟨(lenV (f := v32) q_X), (lenV (f := v32) q_Y), (lenV (f := v32) q_Z), trivial⟩ (AllSrc.all (M := ents b2 0 [(8, e32 q_X.toList), (8, e32 q_Y.toList), (8, e32 q_Z.toList)]) ⟨Src.own (j := 3) rfl, Src.own (j := 4) rfl, Src.own (j := 5) rfl, trivial⟩)) Try.isAgg33 TryI.inf33 rfl (flat_len ⟨(lenV (f := v32) q_X), (lenV (f := v32) q_Y), (lenV (f := v32) q_Z), trivial⟩ rfl)) ?_
  refine TLn (E_sp (b := b3) (o := 0) [0, 0, 0] [(8, e32 ((replicate 8 0#32).toList)), (8, e32 ((replicate 8 0#32).toList)), (8, e32 ((replicate 8 0#32).toList))] [(8, e32 q_X.toList), (8, e32 q_Y.toList), (8, e32 q_Z.toList)] rfl TryI.inf33 ⟨(lenV (f := v32) (replicate 8 0#32)), (lenV (f := v32) (replicate 8 0#32)), (lenV (f := v32) (replicate 8 0#32)), trivial⟩ ⟨(lenV (f := v32) q_X), (lenV (f := v32) q_Y), (lenV (f := v32) q_Z), trivial⟩ ⟨(OneC.map (fun _ => rfl) _), (OneC.map (fun _ => rfl) _), (OneC.map (fun _ => rfl) _), trivial⟩) (fun _ => ?_)
  refine TL_nil ?_
  refine TX_next ?_
  refine TC_ret ?_
  refine TX_then_ret ?_
  have hrv := Option.some.inj H
  subst hrv
  exact TX_ret (rs := [.cell 4 33]) (vs := [aG [(8, e32 q_X.toList), (8, e32 q_Y.toList), (8, e32 q_Z.toList)]]) rfl ⟨(Res_agg (n := 24) (cs := flat [(8, e32 q_X.toList), (8, e32 q_Y.toList), (8, e32 q_Z.toList)]) rfl (by simp) (SrcEnts (b := b3) [(8, e32 q_X.toList), (8, e32 q_Y.toList), (8, e32 q_Z.toList)] 0 ⟨(lenV (f := v32) q_X), (lenV (f := v32) q_Y), (lenV (f := v32) q_Z), trivial⟩ (AllSrc.all (M := ents b3 0 [(8, e32 q_X.toList), (8, e32 q_Y.toList), (8, e32 q_Z.toList)]) ⟨Src.own (j := 0) rfl, Src.own (j := 1) rfl, Src.own (j := 2) rfl, trivial⟩)) Try.isAgg33 TryI.inf33 rfl (by simp [flat])), trivial⟩ (fun w' hs' => ⟨(), rfl, Step.left (Step.pulled (is := []) (A := []) hs' rfl)⟩)
 ·replace H := ite_f (of_decide_eq_false hc) H
  refine TC_skip ?_
  refine TX_next ?_
  refine TC_seq ?_
  refine TC_seq ?_
  refine TC_region ?_
  refine TLv (V_fieldE rfl Try.underlying33 rfl rfl TryI.inf31 rfl (v := ptr (some (b2, 16)) 0) rfl) ?_
  refine TLv (V_lag (.o 5) Try.isAgg31 TryI.inf31) ?_
  refine TLv (V_buildArr (pv := []) rfl rfl Try.underlying31 TryI.inf31 TryI.inf29 rfl TryI.zer31 (cs := e32 ((replicate 8 0#32 : Vx 32 8).toList)) (by kernel_rfl)) ?_
  refine TLv (V_bin rfl rfl (fun w => eqlA32 w Try.underlying31 Try.underlying29 (by kernel_rfl) (by kernel_rfl) q_Z (replicate 8 0#32 : Vx 32 8))) ?_
  refine TL_nil ?_
  refine TX_next ?_
  refine TC_cond (b := (decide (q_Z = (replicate 8 0#32 : Vx 32 8)))) rfl (fun hc => ?_) (fun hc => ?_)
  ·replace H := ite_t (of_decide_eq_true hc) H
   refine TC_seq ?_
   refine TC_region ?_
   refine TLv (V_loadAgg (n := 24) (cs := flat [(8, e32 p_X.toList), (8, e32 p_Y.toList), (8, e32 p_Z.toList)]) rfl (by simp) (SrcEnts (b := b1) [(8, e32 p_X.toList), (8, e32 p_Y.toList), (8, e32 p_Z.toList)] 0 ⟨(lenV (f := v32) p_X), (lenV (f := v32) p_Y), (lenV (f := v32) p_Z), trivial⟩ (AllSrc.all (M := ents b1 0 [(8, e32 p_X.toList), (8, e32 p_Y.toList), (8, e32 p_Z.toList)]) ⟨Src.own (j := 6) rfl, Src.own (j := 7) rfl, Src.own (j := 8) rfl, trivial⟩)) Try.isAgg33 TryI.inf33 rfl (flat_len ⟨(lenV (f := v32) p_X), (lenV (f := v32) p_Y), (lenV (f := v32) p_Z), trivial⟩ rfl)) ?_
   refine TLn (E_sp (b := b3) (o := 0) [0, 0, 0] [(8, e32 ((replicate 8 0#32).toList)), (8, e32 ((replicate 8 0#32).toList)), (8, e32 ((replicate 8 0#32).toList))] [(8, e32 p_X.toList), (8, e32 p_Y.toList), (8, e32 p_Z.toList)] rfl TryI.inf33 ⟨(lenV (f := v32) (replicate 8 0#32)), (lenV (f := v32) (replicate 8 0#32)), (lenV (f := v32) (replicate 8 0#32)), trivial⟩ ⟨(lenV (f := v32) p_X), (lenV (f := v32) p_Y), (lenV (f := v32) p_Z), trivial⟩ ⟨(OneC.map (fun _ => rfl) _), (OneC.map (fun _ => rfl) _), (OneC.map (fun _ => rfl) _), trivial⟩) (fun _ => ?_)
   refine TL_nil ?_
   refine TX_next ?_
   refine TC_ret ?_
   refine TX_then_ret ?_
   have hrv := Option.some.inj H
   subst hrv
   exact TX_ret (rs := [.cell 4 33]) (vs := [aG [(8, e32 p_X.toList), (8, e32 p_Y.toList), (8, e32 p_Z.toList)]]) rfl ⟨(Res_agg (n := 24) (cs := flat [(8, e32 p_X.toList), (8, e32 p_Y.toList), (8, e32 p_Z.toList)]) rfl (by simp) (SrcEnts (b := b3) [(8, e32 p_X.toList), (8, e32 p_Y.toList), (8, e32 p_Z.toList)] 0 ⟨(lenV (f := v32) p_X), (lenV (f := v32) p_Y), (lenV (f := v32) p_Z), trivial⟩ (AllSrc.all (M := ents b3 0 [(8, e32 p_X.toList), (8, e32 p_Y.toList), (8, e32 p_Z.toList)]) ⟨Src.own (j := 0) rfl, Src.own (j := 1) rfl, Src.own (j := 2) rfl, trivial⟩)) Try.isAgg33 TryI.inf33 rfl (by simp [flat])), trivial⟩ (fun w' hs' => ⟨(), rfl, Step.left (Step.pulled (is := []) (A := []) hs' rfl)⟩)
  ·replace H := ite_f (of_decide_eq_false hc) H
   refine TC_skip ?_
   refine TX_next ?_
   refine TC_seq ?_
   obtain ⟨r_1, hr_1, H⟩ := bind_elim H
   obtain ⟨r_2, hr_2, H⟩ := bind_elim H
   refine TA_begin [] 16 (by kernel_rfl) (N := 16) rfl ?_
   refine TA_mix (is := []) (done' := dn 16 16383) [itV 0 29 (vi 0) [], itV 1 30 (ptr (some (b1, 16)) 0) [], itV 2 31 (aG [(8, e32 p_Z.toList)]) [1], itV 3 32 (ptr (some (b1, 16)) 0) [], itV 4 33 (aG [(8, e32 p_Z.toList)]) [3], itV 5 34 (aG [(8, e32 r_1.toList)]) [4, 0, 2], itV 6 35 (vi 0) [], itV 7 36 (ptr (some (b2, 16)) 0) [], itV 8 37 (aG [(8, e32 q_Z.toList)]) [7], itV 9 38 (ptr (some (b2, 16)) 0) [], itV 10 39 (aG [(8, e32 q_Z.toList)]) [9], itV 11 40 (aG [(8, e32 r_2.toList)]) [6, 8, 10], itA32 12 6 8, itA32 13 7 8] [] 2 (by kernel_rfl) (QP.then QP.body) (by kernel_rfl) rfl (.v rfl (V_move rfl) (.v rfl (V_fe Try.underlying33 TryI.inf31) (.v rfl (V_lag (.o 8) Try.isAgg31 TryI.inf31) (.v rfl (V_fe Try.underlying33 TryI.inf31) (.v rfl (V_lag (.o 8) Try.isAgg31 TryI.inf31) (.e rfl (E_cu (F47_calls 0 p_Z p_Z r_1 hr_1) Try.call47 .z) (.v rfl (V_move rfl) (.v rfl (V_fe Try.underlying33 TryI.inf31) (.v rfl (V_lag (.o 5) Try.isAgg31 TryI.inf31) (.v rfl (V_fe Try.underlying33 TryI.inf31) (.v rfl (V_lag (.o 5) Try.isAgg31 TryI.inf31) (.e rfl (E_cu (F47_calls 0 q_Z q_Z r_2 hr_2) Try.call47 .z) (.c rfl (fun _ _ => (E_al32 8 TryI.inf31 TryI.zer31)) (.c rfl (fun _ _ => (E_al32 8 TryI.inf31 TryI.zer31)) .nil)))))))))))))) .nil (by kernel_rfl) rfl (fun γ => ?_)
   refine TA_cut [(7, ptr (some ((γ 13), 0)) 0), (6, ptr (some ((γ 12), 0)) 0), (40, aG [(8, e32 r_2.toList)]), (34, aG [(8, e32 r_1.toList)]), (5, vi 0), (4, ptr (some (b3, 0)) 0), (3, ptr (some (b2, 0)) 0), (2, ptr (some (b1, 0)) 0)] [⟨some ((γ 13), 0), e32 ((replicate 8 0#32).toList)⟩, ⟨some ((γ 12), 0), e32 ((replicate 8 0#32).toList)⟩, ⟨some (b3, 0), e32 ((replicate 8 0#32).toList)⟩, ⟨some (b3, 8), e32 ((replicate 8 0#32).toList)⟩, ⟨some (b3, 16), e32 ((replicate 8 0#32).toList)⟩, ⟨some (b2, 0), e32 q_X.toList⟩, ⟨some (b2, 8), e32 q_Y.toList⟩, ⟨some (b2, 16), e32 q_Z.toList⟩, ⟨some (b1, 0), e32 p_X.toList⟩, ⟨some (b1, 8), e32 p_Y.toList⟩, ⟨some (b1, 16), e32 p_Z.toList⟩] ⟨rfl, rfl, rfl, rfl, rfl, rfl, rfl, rfl, trivial⟩ rfl ?_
   generalize γ 12 = b4
   generalize γ 13 = b5
   refine TA_all (rs := [14]) (by kernel_rfl) rfl ?_
   refine ⟨?_, trivial⟩
   refine TO_n (is := []) (done' := dn 16 32767) rfl rfl rfl (by kernel_rfl) (E_sv (vs := e32 r_1.toList) 1 TryI.inf31) (fun _ _ => rfl) (fun _ => ?_)
   refine TA_all (rs := [15]) (by kernel_rfl) rfl ?_
   refine ⟨?_, trivial⟩
   refine TO_n (is := []) (done' := dn 16 65535) rfl rfl rfl (by kernel_rfl) (E_sv (vs := e32 r_2.toList) 0 TryI.inf31) (fun _ _ => rfl) (fun _ => ?_)
   refine TA_done (by kernel_rfl) ?_ 0
   refine TX_next ?_
   refine TC_seq ?_
   obtain ⟨r_3, hr_3, H⟩ := bind_elim H
   obtain ⟨r_4, hr_4, H⟩ := bind_elim H
   refine TA_begin [] 14 (by kernel_rfl) (N := 14) rfl ?_
   refine TA_mix (is := []) (done' := dn 14 4095) [itV 0 41 (vi 0) [], itV 1 42 (ptr (some (b1, 0)) 0) [], itV 2 43 (aG [(8, e32 p_X.toList)]) [1], itV 3 44 (aG [(8, e32 r_2.toList)]) [], itV 4 45 (aG [(8, e32 r_3.toList)]) [0, 2, 3], itV 5 46 (vi 0) [], itV 6 47 (ptr (some (b2, 0)) 0) [], itV 7 48 (aG [(8, e32 q_X.toList)]) [6], itV 8 49 (aG [(8, e32 r_1.toList)]) [], itV 9 50 (aG [(8, e32 r_4.toList)]) [7, 8, 5], itA32 10 8 8, itA32 11 9 8] [] 2 (by kernel_rfl) (QP.then QP.body) (by kernel_rfl) rfl (.v rfl (V_move rfl) (.v rfl (V_fe Try.underlying33 TryI.inf31) (.v rfl (V_lag (.o 8) Try.isAgg31 TryI.inf31) (.v rfl (V_lag (.o 0) Try.isAgg31 TryI.inf31) (.e rfl (E_cu (F47_calls 0 p_X r_2 r_3 hr_3) Try.call47 .z) (.v rfl (V_move rfl) (.v rfl (V_fe Try.underlying33 TryI.inf31) (.v rfl (V_lag (.o 5) Try.isAgg31 TryI.inf31) (.v rfl (V_lag (.o 1) Try.isAgg31 TryI.inf31) (.e rfl (E_cu (F47_calls 0 q_X r_1 r_4 hr_4) Try.call47 .z) (.c rfl (fun _ _ => (E_al32 8 TryI.inf31 TryI.zer31)) (.c rfl (fun _ _ => (E_al32 8 TryI.inf31 TryI.zer31)) .nil)))))))))))) .nil (by kernel_rfl) rfl (fun γ => ?_)
   refine TA_cut [(9, ptr (some ((γ 11), 0)) 0), (8, ptr (some ((γ 10), 0)) 0), (50, aG [(8, e32 r_4.toList)]), (45, aG [(8, e32 r_3.toList)]), (7, ptr (some (b5, 0)) 0), (6, ptr (some (b4, 0)) 0), (5, vi 0), (4, ptr (some (b3, 0)) 0), (3, ptr (some (b2, 0)) 0), (2, ptr (some (b1, 0)) 0)] [⟨some ((γ 11), 0), e32 ((replicate 8 0#32).toList)⟩, ⟨some ((γ 10), 0), e32 ((replicate 8 0#32).toList)⟩, ⟨some (b5, 0), e32 r_2.toList⟩, ⟨some (b4, 0), e32 r_1.toList⟩, ⟨some (b3, 0), e32 ((replicate 8 0#32).toList)⟩, ⟨some (b3, 8), e32 ((replicate 8 0#32).toList)⟩, ⟨some (b3, 16), e32 ((replicate 8 0#32).toList)⟩, ⟨some (b2, 0), e32 q_X.toList⟩, ⟨some (b2, 8), e32 q_Y.toList⟩, ⟨some (b2, 16), e32 q_Z.toList⟩, ⟨some (b1, 0), e32 p_X.toList⟩, ⟨some (b1, 8), e32 p_Y.toList⟩, ⟨some (b1, 16), e32 p_Z.toList⟩] ⟨rfl, rfl, rfl, rfl, rfl, rfl, rfl, rfl, rfl, rfl, trivial⟩ rfl ?_
   generalize γ 10 = b6
   generalize γ 11 = b7
   refine TA_all (rs := [12]) (by kernel_rfl) rfl ?_
   refine ⟨?_, trivial⟩
   refine TO_n (is := []) (done' := dn 14 8191) rfl rfl rfl (by kernel_rfl) (E_sv (vs := e32 r_3.toList) 1 TryI.inf31) (fun _ _ => rfl) (fun _ => ?_)
   refine TA_all (rs := [13]) (by kernel_rfl) rfl ?_
   refine ⟨?_, trivial⟩
   refine TO_n (is := []) (done' := dn 14 16383) rfl rfl rfl (by kernel_rfl) (E_sv (vs := e32 r_4.toList) 0 TryI.inf31) (fun _ _ => rfl) (fun _ => ?_)
   refine TA_done (by kernel_rfl) ?_ 0
   refine TX_next ?_
   refine TC_seq ?_
   obtain ⟨r_5, hr_5, H⟩ := bind_elim H
   obtain ⟨r_6, hr_6, H⟩ := bind_elim H
   obtain ⟨r_7, hr_7, H⟩ := bind_elim H
   obtain ⟨r_8, hr_8, H⟩ := bind_elim H
   refine TA_begin [] 22 (by kernel_rfl) (N := 22) rfl ?_
   refine TA_mix (is := []) (done' := dn 22 1048575) [itV 0 51 (vi 0) [], itV 1 52 (ptr (some (b1, 8)) 0) [], itV 2 53 (aG [(8, e32 p_Y.toList)]) [1], itV 3 54 (vi 0) [], itV 4 55 (ptr (some (b2, 16)) 0) [], itV 5 56 (aG [(8, e32 q_Z.toList)]) [4], itV 6 57 (aG [(8, e32 r_2.toList)]) [], itV 7 58 (aG [(8, e32 r_5.toList)]) [5, 6, 3], itV 8 59 (aG [(8, e32 r_6.toList)]) [7, 0, 2], itV 9 60 (vi 0) [], itV 10 61 (ptr (some (b2, 8)) 0) [], itV 11 62 (aG [(8, e32 q_Y.toList)]) [10], itV 12 63 (vi 0) [], itV 13 64 (ptr (some (b1, 16)) 0) [], itV 14 65 (aG [(8, e32 p_Z.toList)]) [13], itV 15 66 (aG [(8, e32 r_1.toList)]) [], itV 16 67 (aG [(8, e32 r_7.toList)]) [14, 15, 12], itV 17 68 (aG [(8, e32 r_8.toList)]) [16, 9, 11], itA32 18 10 8, itA32 19 11 8] [] 2 (by kernel_rfl) (QP.then QP.body) (by kernel_rfl) rfl (.v rfl (V_move rfl) (.v rfl (V_fe Try.underlying33 TryI.inf31) (.v rfl (V_lag (.o 11) Try.isAgg31 TryI.inf31) (.v rfl (V_move rfl) (.v rfl (V_fe Try.underlying33 TryI.inf31) (.v rfl (V_lag (.o 9) Try.isAgg31 TryI.inf31) (.v rfl (V_lag (.o 2) Try.isAgg31 TryI.inf31) (.e rfl (E_cu (F47_calls 0 q_Z r_2 r_5 hr_5) Try.call47 .z) (.e rfl (E_cu (F47_calls 0 p_Y r_5 r_6 hr_6) Try.call47 .z) (.v rfl (V_move rfl) (.v rfl (V_fe Try.underlying33 TryI.inf31) (.v rfl (V_lag (.o 8) Try.isAgg31 TryI.inf31) (.v rfl (V_move rfl) (.v rfl (V_fe Try.underlying33 TryI.inf31) (.v rfl (V_lag (.o 12) Try.isAgg31 TryI.inf31) (.v rfl (V_lag (.o 3) Try.isAgg31 TryI.inf31) (.e rfl (E_cu (F47_calls 0 p_Z r_1 r_7 hr_7) Try.call47 .z) (.e rfl (E_cu (F47_calls 0 q_Y r_7 r_8 hr_8) Try.call47 .z) (.c rfl (fun _ _ => (E_al32 8 TryI.inf31 TryI.zer31)) (.c rfl (fun _ _ => (E_al32 8 TryI.inf31 TryI.zer31)) .nil)))))))))))))))))))) .nil (by kernel_rfl) rfl (fun γ => ?_)
   refine TA_cut [(11, ptr (some ((γ 19), 0)) 0), (10, ptr (some ((γ 18), 0)) 0), (68, aG [(8, e32 r_8.toList)]), (59, aG [(8, e32 r_6.toList)]), (9, ptr (some (b7, 0)) 0), (8, ptr (some (b6, 0)) 0), (5, vi 0), (4, ptr (some (b3, 0)) 0), (3, ptr (some (b2, 0)) 0), (2, ptr (some (b1, 0)) 0)] [⟨some ((γ 19), 0), e32 ((replicate 8 0#32).toList)⟩, ⟨some ((γ 18), 0), e32 ((replicate 8 0#32).toList)⟩, ⟨some (b7, 0), e32 r_4.toList⟩, ⟨some (b6, 0), e32 r_3.toList⟩, ⟨some (b5, 0), e32 r_2.toList⟩, ⟨some (b4, 0), e32 r_1.toList⟩, ⟨some (b3, 0), e32 ((replicate 8 0#32).toList)⟩, ⟨some (b3, 8), e32 ((replicate 8 0#32).toList)⟩, ⟨some (b3, 16), e32 ((replicate 8 0#32).toList)⟩, ⟨some (b2, 0), e32 q_X.toList⟩, ⟨some (b2, 8), e32 q_Y.toList⟩, ⟨some (b2, 16), e32 q_Z.toList⟩, ⟨some (b1, 0), e32 p_X.toList⟩, ⟨some (b1, 8), e32 p_Y.toList⟩, ⟨some (b1, 16), e32 p_Z.toList⟩] ⟨rfl, rfl, rfl, rfl, rfl, rfl, rfl, rfl, rfl, rfl, trivial⟩ rfl ?_
   generalize γ 18 = b8
   generalize γ 19 = b9
   refine TA_all (rs := [20]) (by kernel_rfl) rfl ?_
   refine ⟨?_, trivial⟩
   refine TO_n (is := []) (done' := dn 22 2097151) rfl rfl rfl (by kernel_rfl) (E_sv (vs := e32 r_6.toList) 1 TryI.inf31) (fun _ _ => rfl) (fun _ => ?_)
   refine TA_all (rs := [21]) (by kernel_rfl) rfl ?_
   refine ⟨?_, trivial⟩
   refine TO_n (is := []) (done' := dn 22 4194303) rfl rfl rfl (by kernel_rfl) (E_sv (vs := e32 r_8.toList) 0 TryI.inf31) (fun _ _ => rfl) (fun _ => ?_)
   refine TA_done (by kernel_rfl) ?_ 0
   refine TX_next ?_
   refine TC_seq ?_
   obtain ⟨r_9, hr_9, H⟩ := bind_elim H
   obtain ⟨r_10, hr_10, H⟩ := bind_elim H
   refine TA_begin [] 12 (by kernel_rfl) (N := 12) rfl ?_
   refine TA_mix (is := []) (done' := dn 12 1023) [itV 0 69 (vi 0) [], itV 1 70 (aG [(8, e32 r_4.toList)]) [], itV 2 71 (aG [(8, e32 r_3.toList)]) [], itV 3 72 (aG [(8, e32 r_9.toList)]) [0, 1, 2], itV 4 73 (vi 0) [], itV 5 74 (aG [(8, e32 r_8.toList)]) [], itV 6 75 (aG [(8, e32 r_6.toList)]) [], itV 7 76 (aG [(8, e32 r_10.toList)]) [4, 5, 6], itA32 8 12 8, itA32 9 13 8] [] 2 (by kernel_rfl) (QP.then QP.body) (by kernel_rfl) rfl (.v rfl (V_move rfl) (.v rfl (V_lag (.o 2) Try.isAgg31 TryI.inf31) (.v rfl (V_lag (.o 3) Try.isAgg31 TryI.inf31) (.e rfl (E_cu (F49_calls 0 r_4 r_3 r_9 hr_9) Try.call49 .z) (.v rfl (V_move rfl) (.v rfl (V_lag (.o 0) Try.isAgg31 TryI.inf31) (.v rfl (V_lag (.o 1) Try.isAgg31 TryI.inf31) (.e rfl (E_cu (F49_calls 0 r_8 r_6 r_10 hr_10) Try.call49 .z) (.c rfl (fun _ _ => (E_al32 8 TryI.inf31 TryI.zer31)) (.c rfl (fun _ _ => (E_al32 8 TryI.inf31 TryI.zer31)) .nil)))))))))) .nil (by kernel_rfl) rfl (fun γ => ?_)
   refine TA_cut [(13, ptr (some ((γ 9), 0)) 0), (12, ptr (some ((γ 8), 0)) 0), (76, aG [(8, e32 r_10.toList)]), (72, aG [(8, e32 r_9.toList)]), (10, ptr (some (b8, 0)) 0), (8, ptr (some (b6, 0)) 0), (5, vi 0), (4, ptr (some (b3, 0)) 0), (3, ptr (some (b2, 0)) 0), (2, ptr (some (b1, 0)) 0)] [⟨some ((γ 9), 0), e32 ((replicate 8 0#32).toList)⟩, ⟨some ((γ 8), 0), e32 ((replicate 8 0#32).toList)⟩, ⟨some (b9, 0), e32 r_8.toList⟩, ⟨some (b8, 0), e32 r_6.toList⟩, ⟨some (b7, 0), e32 r_4.toList⟩, ⟨some (b6, 0), e32 r_3.toList⟩, ⟨some (b5, 0), e32 r_2.toList⟩, ⟨some (b4, 0), e32 r_1.toList⟩, ⟨some (b3, 0), e32 ((replicate 8 0#32).toList)⟩, ⟨some (b3, 8), e32 ((replicate 8 0#32).toList)⟩, ⟨some (b3, 16), e32 ((replicate 8 0#32).toList)⟩, ⟨some (b2, 0), e32 q_X.toList⟩, ⟨some (b2, 8), e32 q_Y.toList⟩, ⟨some (b2, 16), e32 q_Z.toList⟩, ⟨some (b1, 0), e32 p_X.toList⟩, ⟨some (b1, 8), e32 p_Y.toList⟩, ⟨some (b1, 16), e32 p_Z.toList⟩] ⟨rfl, rfl, rfl, rfl, rfl, rfl, rfl, rfl, rfl, rfl, trivial⟩ rfl ?_
   generalize γ 8 = b10
   generalize γ 9 = b11
   refine TA_all (rs := [10]) (by kernel_rfl) rfl ?_
   refine ⟨?_, trivial⟩
   refine TO_n (is := []) (done' := dn 12 2047) rfl rfl rfl (by kernel_rfl) (E_sv (vs := e32 r_9.toList) 1 TryI.inf31) (fun _ _ => rfl) (fun _ => ?_)
   refine TA_all (rs := [11]) (by kernel_rfl) rfl ?_
   refine ⟨?_, trivial⟩
   refine TO_n (is := []) (done' := dn 12 4095) rfl rfl rfl (by kernel_rfl) (E_sv (vs := e32 r_10.toList) 0 TryI.inf31) (fun _ _ => rfl) (fun _ => ?_)
   refine TA_done (by kernel_rfl) ?_ 0
   refine TX_next ?_
   refine TC_seq ?_
   refine TC_seq ?_
   refine TC_region ?_
   refine TLv (V_lag (.o 1) Try.isAgg31 TryI.inf31) ?_
   refine TLv (V_buildArr (pv := []) rfl rfl Try.underlying31 TryI.inf31 TryI.inf29 rfl TryI.zer31 (cs := e32 ((replicate 8 0#32 : Vx 32 8).toList)) (by kernel_rfl)) ?_
   refine TLv (V_bin rfl rfl (fun w => eqlA32 w Try.underlying31 Try.underlying29 (by kernel_rfl) (by kernel_rfl) r_9 (replicate 8 0#32 : Vx 32 8))) ?_
   refine TL_nil ?_
   refine TX_next ?_
   refine TC_cond (b := (decide (r_9 = (replicate 8 0#32 : Vx 32 8)))) rfl (fun hc => ?_) (fun hc => ?_)
   ·replace H := ite_t (of_decide_eq_true hc) H
    refine TC_seq ?_
    refine TC_seq ?_
    refine TC_region ?_
    refine TLv (V_lag (.o 0) Try.isAgg31 TryI.inf31) ?_
    refine TLv (V_buildArr (pv := []) rfl rfl Try.underlying31 TryI.inf31 TryI.inf29 rfl TryI.zer31 (cs := e32 ((replicate 8 0#32 : Vx 32 8).toList)) (by kernel_rfl)) ?_
    refine TLv (V_bin rfl rfl (fun w => eqlA32 w Try.underlying31 Try.underlying29 (by kernel_rfl) (by kernel_rfl) r_10 (replicate 8 0#32 : Vx 32 8))) ?_
    refine TL_nil ?_
    refine TX_next ?_
    refine TC_cond (b := (decide (r_10 = (replicate 8 0#32 : Vx 32 8)))) rfl (fun hc => ?_) (fun hc => ?_)
    ·replace H := ite_t (of_decide_eq_true hc) H
     refine TC_seq ?_
     refine TC_region ?_
     refine TLv (V_loadAgg (n := 24) (cs := flat [(8, e32 p_X.toList), (8, e32 p_Y.toList), (8, e32 p_Z.toList)]) rfl (by simp) (SrcEnts (b := b1) [(8, e32 p_X.toList), (8, e32 p_Y.toList), (8, e32 p_Z.toList)] 0 ⟨(lenV (f := v32) p_X), (lenV (f := v32) p_Y), (lenV (f := v32) p_Z), trivial⟩ (AllSrc.all (M := ents b1 0 [(8, e32 p_X.toList), (8, e32 p_Y.toList), (8, e32 p_Z.toList)]) ⟨Src.own (j := 14) rfl, Src.own (j := 15) rfl, Src.own (j := 16) rfl, trivial⟩)) Try.isAgg33 TryI.inf33 rfl (flat_len ⟨(lenV (f := v32) p_X), (lenV (f := v32) p_Y), (lenV (f := v32) p_Z), trivial⟩ rfl)) ?_
     obtain ⟨r_11, hr_11, H⟩ := bind_elim H
     refine TLe (E_c0 (F76_calls p_X p_Y p_Z r_11 hr_11) Try.call76 .z) (fun g_11 => ?_)
     refine TLn (E_sp (b := b3) (o := 0) [8, 8, 8] [(8, e32 ((replicate 8 0#32).toList)), (8, e32 ((replicate 8 0#32).toList)), (8, e32 ((replicate 8 0#32).toList))] [(8, e32 r_11.1.toList), (8, e32 r_11.2.1.toList), (8, e32 r_11.2.2.toList)] rfl TryI.inf33 ⟨(lenV (f := v32) (replicate 8 0#32)), (lenV (f := v32) (replicate 8 0#32)), (lenV (f := v32) (replicate 8 0#32)), trivial⟩ ⟨(lenV (f := v32) r_11.1), (lenV (f := v32) r_11.2.1), (lenV (f := v32) r_11.2.2), trivial⟩ ⟨(OneC.map (fun _ => rfl) _), (OneC.map (fun _ => rfl) _), (OneC.map (fun _ => rfl) _), trivial⟩) (fun _ => ?_)
     refine TL_nil ?_
     refine TX_next ?_
     refine TC_ret ?_
     refine TX_then_ret ?_
     refine TX_then_ret ?_
     have hrv := Option.some.inj H
     subst hrv
     exact TX_ret (rs := [.cell 4 33]) (vs := [aG [(8, e32 r_11.1.toList), (8, e32 r_11.2.1.toList), (8, e32 r_11.2.2.toList)]]) rfl ⟨(Res_agg (n := 24) (cs := flat [(8, e32 r_11.1.toList), (8, e32 r_11.2.1.toList), (8, e32 r_11.2.2.toList)]) rfl (by simp) (SrcEnts (b := b3) [(8, e32 r_11.1.toList), (8, e32 r_11.2.1.toList), (8, e32 r_11.2.2.toList)] 0 ⟨(lenV (f := v32) r_11.1), (lenV (f := v32) r_11.2.1), (lenV (f := v32) r_11.2.2), trivial⟩ (AllSrc.all (M := ents b3 0 [(8, e32 r_11.1.toList), (8, e32 r_11.2.1.toList), (8, e32 r_11.2.2.toList)]) ⟨Src.own (j := 0) rfl, Src.own (j := 1) rfl, Src.own (j := 2) rfl, trivial⟩)) Try.isAgg33 TryI.inf33 rfl (by simp [flat])), trivial⟩ (fun w' hs' => ⟨(), rfl, Step.left (Step.pulled (is := []) (A := []) hs' rfl)⟩)
    ·replace H := ite_f (of_decide_eq_false hc) H
     refine TC_skip ?_
     refine TX_next ?_
     refine TC_seq ?_
     refine TC_region ?_
     refine TLv (V_buildStruct (pv := []) (pl := [(0, 8), (8, 8), (16, 8)]) rfl rfl Try.underlying33 TryI.inf33 TryI.places33 TryI.zer33 (cs := flat [(8, e32 ((replicate 8 0#32).toList)), (8, e32 ((replicate 8 0#32).toList)), (8, e32 ((replicate 8 0#32).toList))]) fill_end) ?_
     refine TLn (E_sp (b := b3) (o := 0) [8, 8, 8] [(8, e32 ((replicate 8 0#32).toList)), (8, e32 ((replicate 8 0#32).toList)), (8, e32 ((replicate 8 0#32).toList))] [(8, e32 ((replicate 8 0#32).toList)), (8, e32 ((replicate 8 0#32).toList)), (8, e32 ((replicate 8 0#32).toList))] rfl TryI.inf33 ⟨(lenV (f := v32) (replicate 8 0#32)), (lenV (f := v32) (replicate 8 0#32)), (lenV (f := v32) (replicate 8 0#32)), trivial⟩ ⟨(lenV (f := v32) (replicate 8 0#32)), (lenV (f := v32) (replicate 8 0#32)), (lenV (f := v32) (replicate 8 0#32)), trivial⟩ ⟨(OneC.map (fun _ => rfl) _), (OneC.map (fun _ => rfl) _), (OneC.map (fun _ => rfl) _), trivial⟩) (fun _ => ?_)
     refine TL_nil ?_
     refine TX_next ?_
     refine TC_ret ?_
     refine TX_then_ret ?_
     have hrv := Option.some.inj H
     subst hrv
     exact TX_ret (rs := [.cell 4 33]) (vs := [aG [(8, e32 ((replicate 8 0#32).toList)), (8, e32 ((replicate 8 0#32).toList)), (8, e32 ((replicate 8 0#32).toList))]]) rfl ⟨(Res_agg (n := 24) (cs := flat [(8, e32 ((replicate 8 0#32).toList)), (8, e32 ((replicate 8 0#32).toList)), (8, e32 ((replicate 8 0#32).toList))]) rfl (by simp) (SrcEnts (b := b3) [(8, e32 ((replicate 8 0#32).toList)), (8, e32 ((replicate 8 0#32).toList)), (8, e32 ((replicate 8 0#32).toList))] 0 ⟨(lenV (f := v32) (replicate 8 0#32)), (lenV (f := v32) (replicate 8 0#32)), (lenV (f := v32) (replicate 8 0#32)), trivial⟩ (AllSrc.all (M := ents b3 0 [(8, e32 ((replicate 8 0#32).toList)), (8, e32 ((replicate 8 0#32).toList)), (8, e32 ((replicate 8 0#32).toList))]) ⟨Src.own (j := 0) rfl, Src.own (j := 1) rfl, Src.own (j := 2) rfl, trivial⟩)) Try.isAgg33 TryI.inf33 rfl (by simp [flat])), trivial⟩ (fun w' hs' => ⟨(), rfl, Step.left (Step.pulled (is := []) (A := []) hs' rfl)⟩)
   ·replace H := ite_f (of_decide_eq_false hc) H
    refine TC_skip ?_
    refine TX_next ?_
    refine TC_seq ?_
    refine TC_region ?_
    refine TLv (V_move rfl) ?_
    refine TLv (V_lag (.o 1) Try.isAgg31 TryI.inf31) ?_
    refine TLv (V_lag (.o 1) Try.isAgg31 TryI.inf31) ?_
    obtain ⟨r_12, hr_12, H⟩ := bind_elim H
    refine TLe (E_c0 (F47_calls 0 r_9 r_9 r_12 hr_12) Try.call47 .z) (fun g_12 => ?_)
    refine TLe (E_al32 8 TryI.inf31 TryI.zer31) (fun b12 => ?_)
    refine TLn (E_sv (vs := e32 r_12.toList) 0 TryI.inf31) (fun _ => ?_)
    refine TL_nil ?_
    refine TX_next ?_
    refine TC_seq ?_
    refine TC_region ?_
    refine TLv (V_move rfl) ?_
    refine TLv (V_lag (.o 2) Try.isAgg31 TryI.inf31) ?_
    refine TLv (V_lag (.o 0) Try.isAgg31 TryI.inf31) ?_
    obtain ⟨r_13, hr_13, H⟩ := bind_elim H
    refine TLe (E_c0 (F47_calls 0 r_9 r_12 r_13 hr_13) Try.call47 .z) (fun g_13 => ?_)
    refine TLe (E_al32 8 TryI.inf31 TryI.zer31) (fun b13 => ?_)
    refine TLn (E_sv (vs := e32 r_13.toList) 0 TryI.inf31) (fun _ => ?_)
    refine TL_nil ?_
    refine TX_next ?_
    refine TC.sub (m' := [(2, ptr (some (b1, 0)) 0), (3, ptr (some (b2, 0)) 0), (4, ptr (some (b3, 0)) 0), (5, vi 0), (8, ptr (some (b6, 0)) 0), (10, ptr (some (b8, 0)) 0), (12, ptr (some (b10, 0)) 0), (13, ptr (some (b11, 0)) 0), (14, ptr (some (b12, 0)) 0), (15, ptr (some (b13, 0)) 0)]) ⟨rfl, rfl, rfl, rfl, rfl, rfl, rfl, rfl, rfl, rfl, trivial⟩ ?_
    refine TC.pull (is := [16, 16, 16, 13, 13, 13, 10, 10, 10, 7, 5, 3, 2, 1, 0]) (L' := [⟨some (b1, 0), e32 p_X.toList⟩, ⟨some (b1, 8), e32 p_Y.toList⟩, ⟨some (b1, 16), e32 p_Z.toList⟩, ⟨some (b2, 0), e32 q_X.toList⟩, ⟨some (b2, 8), e32 q_Y.toList⟩, ⟨some (b2, 16), e32 q_Z.toList⟩, ⟨some (b3, 0), e32 ((replicate 8 0#32).toList)⟩, ⟨some (b3, 8), e32 ((replicate 8 0#32).toList)⟩, ⟨some (b3, 16), e32 ((replicate 8 0#32).toList)⟩, ⟨some (b6, 0), e32 r_3.toList⟩, ⟨some (b8, 0), e32 r_6.toList⟩, ⟨some (b10, 0), e32 r_9.toList⟩, ⟨some (b11, 0), e32 r_10.toList⟩, ⟨some (b12, 0), e32 r_12.toList⟩, ⟨some (b13, 0), e32 r_13.toList⟩]) rfl ?_
    refine TC_seq ?_
    refine TC_region ?_
    refine TLv (V_move rfl) ?_
    refine TLv (V_lag (.o 9) Try.isAgg31 TryI.inf31) ?_
    refine TLv (V_lag (.o 13) Try.isAgg31 TryI.inf31) ?_
    obtain ⟨r_14, hr_14, H⟩ := bind_elim H
    refine TLe (E_c0 (F47_calls 0 r_3 r_12 r_14 hr_14) Try.call47 .z) (fun g_14 => ?_)
    refine TLe (E_al32 8 TryI.inf31 TryI.zer31) (fun b14 => ?_)
    refine TLn (E_sv (vs := e32 r_14.toList) 0 TryI.inf31) (fun _ => ?_)
    refine TL_nil ?_
    refine TX_next ?_
    refine TC_seq ?_
    obtain ⟨r_15, hr_15, H⟩ := bind_elim H
    obtain ⟨r_16, hr_16, H⟩ := bind_elim H
    obtain ⟨r_17, hr_17, H⟩ := bind_elim H
    obtain ⟨r_18, hr_18, H⟩ := bind_elim H
    refine TA_begin [] 15 (by kernel_rfl) (N := 15) rfl ?_
    refine TA_mix (is := []) (done' := dn 15 16383) [itV 0 98 (vi 0) [], itV 1 99 (vi 0) [], itV 2 100 (vi 0) [], itV 3 101 (aG [(8, e32 r_10.toList)]) [], itV 4 102 (aG [(8, e32 r_10.toList)]) [], itV 5 103 (aG [(8, e32 r_15.toList)]) [2, 3, 4], itV 6 104 (aG [(8, e32 r_13.toList)]) [], itV 7 105 (aG [(8, e32 r_16.toList)]) [6, 1, 5], itV 8 106 (vi 0) [], itV 9 107 (aG [(8, e32 r_14.toList)]) [], itV 10 108 (aG [(8, e32 r_14.toList)]) [], itV 11 109 (aG [(8, e32 r_17.toList)]) [8, 9, 10], itV 12 110 (aG [(8, e32 r_18.toList)]) [7, 0, 11], itA32 13 17 8] [] 1 (by kernel_rfl) (QP.then QP.body) (by kernel_rfl) rfl (.v rfl (V_move rfl) (.v rfl (V_move rfl) (.v rfl (V_move rfl) (.v rfl (V_lag (.o 13) Try.isAgg31 TryI.inf31) (.v rfl (V_lag (.o 13) Try.isAgg31 TryI.inf31) (.e rfl (E_cu (F47_calls 0 r_10 r_10 r_15 hr_15) Try.call47 .z) (.v rfl (V_lag (.o 15) Try.isAgg31 TryI.inf31) (.e rfl (E_cu (F49_calls 0 r_15 r_13 r_16 hr_16) Try.call49 .z) (.v rfl (V_move rfl) (.v rfl (V_lag (.o 0) Try.isAgg31 TryI.inf31) (.v rfl (V_lag (.o 0) Try.isAgg31 TryI.inf31) (.e rfl (E_cu (F48_calls 0 r_14 r_14 r_17 hr_17) Try.call48 .z) (.e rfl (E_cu (F49_calls 0 r_16 r_17 r_18 hr_18) Try.call49 .z) (.c rfl (fun _ _ => (E_al32 8 TryI.inf31 TryI.zer31)) .nil)))))))))))))) .nil (by kernel_rfl) rfl (fun γ => ?_)
    refine TA_cut [(17, ptr (some ((γ 13), 0)) 0), (110, aG [(8, e32 r_18.toList)]), (16, ptr (some (b14, 0)) 0), (2, ptr (some (b1, 0)) 0), (3, ptr (some (b2, 0)) 0), (4, ptr (some (b3, 0)) 0), (5, vi 0), (10, ptr (some (b8, 0)) 0), (12, ptr (some (b10, 0)) 0), (13, ptr (some (b11, 0)) 0), (15, ptr (some (b13, 0)) 0)] [⟨some ((γ 13), 0), e32 ((replicate 8 0#32).toList)⟩, ⟨some (b14, 0), e32 r_14.toList⟩, ⟨some (b1, 0), e32 p_X.toList⟩, ⟨some (b1, 8), e32 p_Y.toList⟩, ⟨some (b1, 16), e32 p_Z.toList⟩, ⟨some (b2, 0), e32 q_X.toList⟩, ⟨some (b2, 8), e32 q_Y.toList⟩, ⟨some (b2, 16), e32 q_Z.toList⟩, ⟨some (b3, 0), e32 ((replicate 8 0#32).toList)⟩, ⟨some (b3, 8), e32 ((replicate 8 0#32).toList)⟩, ⟨some (b3, 16), e32 ((replicate 8 0#32).toList)⟩, ⟨some (b6, 0), e32 r_3.toList⟩, ⟨some (b8, 0), e32 r_6.toList⟩, ⟨some (b10, 0), e32 r_9.toList⟩, ⟨some (b11, 0), e32 r_10.toList⟩, ⟨some (b12, 0), e32 r_12.toList⟩, ⟨some (b13, 0), e32 r_13.toList⟩] ⟨rfl, rfl, rfl, rfl, rfl, rfl, rfl, rfl, rfl, rfl, rfl, trivial⟩ rfl ?_
    generalize γ 13 = b15
    refine TA_all (rs := [14]) (by kernel_rfl) rfl ?_
    refine ⟨?_, trivial⟩
    refine TO_n (is := []) (done' := dn 15 32767) rfl rfl rfl (by kernel_rfl) (E_sv (vs := e32 r_18.toList) 0 TryI.inf31) (fun _ _ => rfl) (fun _ => ?_)
    refine TA_done (by kernel_rfl) ?_ 0
    refine TX_next ?_
    refine TC_seq ?_
    obtain ⟨r_19, hr_19, H⟩ := bind_elim H
    obtain ⟨r_20, hr_20, H⟩ := bind_elim H
    obtain ⟨r_21, hr_21, H⟩ := bind_elim H
    obtain ⟨r_22, hr_22, H⟩ := bind_elim H
    refine TA_begin [] 15 (by kernel_rfl) (N := 15) rfl ?_
    refine TA_mix (is := []) (done' := dn 15 16383) [itV 0 111 (vi 0) [], itV 1 112 (vi 0) [], itV 2 113 (aG [(8, e32 r_10.toList)]) [], itV 3 114 (vi 0) [], itV 4 115 (aG [(8, e32 r_14.toList)]) [], itV 5 116 (aG [(8, e32 r_18.toList)]) [], itV 6 117 (aG [(8, e32 r_19.toList)]) [3, 4, 5], itV 7 118 (aG [(8, e32 r_20.toList)]) [1, 2, 6], itV 8 119 (vi 0) [], itV 9 120 (aG [(8, e32 r_6.toList)]) [], itV 10 121 (aG [(8, e32 r_13.toList)]) [], itV 11 122 (aG [(8, e32 r_21.toList)]) [9, 10, 8], itV 12 123 (aG [(8, e32 r_22.toList)]) [11, 7, 0], itA32 13 18 8] [] 1 (by kernel_rfl) (QP.then QP.body) (by kernel_rfl) rfl (.v rfl (V_move rfl) (.v rfl (V_move rfl) (.v rfl (V_lag (.o 14) Try.isAgg31 TryI.inf31) (.v rfl (V_move rfl) (.v rfl (V_lag (.o 1) Try.isAgg31 TryI.inf31) (.v rfl (V_lag (.o 0) Try.isAgg31 TryI.inf31) (.e rfl (E_cu (F49_calls 0 r_14 r_18 r_19 hr_19) Try.call49 .z) (.e rfl (E_cu (F47_calls 0 r_10 r_19 r_20 hr_20) Try.call47 .z) (.v rfl (V_move rfl) (.v rfl (V_lag (.o 12) Try.isAgg31 TryI.inf31) (.v rfl (V_lag (.o 16) Try.isAgg31 TryI.inf31) (.e rfl (E_cu (F47_calls 0 r_6 r_13 r_21 hr_21) Try.call47 .z) (.e rfl (E_cu (F49_calls 0 r_20 r_21 r_22 hr_22) Try.call49 .z) (.c rfl (fun _ _ => (E_al32 8 TryI.inf31 TryI.zer31)) .nil)))))))))))))) .nil (by kernel_rfl) rfl (fun γ => ?_)
    refine TA_cut [(18, ptr (some ((γ 13), 0)) 0), (123, aG [(8, e32 r_22.toList)]), (17, ptr (some (b15, 0)) 0), (2, ptr (some (b1, 0)) 0), (3, ptr (some (b2, 0)) 0), (4, ptr (some (b3, 0)) 0), (5, vi 0), (12, ptr (some (b10, 0)) 0)] [⟨some ((γ 13), 0), e32 ((replicate 8 0#32).toList)⟩, ⟨some (b15, 0), e32 r_18.toList⟩, ⟨some (b14, 0), e32 r_14.toList⟩, ⟨some (b1, 0), e32 p_X.toList⟩, ⟨some (b1, 8), e32 p_Y.toList⟩, ⟨some (b1, 16), e32 p_Z.toList⟩, ⟨some (b2, 0), e32 q_X.toList⟩, ⟨some (b2, 8), e32 q_Y.toList⟩, ⟨some (b2, 16), e32 q_Z.toList⟩, ⟨some (b3, 0), e32 ((replicate 8 0#32).toList)⟩, ⟨some (b3, 8), e32 ((replicate 8 0#32).toList)⟩, ⟨some (b3, 16), e32 ((replicate 8 0#32).toList)⟩, ⟨some (b6, 0), e32 r_3.toList⟩, ⟨some (b8, 0), e32 r_6.toList⟩, ⟨some (b10, 0), e32 r_9.toList⟩, ⟨some (b11, 0), e32 r_10.toList⟩, ⟨some (b12, 0), e32 r_12.toList⟩, ⟨some (b13, 0), e32 r_13.toList⟩] ⟨rfl, rfl, rfl, rfl, rfl, rfl, rfl, rfl, trivial⟩ rfl ?_
    generalize γ 13 = b16
    refine TA_all (rs := [14]) (by kernel_rfl) rfl ?_
    refine ⟨?_, trivial⟩
    refine TO_n (is := []) (done' := dn 15 32767) rfl rfl rfl (by kernel_rfl) (E_sv (vs := e32 r_22.toList) 0 TryI.inf31) (fun _ _ => rfl) (fun _ => ?_)
    refine TA_done (by kernel_rfl) ?_ 0
    refine TX_next ?_
    refine TC_seq ?_
    obtain ⟨r_23, hr_23, H⟩ := bind_elim H
    obtain ⟨r_24, hr_24, H⟩ := bind_elim H
    refine TA_begin [] 13 (by kernel_rfl) (N := 13) rfl ?_
    refine TA_mix (is := []) (done' := dn 13 4095) [itV 0 124 (aG [(8, e32 r_18.toList)]) [], itV 1 125 (aG [(8, e32 r_22.toList)]) [], itV 2 126 (vi 0) [], itV 3 127 (aG [(8, e32 r_9.toList)]) [], itV 4 128 (vi 0) [], itV 5 129 (ptr (some (b1, 16)) 0) [], itV 6 130 (aG [(8, e32 p_Z.toList)]) [5], itV 7 131 (ptr (some (b2, 16)) 0) [], itV 8 132 (aG [(8, e32 q_Z.toList)]) [7], itV 9 133 (aG [(8, e32 r_23.toList)]) [4, 6, 8], itV 10 134 (aG [(8, e32 r_24.toList)]) [9, 2, 3], itV 11 135 (aG [(8, e32 r_18.toList), (8, e32 r_22.toList), (8, e32 r_24.toList)]) [0, 1, 10]] [] 1 (by kernel_rfl) (QP.then QP.body) (by kernel_rfl) rfl (.v rfl (V_lag (.o 1) Try.isAgg31 TryI.inf31) (.v rfl (V_lag (.o 0) Try.isAgg31 TryI.inf31) (.v rfl (V_move rfl) (.v rfl (V_lag (.o 14) Try.isAgg31 TryI.inf31) (.v rfl (V_move rfl) (.v rfl (V_fe Try.underlying33 TryI.inf31) (.v rfl (V_lag (.o 5) Try.isAgg31 TryI.inf31) (.v rfl (V_fe Try.underlying33 TryI.inf31) (.v rfl (V_lag (.o 8) Try.isAgg31 TryI.inf31) (.e rfl (E_cu (F47_calls 0 p_Z q_Z r_23 hr_23) Try.call47 .z) (.e rfl (E_cu (F47_calls 0 r_9 r_23 r_24 hr_24) Try.call47 .z) (.v rfl (V_buildStruct (pv := [(0, aG [(8, e32 r_18.toList)]), (1, aG [(8, e32 r_22.toList)]), (2, aG [(8, e32 r_24.toList)])]) (pl := [(0, 8), (8, 8), (16, 8)]) rfl rfl Try.underlying33 TryI.inf33 TryI.places33 TryI.zer33 (cs := flat [(8, e32 r_18.toList), (8, e32 r_22.toList), (8, e32 r_24.toList)]) (fill_part [] [(8, e32 ((replicate 8 0#32).toList)), (8, e32 ((replicate 8 0#32).toList))] rfl rfl trivial rfl (lenV (f := v32) (replicate 8 0#32)) (lenV (f := v32) r_18) (fill_part [(8, e32 r_18.toList)] [(8, e32 ((replicate 8 0#32).toList))] rfl rfl ⟨(lenV (f := v32) r_18), trivial⟩ rfl (lenV (f := v32) (replicate 8 0#32)) (lenV (f := v32) r_22) (fill_part [(8, e32 r_18.toList), (8, e32 r_22.toList)] [] rfl rfl ⟨(lenV (f := v32) r_18), (lenV (f := v32) r_22), trivial⟩ rfl (lenV (f := v32) (replicate 8 0#32)) (lenV (f := v32) r_24) fill_end)))) .nil)))))))))))) .nil (by kernel_rfl) rfl (fun γ => ?_)
    refine TA_cut [(135, aG [(8, e32 r_18.toList), (8, e32 r_22.toList), (8, e32 r_24.toList)]), (4, ptr (some (b3, 0)) 0)] [⟨some (b16, 0), e32 r_22.toList⟩, ⟨some (b15, 0), e32 r_18.toList⟩, ⟨some (b14, 0), e32 r_14.toList⟩, ⟨some (b1, 0), e32 p_X.toList⟩, ⟨some (b1, 8), e32 p_Y.toList⟩, ⟨some (b1, 16), e32 p_Z.toList⟩, ⟨some (b2, 0), e32 q_X.toList⟩, ⟨some (b2, 8), e32 q_Y.toList⟩, ⟨some (b2, 16), e32 q_Z.toList⟩, ⟨some (b3, 0), e32 ((replicate 8 0#32).toList)⟩, ⟨some (b3, 8), e32 ((replicate 8 0#32).toList)⟩, ⟨some (b3, 16), e32 ((replicate 8 0#32).toList)⟩, ⟨some (b6, 0), e32 r_3.toList⟩, ⟨some (b8, 0), e32 r_6.toList⟩, ⟨some (b10, 0), e32 r_9.toList⟩, ⟨some (b11, 0), e32 r_10.toList⟩, ⟨some (b12, 0), e32 r_12.toList⟩, ⟨some (b13, 0), e32 r_13.toList⟩] ⟨rfl, rfl, trivial⟩ rfl ?_
    refine TA_all (rs := [12]) (by kernel_rfl) rfl ?_
    refine ⟨?_, trivial⟩
    refine TO_n (is := []) (done' := dn 13 8191) rfl rfl rfl (by kernel_rfl) (E_sp (b := b3) (o := 0) [9, 9, 9] [(8, e32 ((replicate 8 0#32).toList)), (8, e32 ((replicate 8 0#32).toList)), (8, e32 ((replicate 8 0#32).toList))] [(8, e32 r_18.toList), (8, e32 r_22.toList), (8, e32 r_24.toList)] rfl TryI.inf33 ⟨(lenV (f := v32) (replicate 8 0#32)), (lenV (f := v32) (replicate 8 0#32)), (lenV (f := v32) (replicate 8 0#32)), trivial⟩ ⟨(lenV (f := v32) r_18), (lenV (f := v32) r_22), (lenV (f := v32) r_24), trivial⟩ ⟨(OneC.map (fun _ => rfl) _), (OneC.map (fun _ => rfl) _), (OneC.map (fun _ => rfl) _), trivial⟩) (fun _ _ => rfl) (fun _ => ?_)
    refine TA_done (by kernel_rfl) ?_ 0
    refine TX_next ?_
    refine TC_ret ?_
    have hrv := Option.some.inj H
    subst hrv
    exact TX_ret (rs := [.cell 4 33]) (vs := [aG [(8, e32 r_18.toList), (8, e32 r_22.toList), (8, e32 r_24.toList)]]) rfl ⟨(Res_agg (n := 24) (cs := flat [(8, e32 r_18.toList), (8, e32 r_22.toList), (8, e32 r_24.toList)]) rfl (by simp) (SrcEnts (b := b3) [(8, e32 r_18.toList), (8, e32 r_22.toList), (8, e32 r_24.toList)] 0 ⟨(lenV (f := v32) r_18), (lenV (f := v32) r_22), (lenV (f := v32) r_24), trivial⟩ (AllSrc.all (M := ents b3 0 [(8, e32 r_18.toList), (8, e32 r_22.toList), (8, e32 r_24.toList)]) ⟨Src.own (j := 0) rfl, Src.own (j := 1) rfl, Src.own (j := 2) rfl, trivial⟩)) Try.isAgg33 TryI.inf33 rfl (by simp [flat])), trivial⟩ (fun w' hs' => ⟨(), rfl, Step.left (Step.pulled (is := []) (A := []) hs' rfl)⟩)
end Go.Proofs
end

section
namespace Go.Proofs
open Go Go.Kx
open Vector (replicate)
def halberdref9_product.b0 (k : Vx 32 8) (p_X : Vx 32 8) (p_Y : Vx 32 8) (p_Z : Vx 32 8) (s0 : Int × Vx 32 8 × Vx 32 8 × Vx 32 8) : Option ((Int × Vx 32 8 × Vx 32 8 × Vx 32 8) ⊕ (Vx 32 8 × Vx 32 8 × Vx 32 8)) :=
 if 0 ≤ s0.1 then ((halberdref9_twice s0.2.1 s0.2.2.1 s0.2.2.2).bind fun (r_1 : Vx 32 8 × Vx 32 8 × Vx 32 8) => (if 0 ≤ w64 (s0.1.tdiv 32) ∧ w64 (s0.1.tdiv 32) < (8 : Int) then (if 0 ≤ s0.1.tmod 32 then (if (((vg k ((w64 (s0.1.tdiv 32)).toNat)) >>> (s0.1.tmod 32).toNat) &&& 1#32) = 1#32 then ((halberdref9_together r_1.1 r_1.2.1 r_1.2.2 p_X p_Y p_Z).bind fun (r_2 : Vx 32 8 × Vx 32 8 × Vx 32 8) => (ltt (w64 (s0.1 - 1)) fun (i1 : Int) => (some (.inl (i1, r_2.1, r_2.2.1, r_2.2.2))))) else (ltt (w64 (s0.1 - 1)) fun (i2 : Int) => (some (.inl (i2, r_1.1, r_1.2.1, r_1.2.2))))) else none) else none)) else (some (.inr (s0.2.1, s0.2.2.1, s0.2.2.2)))
def halberdref9_product (k : Vx 32 8) (p_X : Vx 32 8) (p_Y : Vx 32 8) (p_Z : Vx 32 8) : Option (Vx 32 8 × Vx 32 8 × Vx 32 8) :=
 (loop (halberdref9_product.b0 k p_X p_Y p_Z) BIG (255, replicate 8 0#32, replicate 8 0#32, replicate 8 0#32)).bind fun (t_1 : Vx 32 8 × Vx 32 8 × Vx 32 8) => (some (t_1.1, t_1.2.1, t_1.2.2))
set_option maxHeartbeats 4000000 in
set_option maxRecDepth 20000 in
theorem F39_calls (k : Vx 32 8) (p_X : Vx 32 8) (p_Y : Vx 32 8) (p_Z : Vx 32 8) (r : Vx 32 8 × Vx 32 8 × Vx 32 8) (H : halberdref9_product k p_X p_Y p_Z = some r) :
  Does Try.prog 39 [aG [(8, e32 k.toList)], aG [(8, e32 p_X.toList), (8, e32 p_Y.toList), (8, e32 p_Z.toList)]] [] [] (Γ := Unit) (fun g => aG [(8, e32 r.1.toList), (8, e32 r.2.1.toList), (8, e32 r.2.2.toList)]) (fun g => []) := by
 intro w hmem hro hd
 refine calls_of (N := 27) (m0 := [(0, aG [(8, e32 k.toList)]), (1, aG [(8, e32 p_X.toList), (8, e32 p_Y.toList), (8, e32 p_Z.toList)])]) Try.func39 rfl Try.ntmps39 (argM_ok [aG [(8, e32 k.toList)], aG [(8, e32 p_X.toList), (8, e32 p_Y.toList), (8, e32 p_Z.toList)]]) rfl hmem hro hd ?_
 unfold halberdref9_product at H
 refine TC_seq ?_
 refine TC_region ?_
 refine TLe (E_boxP [(8, e32 k.toList)] rfl rfl ⟨(lenV (f := v32) k), trivial⟩) (fun b1 => ?_)
 refine TLe (E_boxP [(8, e32 p_X.toList), (8, e32 p_Y.toList), (8, e32 p_Z.toList)] rfl rfl ⟨(lenV (f := v32) p_X), (lenV (f := v32) p_Y), (lenV (f := v32) p_Z), trivial⟩) (fun b2 => ?_)
 refine TLe (E_allocP [(8, e32 ((replicate 8 0#32).toList)), (8, e32 ((replicate 8 0#32).toList)), (8, e32 ((replicate 8 0#32).toList))] TryI.inf33 TryI.zer33 ⟨(lenV (f := v32) (replicate 8 0#32)), (lenV (f := v32) (replicate 8 0#32)), (lenV (f := v32) (replicate 8 0#32)), trivial⟩) (fun b3 => ?_)
 refine TL_nil ?_
 refine TX_next ?_
 refine TC_seq ?_
 refine TC_region ?_
 refine TLv (V_buildStruct (pv := []) (pl := [(0, 8), (8, 8), (16, 8)]) rfl rfl Try.underlying33 TryI.inf33 TryI.places33 TryI.zer33 (cs := flat [(8, e32 ((replicate 8 0#32).toList)), (8, e32 ((replicate 8 0#32).toList)), (8, e32 ((replicate 8 0#32).toList))]) fill_end) ?_
 refine TLe (E_allocP [(8, e32 ((replicate 8 0#32).toList)), (8, e32 ((replicate 8 0#32).toList)), (8, e32 ((replicate 8 0#32).toList))] TryI.inf33 TryI.zer33 ⟨(lenV (f := v32) (replicate 8 0#32)), (lenV (f := v32) (replicate 8 0#32)), (lenV (f := v32) (replicate 8 0#32)), trivial⟩) (fun b4 => ?_)
 refine TLn (E_sp (b := b4) (o := 0) [0, 0, 0] [(8, e32 ((replicate 8 0#32).toList)), (8, e32 ((replicate 8 0#32).toList)), (8, e32 ((replicate 8 0#32).toList))] [(8, e32 ((replicate 8 0#32).toList)), (8, e32 ((replicate 8 0#32).toList)), (8, e32 ((replicate 8 0#32).toList))] rfl TryI.inf33 ⟨(lenV (f := v32) (replicate 8 0#32)), (lenV (f := v32) (replicate 8 0#32)), (lenV (f := v32) (replicate 8 0#32)), trivial⟩ ⟨(lenV (f := v32) (replicate 8 0#32)), (lenV (f := v32) (replicate 8 0#32)), (lenV (f := v32) (replicate 8 0#32)), trivial⟩ ⟨(OneC.map (fun _ => rfl) _), (OneC.map (fun _ => rfl) _), (OneC.map (fun _ => rfl) _), trivial⟩) (fun _ => ?_)
 refine TL_nil ?_
 refine TX_next ?_
 refine TC_seq ?_
 refine TC_seq ?_
 refine TC_region ?_
 refine TLv (V_assign rfl) ?_
 refine TL_nil ?_
 refine TX_next ?_
 refine TC_block ?_
 obtain ⟨t_1, Hl, H⟩ := bind_elim H
 refine TC.sub (m' := [(2, ptr (some (b1, 0)) 0), (3, ptr (some (b2, 0)) 0), (4, ptr (some (b3, 0)) 0), (5, ptr (some (b4, 0)) 0), (6, vi 255)]) ⟨rfl, rfl, rfl, rfl, rfl, trivial⟩ ?_
 refine TC.pull (is := [9, 6, 6, 6, 3, 3, 3, 0, 0, 0]) (L' := [⟨some (b1, 0), e32 k.toList⟩, ⟨some (b2, 0), e32 p_X.toList⟩, ⟨some (b2, 8), e32 p_Y.toList⟩, ⟨some (b2, 16), e32 p_Z.toList⟩, ⟨some (b3, 0), e32 ((replicate 8 0#32).toList)⟩, ⟨some (b3, 8), e32 ((replicate 8 0#32).toList)⟩, ⟨some (b3, 16), e32 ((replicate 8 0#32).toList)⟩, ⟨some (b4, 0), e32 ((replicate 8 0#32).toList)⟩, ⟨some (b4, 8), e32 ((replicate 8 0#32).toList)⟩, ⟨some (b4, 16), e32 ((replicate 8 0#32).toList)⟩]) rfl ?_
 refine TC_loopL (id := 0) (body := (halberdref9_product.b0 k p_X p_Y p_Z)) (σ := Int × Vx 32 8 × Vx 32 8 × Vx 32 8) (Γ := Unit) (Γx := Unit) (fun s0 g0_ => [(2, ptr (some (b1, 0)) 0), (3, ptr (some (b2, 0)) 0), (4, ptr (some (b3, 0)) 0), (5, ptr (some (b4, 0)) 0), (6, vi s0.1)]) (fun s0 g0_ => [⟨some (b1, 0), e32 k.toList⟩, ⟨some (b2, 0), e32 p_X.toList⟩, ⟨some (b2, 8), e32 p_Y.toList⟩, ⟨some (b2, 16), e32 p_Z.toList⟩, ⟨some (b3, 0), e32 ((replicate 8 0#32).toList)⟩, ⟨some (b3, 8), e32 ((replicate 8 0#32).toList)⟩, ⟨some (b3, 16), e32 ((replicate 8 0#32).toList)⟩, ⟨some (b4, 0), e32 s0.2.1.toList⟩, ⟨some (b4, 8), e32 s0.2.2.1.toList⟩, ⟨some (b4, 16), e32 s0.2.2.2.toList⟩]) (fun t g => [(4, ptr (some (b3, 0)) 0), (5, ptr (some (b4, 0)) 0)]) (fun t g => [⟨some (b3, 0), e32 ((replicate 8 0#32).toList)⟩, ⟨some (b3, 8), e32 ((replicate 8 0#32).toList)⟩, ⟨some (b3, 16), e32 ((replicate 8 0#32).toList)⟩, ⟨some (b4, 0), e32 t.1.toList⟩, ⟨some (b4, 8), e32 t.2.1.toList⟩, ⟨some (b4, 16), e32 t.2.2.toList⟩]) ?_ BIG (255, replicate 8 0#32, replicate 8 0#32, replicate 8 0#32) () t_1 Hl ?_
 ·intro s0 g0_ r1 H K hK hE
  unfold halberdref9_product.b0 at H
  refine TC_seq ?_
  refine TC_seq ?_
  refine TC_region ?_
  refine TLv (V_move rfl) ?_
  refine TLv (V_bin rfl rfl (fun w => geqI w s0.1 0)) ?_
  refine TL_nil ?_
  refine TX_next ?_
  refine TC_cond (b := (decide (0 ≤ s0.1))) rfl (fun hc => ?_) (fun hc => ?_)
  ·replace H := ite_t (of_decide_eq_true hc) H
   refine TC_skip ?_
   refine TX_next ?_
   refine TC_seq ?_
   refine TC_block ?_
   refine TC_seq ?_
   refine TC_region ?_
   refine TLv (V_loadAgg (n := 24) (cs := flat [(8, e32 s0.2.1.toList), (8, e32 s0.2.2.1.toList), (8, e32 s0.2.2.2.toList)]) rfl (by simp) (SrcEnts (b := b4) [(8, e32 s0.2.1.toList), (8, e32 s0.2.2.1.toList), (8, e32 s0.2.2.2.toList)] 0 ⟨(lenV (f := v32) s0.2.1), (lenV (f := v32) s0.2.2.1), (lenV (f := v32) s0.2.2.2), trivial⟩ (AllSrc.all (M := ents b4 0 [(8, e32 s0.2.1.toList), (8, e32 s0.2.2.1.toList), (8, e32 s0.2.2.2.toList)]) ⟨Src.own (j := 7) rfl, Src.own (j := 8) rfl, Src.own (j := 9) rfl, trivial⟩)) Try.isAgg33 TryI.inf33 rfl (flat_len ⟨(lenV (f := v32) s0.2.1), (lenV (f := v32) s0.2.2.1), (lenV (f := v32) s0.2.2.2), trivial⟩ rfl)) ?_
   obtain ⟨r_1, hr_1, H⟩ := bind_elim H
   refine TLe (E_c0 (F76_calls s0.2.1 s0.2.2.1 s0.2.2.2 r_1 hr_1) Try.call76 .z) (fun g_1 => ?_)
   refine TLn (E_sp (b := b4) (o := 0) [7, 7, 7] [(8, e32 s0.2.1.toList), (8, e32 s0.2.2.1.toList), (8, e32 s0.2.2.2.toList)] [(8, e32 r_1.1.toList), (8, e32 r_1.2.1.toList), (8, e32 r_1.2.2.toList)] rfl TryI.inf33 ⟨(lenV (f := v32) s0.2.1), (lenV (f := v32) s0.2.2.1), (lenV (f := v32) s0.2.2.2), trivial⟩ ⟨(lenV (f := v32) r_1.1), (lenV (f := v32) r_1.2.1), (lenV (f := v32) r_1.2.2), trivial⟩ ⟨(OneC.map (fun _ => rfl) _), (OneC.map (fun _ => rfl) _), (OneC.map (fun _ => rfl) _), trivial⟩) (fun _ => ?_)
   refine TL_nil ?_
   refine TX_next ?_
   refine TC_seq ?_
   refine TC_region ?_
   refine TLv (V_move rfl) ?_
   refine TLv (V_bin rfl rfl (fun w => quoI w s0.1 32 (by decide))) ?_
   obtain ⟨h1, H⟩ := if_elim H
   refine TLv (V_idxArr (i := w64 (s0.1.tdiv 32)) rfl rfl Try.underlying31 TryI.inf29 rfl h1.1 h1.2 (k := (w64 (s0.1.tdiv 32)).toNat) (k01 _)) ?_
   refine TLv (V_load rfl (.o 3) (get_vec (f := v32) (V := k) (toNat_lt h1.1 h1.2)) Try.isAgg29) ?_
   refine TLv (V_move rfl) ?_
   refine TLv (V_bin rfl rfl (fun w => remI w s0.1 32 (by decide))) ?_
   obtain ⟨h2, H⟩ := if_elim H
   refine TLv (V_bin rfl rfl (fun w => shr32 w (vg k ((w64 (s0.1.tdiv 32)).toNat)) .i64 (s0.1.tmod 32) h2)) ?_
   refine TLv (V_bin rfl rfl (fun w => and32 w ((vg k ((w64 (s0.1.tdiv 32)).toNat)) >>> (s0.1.tmod 32).toNat) 1#32)) ?_
   refine TLv (V_bin rfl rfl (fun w => eql32 w (((vg k ((w64 (s0.1.tdiv 32)).toNat)) >>> (s0.1.tmod 32).toNat) &&& 1#32) 1#32)) ?_
   refine TL_nil ?_
   refine TX_next ?_
   refine TC_cond (b := (decide ((((vg k ((w64 (s0.1.tdiv 32)).toNat)) >>> (s0.1.tmod 32).toNat) &&& 1#32) = 1#32))) rfl (fun hc => ?_) (fun hc => ?_)
   ·replace H := ite_t (of_decide_eq_true hc) H
    refine TC_region ?_
    refine TLv (V_loadAgg (n := 24) (cs := flat [(8, e32 r_1.1.toList), (8, e32 r_1.2.1.toList), (8, e32 r_1.2.2.toList)]) rfl (by simp) (SrcEnts (b := b4) [(8, e32 r_1.1.toList), (8, e32 r_1.2.1.toList), (8, e32 r_1.2.2.toList)] 0 ⟨(lenV (f := v32) r_1.1), (lenV (f := v32) r_1.2.1), (lenV (f := v32) r_1.2.2), trivial⟩ (AllSrc.all (M := ents b4 0 [(8, e32 r_1.1.toList), (8, e32 r_1.2.1.toList), (8, e32 r_1.2.2.toList)]) ⟨Src.own (j := 0) rfl, Src.own (j := 1) rfl, Src.own (j := 2) rfl, trivial⟩)) Try.isAgg33 TryI.inf33 rfl (flat_len ⟨(lenV (f := v32) r_1.1), (lenV (f := v32) r_1.2.1), (lenV (f := v32) r_1.2.2), trivial⟩ rfl)) ?_
    refine TLv (V_loadAgg (n := 24) (cs := flat [(8, e32 p_X.toList), (8, e32 p_Y.toList), (8, e32 p_Z.toList)]) rfl (by simp) (SrcEnts (b := b2) [(8, e32 p_X.toList), (8, e32 p_Y.toList), (8, e32 p_Z.toList)] 0 ⟨(lenV (f := v32) p_X), (lenV (f := v32) p_Y), (lenV (f := v32) p_Z), trivial⟩ (AllSrc.all (M := ents b2 0 [(8, e32 p_X.toList), (8, e32 p_Y.toList), (8, e32 p_Z.toList)]) ⟨Src.own (j := 4) rfl, Src.own (j := 5) rfl, Src.own (j := 6) rfl, trivial⟩)) Try.isAgg33 TryI.inf33 rfl (flat_len ⟨(lenV (f := v32) p_X), (lenV (f := v32) p_Y), (lenV (f := v32) p_Z), trivial⟩ rfl)) ?_
    obtain ⟨r_2, hr_2, H⟩ := bind_elim H
    refine TLe (E_c0 (F44_calls r_1.1 r_1.2.1 r_1.2.2 p_X p_Y p_Z r_2 hr_2) Try.call44 .z) (fun g_2 => ?_)
    refine TLn (E_sp (b := b4) (o := 0) [0, 0, 0] [(8, e32 r_1.1.toList), (8, e32 r_1.2.1.toList), (8, e32 r_1.2.2.toList)] [(8, e32 r_2.1.toList), (8, e32 r_2.2.1.toList), (8, e32 r_2.2.2.toList)] rfl TryI.inf33 ⟨(lenV (f := v32) r_1.1), (lenV (f := v32) r_1.2.1), (lenV (f := v32) r_1.2.2), trivial⟩ ⟨(lenV (f := v32) r_2.1), (lenV (f := v32) r_2.2.1), (lenV (f := v32) r_2.2.2), trivial⟩ ⟨(OneC.map (fun _ => rfl) _), (OneC.map (fun _ => rfl) _), (OneC.map (fun _ => rfl) _), trivial⟩) (fun _ => ?_)
    refine TL_nil ?_
    refine TX_block_normal ?_
    refine TX_next ?_
    refine TC_region ?_
    refine TLv (V_move rfl) ?_
    refine TLv (V_bin rfl rfl (fun w => subI w s0.1 1)) ?_
    refine TLv (V_assign rfl) ?_
    obtain ⟨i1, hi1, H⟩ := ltt_elim H
    refine TL_re (d := 6) (v := vi (w64 (s0.1 - 1))) (v' := vi i1) rfl (congrArg vi hi1) ?_
    refine TL_nil ?_
    refine TX.sub (m' := [(2, ptr (some (b1, 0)) 0), (3, ptr (some (b2, 0)) 0), (4, ptr (some (b3, 0)) 0), (5, ptr (some (b4, 0)) 0), (6, vi i1)]) ⟨rfl, rfl, rfl, rfl, rfl, trivial⟩ ?_
    refine TX.pull (is := [3, 3, 3, 3, 3, 3, 3, 0, 0, 0]) (L' := [⟨some (b1, 0), e32 k.toList⟩, ⟨some (b2, 0), e32 p_X.toList⟩, ⟨some (b2, 8), e32 p_Y.toList⟩, ⟨some (b2, 16), e32 p_Z.toList⟩, ⟨some (b3, 0), e32 ((replicate 8 0#32).toList)⟩, ⟨some (b3, 8), e32 ((replicate 8 0#32).toList)⟩, ⟨some (b3, 16), e32 ((replicate 8 0#32).toList)⟩, ⟨some (b4, 0), e32 r_2.1.toList⟩, ⟨some (b4, 8), e32 r_2.2.1.toList⟩, ⟨some (b4, 16), e32 r_2.2.2.toList⟩]) rfl ?_
    obtain rfl := Option.some.inj H
    exact fun a w hs => hK (i1, r_2.1, r_2.2.1, r_2.2.2) rfl () a w hs
   ·replace H := ite_f (of_decide_eq_false hc) H
    refine TC_skip ?_
    refine TX_block_normal ?_
    refine TX_next ?_
    refine TC_region ?_
    refine TLv (V_move rfl) ?_
    refine TLv (V_bin rfl rfl (fun w => subI w s0.1 1)) ?_
    refine TLv (V_assign rfl) ?_
    obtain ⟨i2, hi2, H⟩ := ltt_elim H
    refine TL_re (d := 6) (v := vi (w64 (s0.1 - 1))) (v' := vi i2) rfl (congrArg vi hi2) ?_
    refine TL_nil ?_
    refine TX.sub (m' := [(2, ptr (some (b1, 0)) 0), (3, ptr (some (b2, 0)) 0), (4, ptr (some (b3, 0)) 0), (5, ptr (some (b4, 0)) 0), (6, vi i2)]) ⟨rfl, rfl, rfl, rfl, rfl, trivial⟩ ?_
    refine TX.pull (is := [3, 3, 3, 3, 3, 3, 3, 0, 0, 0]) (L' := [⟨some (b1, 0), e32 k.toList⟩, ⟨some (b2, 0), e32 p_X.toList⟩, ⟨some (b2, 8), e32 p_Y.toList⟩, ⟨some (b2, 16), e32 p_Z.toList⟩, ⟨some (b3, 0), e32 ((replicate 8 0#32).toList)⟩, ⟨some (b3, 8), e32 ((replicate 8 0#32).toList)⟩, ⟨some (b3, 16), e32 ((replicate 8 0#32).toList)⟩, ⟨some (b4, 0), e32 r_1.1.toList⟩, ⟨some (b4, 8), e32 r_1.2.1.toList⟩, ⟨some (b4, 16), e32 r_1.2.2.toList⟩]) rfl ?_
    obtain rfl := Option.some.inj H
    exact fun a w hs => hK (i2, r_1.1, r_1.2.1, r_1.2.2) rfl () a w hs
  ·replace H := ite_f (of_decide_eq_false hc) H
   refine TC_exit ?_
   refine TX_then_exit ?_
   refine TX_then_exit ?_
   refine TX.sub (m' := [(4, ptr (some (b3, 0)) 0), (5, ptr (some (b4, 0)) 0)]) ⟨rfl, rfl, trivial⟩ ?_
   refine TX.pull (is := [4, 4, 4, 4, 4, 4]) (L' := [⟨some (b3, 0), e32 ((replicate 8 0#32).toList)⟩, ⟨some (b3, 8), e32 ((replicate 8 0#32).toList)⟩, ⟨some (b3, 16), e32 ((replicate 8 0#32).toList)⟩, ⟨some (b4, 0), e32 s0.2.1.toList⟩, ⟨some (b4, 8), e32 s0.2.2.1.toList⟩, ⟨some (b4, 16), e32 s0.2.2.2.toList⟩]) rfl ?_
   obtain rfl := Option.some.inj H
   exact hE (s0.2.1, s0.2.2.1, s0.2.2.2) rfl ()
 ·intro g
  refine TX_block_exit ?_
  refine TX_next ?_
  refine TC_seq ?_
  refine TC_region ?_
  refine TLv (V_loadAgg (n := 24) (cs := flat [(8, e32 t_1.1.toList), (8, e32 t_1.2.1.toList), (8, e32 t_1.2.2.toList)]) rfl (by simp) (SrcEnts (b := b4) [(8, e32 t_1.1.toList), (8, e32 t_1.2.1.toList), (8, e32 t_1.2.2.toList)] 0 ⟨(lenV (f := v32) t_1.1), (lenV (f := v32) t_1.2.1), (lenV (f := v32) t_1.2.2), trivial⟩ (AllSrc.all (M := ents b4 0 [(8, e32 t_1.1.toList), (8, e32 t_1.2.1.toList), (8, e32 t_1.2.2.toList)]) ⟨Src.own (j := 3) rfl, Src.own (j := 4) rfl, Src.own (j := 5) rfl, trivial⟩)) Try.isAgg33 TryI.inf33 rfl (flat_len ⟨(lenV (f := v32) t_1.1), (lenV (f := v32) t_1.2.1), (lenV (f := v32) t_1.2.2), trivial⟩ rfl)) ?_
  refine TLn (E_sp (b := b3) (o := 0) [0, 0, 0] [(8, e32 ((replicate 8 0#32).toList)), (8, e32 ((replicate 8 0#32).toList)), (8, e32 ((replicate 8 0#32).toList))] [(8, e32 t_1.1.toList), (8, e32 t_1.2.1.toList), (8, e32 t_1.2.2.toList)] rfl TryI.inf33 ⟨(lenV (f := v32) (replicate 8 0#32)), (lenV (f := v32) (replicate 8 0#32)), (lenV (f := v32) (replicate 8 0#32)), trivial⟩ ⟨(lenV (f := v32) t_1.1), (lenV (f := v32) t_1.2.1), (lenV (f := v32) t_1.2.2), trivial⟩ ⟨(OneC.map (fun _ => rfl) _), (OneC.map (fun _ => rfl) _), (OneC.map (fun _ => rfl) _), trivial⟩) (fun _ => ?_)
  refine TL_nil ?_
  refine TX_next ?_
  refine TC_ret ?_
  have hrv := Option.some.inj H
  subst hrv
  exact TX_ret (rs := [.cell 4 33]) (vs := [aG [(8, e32 t_1.1.toList), (8, e32 t_1.2.1.toList), (8, e32 t_1.2.2.toList)]]) rfl ⟨(Res_agg (n := 24) (cs := flat [(8, e32 t_1.1.toList), (8, e32 t_1.2.1.toList), (8, e32 t_1.2.2.toList)]) rfl (by simp) (SrcEnts (b := b3) [(8, e32 t_1.1.toList), (8, e32 t_1.2.1.toList), (8, e32 t_1.2.2.toList)] 0 ⟨(lenV (f := v32) t_1.1), (lenV (f := v32) t_1.2.1), (lenV (f := v32) t_1.2.2), trivial⟩ (AllSrc.all (M := ents b3 0 [(8, e32 t_1.1.toList), (8, e32 t_1.2.1.toList), (8, e32 t_1.2.2.toList)]) ⟨Src.own (j := 0) rfl, Src.own (j := 1) rfl, Src.own (j := 2) rfl, trivial⟩)) Try.isAgg33 TryI.inf33 rfl (by simp [flat])), trivial⟩ (fun w' hs' => ⟨(), rfl, Step.left (Step.pulled (is := []) (A := []) hs' rfl)⟩)
end Go.Proofs
end

section
namespace Go.Proofs
open Go Go.Kx
open Vector (replicate)
def halberdref9_plain (p_X : Vx 32 8) (p_Y : Vx 32 8) (p_Z : Vx 32 8) : Option (Vx 32 8 × Vx 32 8 × Bool) :=
 if p_Z = (replicate 8 0#32 : Vx 32 8) then (ltt ((replicate 8 0#32 : Vx 32 8)) fun (m_1 : Vx 32 8) => (ltt ((replicate 8 0#32 : Vx 32 8)) fun (m_2 : Vx 32 8) => (some (m_1, m_2, false)))) else ((halberdref9_power 0 p_Z).bind fun (r_1 : Vx 32 8) => ((halberdref9_mont 0 r_1 r_1).bind fun (r_2 : Vx 32 8) => ((halberdref9_mont 0 p_X r_2).bind fun (r_3 : Vx 32 8) => ((halberdref9_out 0 r_3).bind fun (r_4 : Vx 32 8) => ((halberdref9_mont 0 r_1 r_2).bind fun (r_5 : Vx 32 8) => ((halberdref9_mont 0 p_Y r_5).bind fun (r_6 : Vx 32 8) => ((halberdref9_out 0 r_6).bind fun (r_7 : Vx 32 8) => (some (r_4, r_7, true)))))))))
set_option maxHeartbeats 4000000 in
set_option maxRecDepth 20000 in
theorem F64_calls (p_X : Vx 32 8) (p_Y : Vx 32 8) (p_Z : Vx 32 8) (r : Vx 32 8 × Vx 32 8 × Bool) (H : halberdref9_plain p_X p_Y p_Z = some r) :
  Does Try.prog 64 [aG [(8, e32 p_X.toList), (8, e32 p_Y.toList), (8, e32 p_Z.toList)]] [] [] (Γ := Unit) (fun g => Value.tuple [aG [(8, e32 r.1.toList)], aG [(8, e32 r.2.1.toList)], vb r.2.2].toArray) (fun g => []) := by
 intro w hmem hro hd
 refine calls_of (N := 39) (m0 := [(0, aG [(8, e32 p_X.toList), (8, e32 p_Y.toList), (8, e32 p_Z.toList)])]) Try.func64 rfl Try.ntmps64 (argM_ok [aG [(8, e32 p_X.toList), (8, e32 p_Y.toList), (8, e32 p_Z.toList)]]) rfl hmem hro hd ?_
 unfold halberdref9_plain at H
 refine TC_seq ?_
 refine TC_region ?_
 refine TLe (E_boxP [(8, e32 p_X.toList), (8, e32 p_Y.toList), (8, e32 p_Z.toList)] rfl rfl ⟨(lenV (f := v32) p_X), (lenV (f := v32) p_Y), (lenV (f := v32) p_Z), trivial⟩) (fun b1 => ?_)
 refine TLe (E_al32 8 TryI.inf31 TryI.zer31) (fun b2 => ?_)
 refine TLe (E_al32 8 TryI.inf31 TryI.zer31) (fun b3 => ?_)
 refine TLv (V_assign rfl) ?_
 refine TL_nil ?_
 refine TX_next ?_
 refine TC_seq ?_
 refine TC_seq ?_
 refine TC_region ?_
 refine TLv (V_fieldE rfl Try.underlying33 rfl rfl TryI.inf31 rfl (v := ptr (some (b1, 16)) 0) rfl) ?_
 refine TLv (V_lag (.o 4) Try.isAgg31 TryI.inf31) ?_
 refine TLv (V_buildArr (pv := []) rfl rfl Try.underlying31 TryI.inf31 TryI.inf29 rfl TryI.zer31 (cs := e32 ((replicate 8 0#32 : Vx 32 8).toList)) (by kernel_rfl)) ?_
 refine TLv (V_bin rfl rfl (fun w => eqlA32 w Try.underlying31 Try.underlying29 (by kernel_rfl) (by kernel_rfl) p_Z (replicate 8 0#32 : Vx 32 8))) ?_
 refine TL_nil ?_
 refine TX_next ?_
 refine TC_cond (b := (decide (p_Z = (replicate 8 0#32 : Vx 32 8)))) rfl (fun hc => ?_) (fun hc => ?_)
 ·replace H := ite_t (of_decide_eq_true hc) H
  refine TC_seq ?_
  refine TC_region ?_
  refine TLv (V_buildArr (pv := []) rfl rfl Try.underlying31 TryI.inf31 TryI.inf29 rfl TryI.zer31 (cs := e32 ((replicate 8 0#32 : Vx 32 8).toList)) (by kernel_rfl)) ?_
  refine TLv (V_buildArr (pv := []) rfl rfl Try.underlying31 TryI.inf31 TryI.inf29 rfl TryI.zer31 (cs := e32 ((replicate 8 0#32 : Vx 32 8).toList)) (by kernel_rfl)) ?_
  refine TLn (E_sv 1 TryI.inf31) (fun _ => ?_)
  obtain ⟨m_1, hm_1, H⟩ := ltt_elim H
  refine TL_reE (j := 1) (A := some (b2, 0)) (cs := e32 ((replicate 8 0#32 : Vx 32 8).toList)) (cs' := e32 m_1.toList) rfl (congrArg (fun z : Vx 32 8 => e32 (Vector.toList z)) hm_1) ?_
  refine TLn (E_sv 0 TryI.inf31) (fun _ => ?_)
  obtain ⟨m_2, hm_2, H⟩ := ltt_elim H
  refine TL_reE (j := 0) (A := some (b3, 0)) (cs := e32 ((replicate 8 0#32 : Vx 32 8).toList)) (cs' := e32 m_2.toList) rfl (congrArg (fun z : Vx 32 8 => e32 (Vector.toList z)) hm_2) ?_
  refine TLv (V_assign rfl) ?_
  refine TL_nil ?_
  refine TX_next ?_
  refine TC_ret ?_
  refine TX_then_ret ?_
  have hrv := Option.some.inj H
  subst hrv
  exact TX_ret (rs := [.cell 2 31, .cell 3 31, .tmp 4]) (vs := [aG [(8, e32 m_1.toList)], aG [(8, e32 m_2.toList)], vb false]) rfl ⟨(Res_agg (n := 8) rfl (by simp) (.o 1) Try.isAgg31 TryI.inf31 rfl (lenV (f := v32) m_1)), (Res_agg (n := 8) rfl (by simp) (.o 0) Try.isAgg31 TryI.inf31 rfl (lenV (f := v32) m_2)), rfl, trivial⟩ (fun w' hs' => ⟨(), rfl, Step.left (Step.pulled (is := []) (A := []) hs' rfl)⟩)
 ·replace H := ite_f (of_decide_eq_false hc) H
  refine TC_skip ?_
  refine TX_next ?_
  refine TC_seq ?_
  refine TC_region ?_
  refine TLv (V_assign rfl) ?_
  refine TL_nil ?_
  refine TX_next ?_
  refine TC_seq ?_
  refine TC_region ?_
  refine TLv (V_move rfl) ?_
  refine TLv (V_fieldE rfl Try.underlying33 rfl rfl TryI.inf31 rfl (v := ptr (some (b1, 16)) 0) rfl) ?_
  refine TLv (V_lag (.o 4) Try.isAgg31 TryI.inf31) ?_
  obtain ⟨r_1, hr_1, H⟩ := bind_elim H
  refine TLe (E_c0 (F91_calls 0 p_Z r_1 hr_1) Try.call91 .z) (fun g_1 => ?_)
  refine TLe (E_al32 8 TryI.inf31 TryI.zer31) (fun b4 => ?_)
  refine TLn (E_sv (vs := e32 r_1.toList) 0 TryI.inf31) (fun _ => ?_)
  refine TL_nil ?_
  refine TX_next ?_
  refine TC_seq ?_
  refine TC_region ?_
  refine TLv (V_move rfl) ?_
  refine TLv (V_lag (.o 0) Try.isAgg31 TryI.inf31) ?_
  refine TLv (V_lag (.o 0) Try.isAgg31 TryI.inf31) ?_
  obtain ⟨r_2, hr_2, H⟩ := bind_elim H
  refine TLe (E_c0 (F47_calls 0 r_1 r_1 r_2 hr_2) Try.call47 .z) (fun g_2 => ?_)
  refine TLe (E_al32 8 TryI.inf31 TryI.zer31) (fun b5 => ?_)
  refine TLn (E_sv (vs := e32 r_2.toList) 0 TryI.inf31) (fun _ => ?_)
  refine TL_nil ?_
  refine TX_next ?_
  refine TC.sub (m' := [(1, ptr (some (b1, 0)) 0), (2, ptr (some (b2, 0)) 0), (3, ptr (some (b3, 0)) 0), (5, vi 0), (6, ptr (some (b4, 0)) 0), (7, ptr (some (b5, 0)) 0)]) ⟨rfl, rfl, rfl, rfl, rfl, rfl, trivial⟩ ?_
  refine TC.pull (is := [4, 4, 4, 3, 2, 1, 0]) (L' := [⟨some (b1, 0), e32 p_X.toList⟩, ⟨some (b1, 8), e32 p_Y.toList⟩, ⟨some (b1, 16), e32 p_Z.toList⟩, ⟨some (b2, 0), e32 ((replicate 8 0#32).toList)⟩, ⟨some (b3, 0), e32 ((replicate 8 0#32).toList)⟩, ⟨some (b4, 0), e32 r_1.toList⟩, ⟨some (b5, 0), e32 r_2.toList⟩]) rfl ?_
  refine TC_seq ?_
  obtain ⟨r_3, hr_3, H⟩ := bind_elim H
  obtain ⟨r_4, hr_4, H⟩ := bind_elim H
  obtain ⟨r_5, hr_5, H⟩ := bind_elim H
  obtain ⟨r_6, hr_6, H⟩ := bind_elim H
  obtain ⟨r_7, hr_7, H⟩ := bind_elim H
  refine TA_begin [] 20 (by kernel_rfl) (N := 20) rfl ?_
  refine TA_mix (is := []) (done' := dn 20 131071) [itV 0 22 (vi 0) [], itV 1 23 (vi 0) [], itV 2 24 (ptr (some (b1, 0)) 0) [], itV 3 25 (aG [(8, e32 p_X.toList)]) [2], itV 4 26 (aG [(8, e32 r_2.toList)]) [], itV 5 27 (aG [(8, e32 r_3.toList)]) [3, 4, 1], itV 6 28 (aG [(8, e32 r_4.toList)]) [5, 0], itV 7 29 (vi 0) [], itV 8 30 (vi 0) [], itV 9 31 (ptr (some (b1, 8)) 0) [], itV 10 32 (aG [(8, e32 p_Y.toList)]) [9], itV 11 33 (vi 0) [], itV 12 34 (aG [(8, e32 r_1.toList)]) [], itV 13 35 (aG [(8, e32 r_2.toList)]) [], itV 14 36 (aG [(8, e32 r_5.toList)]) [11, 12, 13], itV 15 37 (aG [(8, e32 r_6.toList)]) [10, 14, 8], itV 16 38 (aG [(8, e32 r_7.toList)]) [15, 7]] [] 3 (by kernel_rfl) (QP.then QP.body) (by kernel_rfl) rfl (.v rfl (V_move rfl) (.v rfl (V_move rfl) (.v rfl (V_fe Try.underlying33 TryI.inf31) (.v rfl (V_lag (.o 0) Try.isAgg31 TryI.inf31) (.v rfl (V_lag (.o 6) Try.isAgg31 TryI.inf31) (.e rfl (E_cu (F47_calls 0 p_X r_2 r_3 hr_3) Try.call47 .z) (.e rfl (E_cu (F92_calls 0 r_3 r_4 hr_4) Try.call92 .z) (.v rfl (V_move rfl) (.v rfl (V_move rfl) (.v rfl (V_fe Try.underlying33 TryI.inf31) (.v rfl (V_lag (.o 1) Try.isAgg31 TryI.inf31) (.v rfl (V_move rfl) (.v rfl (V_lag (.o 5) Try.isAgg31 TryI.inf31) (.v rfl (V_lag (.o 6) Try.isAgg31 TryI.inf31) (.e rfl (E_cu (F47_calls 0 r_1 r_2 r_5 hr_5) Try.call47 .z) (.e rfl (E_cu (F47_calls 0 p_Y r_5 r_6 hr_6) Try.call47 .z) (.e rfl (E_cu (F92_calls 0 r_6 r_7 hr_7) Try.call92 .z) .nil))))))))))))))))) .nil (by kernel_rfl) rfl (fun γ => ?_)
  refine TA_cut [(38, aG [(8, e32 r_7.toList)]), (28, aG [(8, e32 r_4.toList)]), (2, ptr (some (b2, 0)) 0), (3, ptr (some (b3, 0)) 0)] [⟨some (b1, 0), e32 p_X.toList⟩, ⟨some (b1, 8), e32 p_Y.toList⟩, ⟨some (b1, 16), e32 p_Z.toList⟩, ⟨some (b2, 0), e32 ((replicate 8 0#32).toList)⟩, ⟨some (b3, 0), e32 ((replicate 8 0#32).toList)⟩, ⟨some (b4, 0), e32 r_1.toList⟩, ⟨some (b5, 0), e32 r_2.toList⟩] ⟨rfl, rfl, rfl, rfl, trivial⟩ rfl ?_
  refine TA_all (rs := [17]) (by kernel_rfl) rfl ?_
  refine ⟨?_, trivial⟩
  refine TO_n (is := []) (done' := dn 20 262143) rfl rfl rfl (by kernel_rfl) (E_sv (vs := e32 r_4.toList) 3 TryI.inf31) (fun _ _ => rfl) (fun _ => ?_)
  refine TA_all (rs := [18]) (by kernel_rfl) rfl ?_
  refine ⟨?_, trivial⟩
  refine TO_n (is := []) (done' := dn 20 524287) rfl rfl rfl (by kernel_rfl) (E_sv (vs := e32 r_7.toList) 4 TryI.inf31) (fun _ _ => rfl) (fun _ => ?_)
  refine TA_all (rs := [19]) (by kernel_rfl) rfl ?_
  refine ⟨?_, trivial⟩
  refine TO_v (is := []) (done' := dn 20 1048575) rfl rfl rfl rfl (by kernel_rfl) (V_assign rfl) (fun _ => rfl) ?_
  refine TA_done (by kernel_rfl) ?_ 0
  refine TX_next ?_
  refine TC_ret ?_
  have hrv := Option.some.inj H
  subst hrv
  exact TX_ret (rs := [.cell 2 31, .cell 3 31, .tmp 4]) (vs := [aG [(8, e32 r_4.toList)], aG [(8, e32 r_7.toList)], vb true]) rfl ⟨(Res_agg (n := 8) rfl (by simp) (.o 3) Try.isAgg31 TryI.inf31 rfl (lenV (f := v32) r_4)), (Res_agg (n := 8) rfl (by simp) (.o 4) Try.isAgg31 TryI.inf31 rfl (lenV (f := v32) r_7)), rfl, trivial⟩ (fun w' hs' => ⟨(), rfl, Step.left (Step.pulled (is := []) (A := []) hs' rfl)⟩)
end Go.Proofs
end

section
namespace Go.Proofs
open Go Go.Kx
def halberdref9_encode (p_X : Vx 32 8) (p_Y : Vx 32 8) (p_Z : Vx 32 8) : Option (Str × Bool) :=
 (halberdref9_plain p_X p_Y p_Z).bind fun (r_1 : Vx 32 8 × Vx 32 8 × Bool) => (if (!r_1.2.2) = true then (some (([] : Str), false)) else ((halberdref9_put r_1.1).bind fun (r_2 : Str) => (if (([4#8] : Str)).length + (r_2).length ≤ 4611686018427387904 then ((halberdref9_put r_1.2.1).bind fun (r_3 : Str) => (if (([4#8] : Str) ++ r_2).length + (r_3).length ≤ 4611686018427387904 then (ltt ((([4#8] : Str) ++ r_2) ++ r_3) fun (x1 : Str) => (some (x1, true))) else none)) else none)))
set_option maxHeartbeats 4000000 in
set_option maxRecDepth 20000 in
theorem F38_calls (p_X : Vx 32 8) (p_Y : Vx 32 8) (p_Z : Vx 32 8) (r : Str × Bool) (H : halberdref9_encode p_X p_Y p_Z = some r) :
  Does Try.prog 38 [aG [(8, e32 p_X.toList), (8, e32 p_Y.toList), (8, e32 p_Z.toList)]] [] [] (Γ := Unit) (fun g => Value.tuple [vs r.1, vb r.2].toArray) (fun g => []) := by
 intro w hmem hro hd
 refine calls_of (N := 21) (m0 := [(0, aG [(8, e32 p_X.toList), (8, e32 p_Y.toList), (8, e32 p_Z.toList)])]) Try.func38 rfl Try.ntmps38 (argM_ok [aG [(8, e32 p_X.toList), (8, e32 p_Y.toList), (8, e32 p_Z.toList)]]) rfl hmem hro hd ?_
 unfold halberdref9_encode at H
 refine TC_seq ?_
 refine TC_region ?_
 refine TLe (E_boxP [(8, e32 p_X.toList), (8, e32 p_Y.toList), (8, e32 p_Z.toList)] rfl rfl ⟨(lenV (f := v32) p_X), (lenV (f := v32) p_Y), (lenV (f := v32) p_Z), trivial⟩) (fun b1 => ?_)
 refine TLv (V_assign rfl) ?_
 refine TLv (V_assign rfl) ?_
 refine TL_nil ?_
 refine TX_next ?_
 refine TC_seq ?_
 refine TC_region ?_
 refine TLv (V_loadAgg (n := 24) (cs := flat [(8, e32 p_X.toList), (8, e32 p_Y.toList), (8, e32 p_Z.toList)]) rfl (by simp) (SrcEnts (b := b1) [(8, e32 p_X.toList), (8, e32 p_Y.toList), (8, e32 p_Z.toList)] 0 ⟨(lenV (f := v32) p_X), (lenV (f := v32) p_Y), (lenV (f := v32) p_Z), trivial⟩ (AllSrc.all (M := ents b1 0 [(8, e32 p_X.toList), (8, e32 p_Y.toList), (8, e32 p_Z.toList)]) ⟨Src.own (j := 0) rfl, Src.own (j := 1) rfl, Src.own (j := 2) rfl, trivial⟩)) Try.isAgg33 TryI.inf33 rfl (flat_len ⟨(lenV (f := v32) p_X), (lenV (f := v32) p_Y), (lenV (f := v32) p_Z), trivial⟩ rfl)) ?_
 obtain ⟨r_1, hr_1, H⟩ := bind_elim H
 refine TLe (E_c0 (F64_calls p_X p_Y p_Z r_1 hr_1) Try.call64 .z) (fun g_1 => ?_)
 refine TLv (V_move rfl) ?_
 refine TLv V_ex ?_
 refine TLv V_ex ?_
 refine TLv V_ex ?_
 refine TLe (E_al32 8 TryI.inf31 TryI.zer31) (fun b2 => ?_)
 refine TLe (E_al32 8 TryI.inf31 TryI.zer31) (fun b3 => ?_)
 refine TLn (E_sv (vs := e32 r_1.1.toList) 1 TryI.inf31) (fun _ => ?_)
 refine TLn (E_sv (vs := e32 r_1.2.1.toList) 0 TryI.inf31) (fun _ => ?_)
 refine TLv (V_assign rfl) ?_
 refine TL_nil ?_
 refine TX_next ?_
 refine TC_seq ?_
 refine TC_seq ?_
 refine TC_region ?_
 refine TLv (V_move rfl) ?_
 refine TLv (V_un rfl (fun w => notB w r_1.2.2)) ?_
 refine TL_nil ?_
 refine TX_next ?_
 refine TC_cond (b := (!r_1.2.2)) rfl (fun hc => ?_) (fun hc => ?_)
 ·replace H := ite_t hc H
  refine TC_seq ?_
  refine TC_region ?_
  refine TLv (V_assign rfl) ?_
  refine TLv (V_assign rfl) ?_
  refine TL_nil ?_
  refine TX_next ?_
  refine TC_ret ?_
  refine TX_then_ret ?_
  have hrv := Option.some.inj H
  subst hrv
  exact TX_ret (rs := [.tmp 2, .tmp 3]) (vs := [vs ([] : Str), vb false]) rfl ⟨rfl, rfl, trivial⟩ (fun w' hs' => ⟨(), rfl, Step.left (Step.pulled (is := []) (A := []) hs' rfl)⟩)
 ·replace H := ite_f (Bool.eq_false_iff.1 hc) H
  refine TC_skip ?_
  refine TX_next ?_
  refine TC_seq ?_
  obtain ⟨r_2, hr_2, H⟩ := bind_elim H
  obtain ⟨h1, H⟩ := if_elim H
  obtain ⟨r_3, hr_3, H⟩ := bind_elim H
  obtain ⟨h2, H⟩ := if_elim H
  obtain ⟨x1, hx1, H⟩ := ltt_elim H
  refine TA_begin [] 8 (by kernel_rfl) (N := 8) rfl ?_
  refine TA_mix (is := []) (done' := dn 8 63) [itV 0 15 (aG [(8, e32 r_1.1.toList)]) [], itV 1 16 (vs r_2) [0], itV 2 17 (vs (([4#8] : Str) ++ r_2)) [1], itV 3 18 (aG [(8, e32 r_1.2.1.toList)]) [], itV 4 19 (vs r_3) [3], itV 5 20 (vs ((([4#8] : Str) ++ r_2) ++ r_3)) [2, 4]] [] 2 (by kernel_rfl) (QP.then QP.body) (by kernel_rfl) rfl (.v rfl (V_lag (.o 1) Try.isAgg31 TryI.inf31) (.e rfl (E_cu (F51_calls r_1.1 r_2 hr_2) Try.call51 .z) (.v rfl (V_bin rfl rfl (fun w => addS w ([4#8] : Str) r_2 h1)) (.v rfl (V_lag (.o 0) Try.isAgg31 TryI.inf31) (.e rfl (E_cu (F51_calls r_1.2.1 r_3 hr_3) Try.call51 .z) (.v rfl (V_bin rfl rfl (fun w => addS w (([4#8] : Str) ++ r_2) r_3 h2)) .nil)))))) .nil (by kernel_rfl) rfl (fun γ => ?_)
  refine TA_cut [(20, vs ((([4#8] : Str) ++ r_2) ++ r_3)), (3, vb false), (2, vs ([] : Str))] [⟨some (b3, 0), e32 r_1.2.1.toList⟩, ⟨some (b2, 0), e32 r_1.1.toList⟩, ⟨some (b1, 0), e32 p_X.toList⟩, ⟨some (b1, 8), e32 p_Y.toList⟩, ⟨some (b1, 16), e32 p_Z.toList⟩] ⟨rfl, rfl, rfl, trivial⟩ rfl ?_
  refine TA_all (rs := [6]) (by kernel_rfl) rfl ?_
  refine ⟨?_, trivial⟩
  refine TO_v (is := []) (done' := dn 8 127) rfl rfl rfl rfl (by kernel_rfl) (V_assign rfl) (fun _ => rfl) ?_
  refine TA_re (d := 2) (v := vs ((([4#8] : Str) ++ r_2) ++ r_3)) (v' := vs x1) rfl (congrArg vs hx1) ?_
  refine TA_all (rs := [7]) (by kernel_rfl) rfl ?_
  refine ⟨?_, trivial⟩
  refine TO_v (is := []) (done' := dn 8 255) rfl rfl rfl rfl (by kernel_rfl) (V_assign rfl) (fun _ => rfl) ?_
  refine TA_done (by kernel_rfl) ?_ 0
  refine TX_next ?_
  refine TC_ret ?_
  have hrv := Option.some.inj H
  subst hrv
  exact TX_ret (rs := [.tmp 2, .tmp 3]) (vs := [vs x1, vb true]) rfl ⟨rfl, rfl, trivial⟩ (fun w' hs' => ⟨(), rfl, Step.left (Step.pulled (is := []) (A := []) hs' rfl)⟩)
end Go.Proofs
end

section
namespace Go.Proofs
open Go Go.Kx
def halberdref9_curveB : Option (Vx 32 8) :=
 ltt ((#v[668098635#32, 1003371582#32, 3428036854#32, 1696401072#32, 1989707452#32, 3018571093#32, 2855965671#32, 1522939352#32] : Vx 32 8)) fun (m_1 : Vx 32 8) => (some m_1)
set_option maxHeartbeats 4000000 in
set_option maxRecDepth 20000 in
theorem F50_calls (r : Vx 32 8) (H : halberdref9_curveB = some r) :
  Does Try.prog 50 [] [] [] (Γ := Unit) (fun g => aG [(8, e32 r.toList)]) (fun g => []) := by
 intro w hmem hro hd
 refine calls_of (N := 2) (m0 := []) Try.func50 rfl Try.ntmps50 (argM_ok []) rfl hmem hro hd ?_
 unfold halberdref9_curveB at H
 refine TC_seq ?_
 refine TC_region ?_
 refine TLe (E_al32 8 TryI.inf31 TryI.zer31) (fun b1 => ?_)
 refine TL_nil ?_
 refine TX_next ?_
 refine TC_seq ?_
 refine TC_region ?_
 refine TLv (V_buildArr (pv := [(0, v32 668098635#32), (1, v32 1003371582#32), (2, v32 3428036854#32), (3, v32 1696401072#32), (4, v32 1989707452#32), (5, v32 3018571093#32), (6, v32 2855965671#32), (7, v32 1522939352#32)]) rfl rfl Try.underlying31 TryI.inf31 TryI.inf29 rfl TryI.zer31 (cs := e32 ((#v[668098635#32, 1003371582#32, 3428036854#32, 1696401072#32, 1989707452#32, 3018571093#32, 2855965671#32, 1522939352#32] : Vx 32 8).toList)) (by kernel_rfl)) ?_
 refine TLn (E_sv 0 TryI.inf31) (fun _ => ?_)
 obtain ⟨m_1, hm_1, H⟩ := ltt_elim H
 refine TL_reE (j := 0) (A := some (b1, 0)) (cs := e32 ((#v[668098635#32, 1003371582#32, 3428036854#32, 1696401072#32, 1989707452#32, 3018571093#32, 2855965671#32, 1522939352#32] : Vx 32 8).toList)) (cs' := e32 m_1.toList) rfl (congrArg (fun z : Vx 32 8 => e32 (Vector.toList z)) hm_1) ?_
 refine TL_nil ?_
 refine TX_next ?_
 refine TC_ret ?_
 have hrv := Option.some.inj H
 subst hrv
 exact TX_ret (rs := [.cell 0 31]) (vs := [aG [(8, e32 m_1.toList)]]) rfl ⟨(Res_agg (n := 8) rfl (by simp) (.o 0) Try.isAgg31 TryI.inf31 rfl (lenV (f := v32) m_1)), trivial⟩ (fun w' hs' => ⟨(), rfl, Step.left (Step.pulled (is := []) (A := []) hs' rfl)⟩)
end Go.Proofs
end

section
namespace Go.Proofs
open Go Go.Kx
open Vector (replicate)
def halberdref9_G : Option (Vx 32 8 × Vx 32 8 × Vx 32 8) :=
 (halberdref9_into 0 (#v[3633889942#32, 4104206661#32, 770388896#32, 1996717441#32, 1671708914#32, 4173129445#32, 3777774151#32, 1796723186#32] : Vx 32 8)).bind fun (r_1 : Vx 32 8) => ((halberdref9_into 0 (#v[935285237#32, 3417718888#32, 1798397646#32, 734933847#32, 2081398294#32, 2397563722#32, 4263149467#32, 1340293858#32] : Vx 32 8)).bind fun (r_2 : Vx 32 8) => ((halberdref9_into 0 (vp (replicate 8 0#32) 0 1#32 : Vx 32 8)).bind fun (r_3 : Vx 32 8) => (some (r_1, r_2, r_3))))
set_option maxHeartbeats 4000000 in
set_option maxRecDepth 20000 in
theorem F40_calls (r : Vx 32 8 × Vx 32 8 × Vx 32 8) (H : halberdref9_G = some r) :
  Does Try.prog 40 [] [] [] (Γ := Unit) (fun g => aG [(8, e32 r.1.toList), (8, e32 r.2.1.toList), (8, e32 r.2.2.toList)]) (fun g => []) := by
 intro w hmem hro hd
 refine calls_of (N := 8) (m0 := []) Try.func40 rfl Try.ntmps40 (argM_ok []) rfl hmem hro hd ?_
 unfold halberdref9_G at H
 refine TC_seq ?_
 refine TC_region ?_
 refine TLe (E_allocP [(8, e32 ((replicate 8 0#32).toList)), (8, e32 ((replicate 8 0#32).toList)), (8, e32 ((replicate 8 0#32).toList))] TryI.inf33 TryI.zer33 ⟨(lenV (f := v32) (replicate 8 0#32)), (lenV (f := v32) (replicate 8 0#32)), (lenV (f := v32) (replicate 8 0#32)), trivial⟩) (fun b1 => ?_)
 refine TL_nil ?_
 refine TX_next ?_
 refine TC_seq ?_
 refine TC_region ?_
 refine TLv (V_buildArr (pv := [(0, v32 3633889942#32), (1, v32 4104206661#32), (2, v32 770388896#32), (3, v32 1996717441#32), (4, v32 1671708914#32), (5, v32 4173129445#32), (6, v32 3777774151#32), (7, v32 1796723186#32)]) rfl rfl Try.underlying31 TryI.inf31 TryI.inf29 rfl TryI.zer31 (cs := e32 ((#v[3633889942#32, 4104206661#32, 770388896#32, 1996717441#32, 1671708914#32, 4173129445#32, 3777774151#32, 1796723186#32] : Vx 32 8).toList)) (by kernel_rfl)) ?_
 obtain ⟨r_1, hr_1, H⟩ := bind_elim H
 refine TLe (E_c0 (F46_calls 0 (#v[3633889942#32, 4104206661#32, 770388896#32, 1996717441#32, 1671708914#32, 4173129445#32, 3777774151#32, 1796723186#32] : Vx 32 8) r_1 hr_1) Try.call46 .z) (fun g_1 => ?_)
 refine TLv (V_buildArr (pv := [(0, v32 935285237#32), (1, v32 3417718888#32), (2, v32 1798397646#32), (3, v32 734933847#32), (4, v32 2081398294#32), (5, v32 2397563722#32), (6, v32 4263149467#32), (7, v32 1340293858#32)]) rfl rfl Try.underlying31 TryI.inf31 TryI.inf29 rfl TryI.zer31 (cs := e32 ((#v[935285237#32, 3417718888#32, 1798397646#32, 734933847#32, 2081398294#32, 2397563722#32, 4263149467#32, 1340293858#32] : Vx 32 8).toList)) (by kernel_rfl)) ?_
 obtain ⟨r_2, hr_2, H⟩ := bind_elim H
 refine TLe (E_c0 (F46_calls 0 (#v[935285237#32, 3417718888#32, 1798397646#32, 734933847#32, 2081398294#32, 2397563722#32, 4263149467#32, 1340293858#32] : Vx 32 8) r_2 hr_2) Try.call46 .z) (fun g_2 => ?_)
 refine TLv (V_buildArr (pv := [(0, v32 1#32)]) rfl rfl Try.underlying31 TryI.inf31 TryI.inf29 rfl TryI.zer31 (cs := e32 ((vp (replicate 8 0#32) 0 1#32 : Vx 32 8).toList)) (by kernel_rfl)) ?_
 obtain ⟨r_3, hr_3, H⟩ := bind_elim H
 refine TLe (E_c0 (F46_calls 0 (vp (replicate 8 0#32) 0 1#32 : Vx 32 8) r_3 hr_3) Try.call46 .z) (fun g_3 => ?_)
 refine TLv (V_buildStruct (pv := [(0, aG [(8, e32 r_1.toList)]), (1, aG [(8, e32 r_2.toList)]), (2, aG [(8, e32 r_3.toList)])]) (pl := [(0, 8), (8, 8), (16, 8)]) rfl rfl Try.underlying33 TryI.inf33 TryI.places33 TryI.zer33 (cs := flat [(8, e32 r_1.toList), (8, e32 r_2.toList), (8, e32 r_3.toList)]) (fill_part [] [(8, e32 ((replicate 8 0#32).toList)), (8, e32 ((replicate 8 0#32).toList))] rfl rfl trivial rfl (lenV (f := v32) (replicate 8 0#32)) (lenV (f := v32) r_1) (fill_part [(8, e32 r_1.toList)] [(8, e32 ((replicate 8 0#32).toList))] rfl rfl ⟨(lenV (f := v32) r_1), trivial⟩ rfl (lenV (f := v32) (replicate 8 0#32)) (lenV (f := v32) r_2) (fill_part [(8, e32 r_1.toList), (8, e32 r_2.toList)] [] rfl rfl ⟨(lenV (f := v32) r_1), (lenV (f := v32) r_2), trivial⟩ rfl (lenV (f := v32) (replicate 8 0#32)) (lenV (f := v32) r_3) fill_end)))) ?_
 refine TLn (E_sp (b := b1) (o := 0) [0, 0, 0] [(8, e32 ((replicate 8 0#32).toList)), (8, e32 ((replicate 8 0#32).toList)), (8, e32 ((replicate 8 0#32).toList))] [(8, e32 r_1.toList), (8, e32 r_2.toList), (8, e32 r_3.toList)] rfl TryI.inf33 ⟨(lenV (f := v32) (replicate 8 0#32)), (lenV (f := v32) (replicate 8 0#32)), (lenV (f := v32) (replicate 8 0#32)), trivial⟩ ⟨(lenV (f := v32) r_1), (lenV (f := v32) r_2), (lenV (f := v32) r_3), trivial⟩ ⟨(OneC.map (fun _ => rfl) _), (OneC.map (fun _ => rfl) _), (OneC.map (fun _ => rfl) _), trivial⟩) (fun _ => ?_)
 refine TL_nil ?_
 refine TX_next ?_
 refine TC_ret ?_
 have hrv := Option.some.inj H
 subst hrv
 exact TX_ret (rs := [.cell 0 33]) (vs := [aG [(8, e32 r_1.toList), (8, e32 r_2.toList), (8, e32 r_3.toList)]]) rfl ⟨(Res_agg (n := 24) (cs := flat [(8, e32 r_1.toList), (8, e32 r_2.toList), (8, e32 r_3.toList)]) rfl (by simp) (SrcEnts (b := b1) [(8, e32 r_1.toList), (8, e32 r_2.toList), (8, e32 r_3.toList)] 0 ⟨(lenV (f := v32) r_1), (lenV (f := v32) r_2), (lenV (f := v32) r_3), trivial⟩ (AllSrc.all (M := ents b1 0 [(8, e32 r_1.toList), (8, e32 r_2.toList), (8, e32 r_3.toList)]) ⟨Src.own (j := 0) rfl, Src.own (j := 1) rfl, Src.own (j := 2) rfl, trivial⟩)) Try.isAgg33 TryI.inf33 rfl (by simp [flat])), trivial⟩ (fun w' hs' => ⟨(), rfl, Step.left (Step.pulled (is := []) (A := []) hs' rfl)⟩)
end Go.Proofs
end

section
namespace Go.Proofs
open Go Go.Kx
open Vector (replicate)
def halberdref9_scalar (k : Str) : Option (Vx 32 8 × Bool) :=
 (halberdref9_Number 1 k).bind fun (r_1 : Vx 32 8 × Bool) => (if r_1.2 = true then (ltt (decide (r_1.1 ≠ (replicate 8 0#32 : Vx 32 8))) fun (x1 : Bool) => (some (r_1.1, x1))) else (some (r_1.1, false)))
set_option maxHeartbeats 4000000 in
set_option maxRecDepth 20000 in
theorem F37_calls (k : Str) (r : Vx 32 8 × Bool) (H : halberdref9_scalar k = some r) :
  Does Try.prog 37 [vs k] [] [] (Γ := Unit) (fun g => Value.tuple [aG [(8, e32 r.1.toList)], vb r.2].toArray) (fun g => []) := by
 intro w hmem hro hd
 refine calls_of (N := 18) (m0 := [(0, vs k)]) Try.func37 rfl Try.ntmps37 (argM_ok [vs k]) rfl hmem hro hd ?_
 unfold halberdref9_scalar at H
 refine TC_seq ?_
 refine TC_region ?_
 refine TLe (E_al32 8 TryI.inf31 TryI.zer31) (fun b1 => ?_)
 refine TLv (V_assign rfl) ?_
 refine TL_nil ?_
 refine TX_next ?_
 refine TC_seq ?_
 refine TC_region ?_
 refine TLv (V_move rfl) ?_
 obtain ⟨r_1, hr_1, H⟩ := bind_elim H
 refine TLe (E_c0 (F45_calls 1 k r_1 hr_1) Try.call45 .z) (fun g_1 => ?_)
 refine TLv (V_move rfl) ?_
 refine TLv V_ex ?_
 refine TLv V_ex ?_
 refine TLe (E_al32 8 TryI.inf31 TryI.zer31) (fun b2 => ?_)
 refine TLn (E_sv (vs := e32 r_1.1.toList) 0 TryI.inf31) (fun _ => ?_)
 refine TLv (V_assign rfl) ?_
 refine TL_nil ?_
 refine TX_next ?_
 refine TC_seq ?_
 refine TC_em r_1.2 (fun hg2_3 => ?_) (fun hg2_3 => ?_)
 ·replace H := ite_t hg2_3 H
  obtain ⟨x1, hx1, H⟩ := ltt_elim H
  refine TA_begin [⟨some (b2, 0), e32 r_1.1.toList⟩] 8 (by kernel_rfl) (N := 9) rfl ?_
  refine TA_tk 0 [0] (dn 9 1) rfl rfl (V_lag (.o 0) Try.isAgg31 TryI.inf31) ?_
  refine TA_tk 1 [0] (dn 9 3) rfl rfl (V_move rfl) ?_
  refine TA_tk 2 [0] (dn 9 7) rfl rfl (V_move rfl) ?_
  refine TA_re (d := 13) (v := vb r_1.2) (v' := vb true) rfl (congrArg vb hg2_3) ?_
  refine TA_tw 3 [0] (dn 9 15) rfl rfl (V_lag (.o 0) Try.isAgg31 TryI.inf31) ?_
  refine TA_tw 4 [0] (dn 9 31) rfl rfl (V_buildArr (pv := []) rfl rfl Try.underlying31 TryI.inf31 TryI.inf29 rfl TryI.zer31 (cs := e32 ((replicate 8 0#32 : Vx 32 8).toList)) (by kernel_rfl)) ?_
  refine TA_tw 5 [0] (dn 9 63) rfl rfl (V_bin rfl rfl (fun w => neqA32 w Try.underlying31 Try.underlying29 (by kernel_rfl) (by kernel_rfl) r_1.1 (replicate 8 0#32 : Vx 32 8))) ?_
  refine TA_tk 6 [0] (dn 9 127) rfl rfl (V_pick (b := true) rfl rfl) ?_
  refine TA_all (rs := [7]) (by kernel_rfl) rfl ?_
  refine ⟨?_, trivial⟩
  refine TO_n (is := [0]) (done' := dn 9 255) rfl rfl rfl (by kernel_rfl) (E_sv (vs := e32 r_1.1.toList) 1 TryI.inf31) (fun _ _ => rfl) (fun _ => ?_)
  refine TA_all (rs := [8]) (by kernel_rfl) rfl ?_
  refine ⟨?_, trivial⟩
  refine TO_v (is := []) (R := []) (done' := dn 9 511) rfl rfl rfl rfl (by kernel_rfl) (V_assign rfl) (fun h => by cases h) ?_
  refine TA_re (d := 3) (v := vb (decide (r_1.1 ≠ (replicate 8 0#32 : Vx 32 8)))) (v' := vb x1) rfl (congrArg vb hx1) ?_
  refine TA_done (by kernel_rfl) ?_ 0
  refine TX_next ?_
  refine TC_ret ?_
  have hrv := Option.some.inj H
  subst hrv
  exact TX_ret (rs := [.cell 2 31, .tmp 3]) (vs := [aG [(8, e32 r_1.1.toList)], vb x1]) rfl ⟨(Res_agg (n := 8) rfl (by simp) (.o 1) Try.isAgg31 TryI.inf31 rfl (lenV (f := v32) r_1.1)), rfl, trivial⟩ (fun w' hs' => ⟨(), rfl, Step.left (Step.pulled (is := []) (A := []) hs' rfl)⟩)
 ·replace H := ite_f (Bool.eq_false_iff.1 hg2_3) H
  refine TA_begin [⟨some (b2, 0), e32 r_1.1.toList⟩] 8 (by kernel_rfl) (N := 9) rfl ?_
  refine TA_tk 0 [0] (dn 9 1) rfl rfl (V_lag (.o 0) Try.isAgg31 TryI.inf31) ?_
  refine TA_tk 1 [0] (dn 9 3) rfl rfl (V_move rfl) ?_
  refine TA_tk 2 [0] (dn 9 7) rfl rfl (V_move rfl) ?_
  refine TA_re (d := 13) (v := vb r_1.2) (v' := vb false) rfl (congrArg vb hg2_3) ?_
  refine TA_ts 3 [0] (dn 9 15) rfl rfl ?_
  refine TA_ts 4 [0] (dn 9 31) rfl rfl ?_
  refine TA_ts 5 [0] (dn 9 63) rfl rfl ?_
  refine TA_tk 6 [0] (dn 9 127) rfl rfl (V_pick (b := false) rfl rfl) ?_
  refine TA_all (rs := [7]) (by kernel_rfl) rfl ?_
  refine ⟨?_, trivial⟩
  refine TO_n (is := [0]) (done' := dn 9 255) rfl rfl rfl (by kernel_rfl) (E_sv (vs := e32 r_1.1.toList) 1 TryI.inf31) (fun _ _ => rfl) (fun _ => ?_)
  refine TA_all (rs := [8]) (by kernel_rfl) rfl ?_
  refine ⟨?_, trivial⟩
  refine TO_v (is := []) (R := []) (done' := dn 9 511) rfl rfl rfl rfl (by kernel_rfl) (V_assign rfl) (fun h => by cases h) ?_
  refine TA_done (by kernel_rfl) ?_ 0
  refine TX_next ?_
  refine TC_ret ?_
  have hrv := Option.some.inj H
  subst hrv
  exact TX_ret (rs := [.cell 2 31, .tmp 3]) (vs := [aG [(8, e32 r_1.1.toList)], vb false]) rfl ⟨(Res_agg (n := 8) rfl (by simp) (.o 1) Try.isAgg31 TryI.inf31 rfl (lenV (f := v32) r_1.1)), rfl, trivial⟩ (fun w' hs' => ⟨(), rfl, Step.left (Step.pulled (is := []) (A := []) hs' rfl)⟩)
end Go.Proofs
end

section
namespace Go.Proofs
open Go Go.Kx
open Vector (replicate)
def halberdref9_Decode (s_ : Str) : Option (Vx 32 8 × Vx 32 8 × Vx 32 8 × Bool) :=
 (if ((s_).length : Int) ≠ 65 then (some true) else (if 0 ≤ (0 : Int) ∧ (0 : Int) < ((s_).length : Int) then (some (decide ((sg s_ 0) ≠ 4#8))) else none)).bind fun (j1 : Bool) => (if j1 = true then (some (replicate 8 0#32, replicate 8 0#32, replicate 8 0#32, false)) else (if 33 ≤ (s_).length then ((halberdref9_Number 0 (sub s_ 1 33)).bind fun (r_1 : Vx 32 8 × Bool) => (if 33 ≤ (s_).length then ((halberdref9_Number 0 (sub s_ 33 ((s_).length))).bind fun (r_2 : Vx 32 8 × Bool) => ((if (!r_1.2) = true then (some true) else (some (!r_2.2))).bind fun (j2 : Bool) => (if j2 = true then (some (replicate 8 0#32, replicate 8 0#32, replicate 8 0#32, false)) else ((halberdref9_into 0 r_1.1).bind fun (r_3 : Vx 32 8) => ((halberdref9_into 0 r_2.1).bind fun (r_4 : Vx 32 8) => ((halberdref9_mont 0 r_3 r_3).bind fun (r_5 : Vx 32 8) => ((halberdref9_mont 0 r_3 r_5).bind fun (r_6 : Vx 32 8) => ((halberdref9_add 0 r_3 r_3).bind fun (r_7 : Vx 32 8) => ((halberdref9_add 0 r_3 r_7).bind fun (r_8 : Vx 32 8) => ((halberdref9_sub 0 r_6 r_8).bind fun (r_9 : Vx 32 8) => ((halberdref9_curveB).bind fun (r_10 : Vx 32 8) => ((halberdref9_into 0 r_10).bind fun (r_11 : Vx 32 8) => ((halberdref9_add 0 r_9 r_11).bind fun (r_12 : Vx 32 8) => ((halberdref9_into 0 (vp (replicate 8 0#32) 0 1#32 : Vx 32 8)).bind fun (r_13 : Vx 32 8) => ((halberdref9_mont 0 r_4 r_4).bind fun (r_14 : Vx 32 8) => (ltt (decide (r_14 = r_12)) fun (x1 : Bool) => (some (r_3, r_4, r_13, x1)))))))))))))))))) else none)) else none))
set_option maxHeartbeats 4000000 in
set_option maxRecDepth 20000 in
theorem F19_calls (s_ : Str) (r : Vx 32 8 × Vx 32 8 × Vx 32 8 × Bool) (H : halberdref9_Decode s_ = some r) :
  Does Try.prog 19 [vs s_] [] [] (Γ := Unit) (fun g => Value.tuple [aG [(8, e32 r.1.toList), (8, e32 r.2.1.toList), (8, e32 r.2.2.1.toList)], vb r.2.2.2].toArray) (fun g => []) := by
 intro w hmem hro hd
 refine calls_of (N := 81) (m0 := [(0, vs s_)]) Try.func19 rfl Try.ntmps19 (argM_ok [vs s_]) rfl hmem hro hd ?_
 unfold halberdref9_Decode at H
 refine TC_seq ?_
 refine TC_region ?_
 refine TLe (E_allocP [(8, e32 ((replicate 8 0#32).toList)), (8, e32 ((replicate 8 0#32).toList)), (8, e32 ((replicate 8 0#32).toList))] TryI.inf33 TryI.zer33 ⟨(lenV (f := v32) (replicate 8 0#32)), (lenV (f := v32) (replicate 8 0#32)), (lenV (f := v32) (replicate 8 0#32)), trivial⟩) (fun b1 => ?_)
 refine TLv (V_assign rfl) ?_
 refine TL_nil ?_
 refine TX_next ?_
 refine TC_seq ?_
 refine TC_seq ?_
 refine TC_region ?_
 refine TLv (V_move rfl) ?_
 refine TLv (V_len_str rfl Try.underlying9) ?_
 refine TLv (V_bin rfl rfl (fun w => neqI w ((s_).length : Int) 65)) ?_
 refine TLv (V_move rfl) ?_
 obtain ⟨j1, Hj, H⟩ := bind_elim H
 refine TL_join (Γ := Unit) (fun gj1 => [(0, vs s_), (2, ptr (some (b1, 0)) 0), (20, vb j1)]) (fun gj1 => [⟨some (b1, 0), e32 ((replicate 8 0#32).toList)⟩, ⟨some (b1, 8), e32 ((replicate 8 0#32).toList)⟩, ⟨some (b1, 16), e32 ((replicate 8 0#32).toList)⟩]) ?_ ?_
 ·intro gj1
  refine TX_next ?_
  refine TC_cond (b := j1) rfl (fun hc => ?_) (fun hc => ?_)
  ·replace H := ite_t hc H
   refine TC_seq ?_
   refine TC_region ?_
   refine TLv (V_buildStruct (pv := []) (pl := [(0, 8), (8, 8), (16, 8)]) rfl rfl Try.underlying33 TryI.inf33 TryI.places33 TryI.zer33 (cs := flat [(8, e32 ((replicate 8 0#32).toList)), (8, e32 ((replicate 8 0#32).toList)), (8, e32 ((replicate 8 0#32).toList))]) fill_end) ?_
   refine TLn (E_sp (b := b1) (o := 0) [0, 0, 0] [(8, e32 ((replicate 8 0#32).toList)), (8, e32 ((replicate 8 0#32).toList)), (8, e32 ((replicate 8 0#32).toList))] [(8, e32 ((replicate 8 0#32).toList)), (8, e32 ((replicate 8 0#32).toList)), (8, e32 ((replicate 8 0#32).toList))] rfl TryI.inf33 ⟨(lenV (f := v32) (replicate 8 0#32)), (lenV (f := v32) (replicate 8 0#32)), (lenV (f := v32) (replicate 8 0#32)), trivial⟩ ⟨(lenV (f := v32) (replicate 8 0#32)), (lenV (f := v32) (replicate 8 0#32)), (lenV (f := v32) (replicate 8 0#32)), trivial⟩ ⟨(OneC.map (fun _ => rfl) _), (OneC.map (fun _ => rfl) _), (OneC.map (fun _ => rfl) _), trivial⟩) (fun _ => ?_)
   refine TLv (V_assign rfl) ?_
   refine TL_nil ?_
   refine TX_next ?_
   refine TC_ret ?_
   refine TX_then_ret ?_
   have hrv := Option.some.inj H
   subst hrv
   exact TX_ret (rs := [.cell 2 33, .tmp 3]) (vs := [aG [(8, e32 ((replicate 8 0#32).toList)), (8, e32 ((replicate 8 0#32).toList)), (8, e32 ((replicate 8 0#32).toList))], vb false]) rfl ⟨(Res_agg (n := 24) (cs := flat [(8, e32 ((replicate 8 0#32).toList)), (8, e32 ((replicate 8 0#32).toList)), (8, e32 ((replicate 8 0#32).toList))]) rfl (by simp) (SrcEnts (b := b1) [(8, e32 ((replicate 8 0#32).toList)), (8, e32 ((replicate 8 0#32).toList)), (8, e32 ((replicate 8 0#32).toList))] 0 ⟨(lenV (f := v32) (replicate 8 0#32)), (lenV (f := v32) (replicate 8 0#32)), (lenV (f := v32) (replicate 8 0#32)), trivial⟩ (AllSrc.all (M := ents b1 0 [(8, e32 ((replicate 8 0#32).toList)), (8, e32 ((replicate 8 0#32).toList)), (8, e32 ((replicate 8 0#32).toList))]) ⟨Src.own (j := 0) rfl, Src.own (j := 1) rfl, Src.own (j := 2) rfl, trivial⟩)) Try.isAgg33 TryI.inf33 rfl (by simp [flat])), rfl, trivial⟩ (fun w' hs' => ⟨(), rfl, Step.left (Step.pulled (is := []) (A := []) hs' rfl)⟩)
  ·replace H := ite_f (Bool.eq_false_iff.1 hc) H
   refine TC_skip ?_
   refine TX_next ?_
   refine TC_seq ?_
   refine TC_region ?_
   refine TLv (V_move rfl) ?_
   obtain ⟨h1, H⟩ := if_elim H
   refine TLv (V_sliceStr (l := 1) (h := 33) rfl Try.underlying9 (Bnd.some' (i := 1) rfl (by decide)) (Bnd.some' (i := 33) rfl (by decide)) (by decide) h1) ?_
   obtain ⟨r_1, hr_1, H⟩ := bind_elim H
   refine TLe (E_c0 (F45_calls 0 (sub s_ 1 33) r_1 hr_1) Try.call45 .z) (fun g_1 => ?_)
   refine TLv (V_move rfl) ?_
   refine TLv V_ex ?_
   refine TLv V_ex ?_
   refine TLe (E_al32 8 TryI.inf31 TryI.zer31) (fun b2 => ?_)
   refine TLn (E_sv (vs := e32 r_1.1.toList) 0 TryI.inf31) (fun _ => ?_)
   refine TLv (V_assign rfl) ?_
   refine TL_nil ?_
   refine TX_next ?_
   refine TC_seq ?_
   refine TC_region ?_
   refine TLv (V_move rfl) ?_
   obtain ⟨h2, H⟩ := if_elim H
   refine TLv (V_sliceStr (l := 33) (h := (s_).length) rfl Try.underlying9 (Bnd.some' (i := 33) rfl (by decide)) Bnd.none' h2 (Nat.le_refl _)) ?_
   obtain ⟨r_2, hr_2, H⟩ := bind_elim H
   refine TLe (E_c0 (F45_calls 0 (sub s_ 33 ((s_).length)) r_2 hr_2) Try.call45 .z) (fun g_2 => ?_)
   refine TLv (V_move rfl) ?_
   refine TLv V_ex ?_
   refine TLv V_ex ?_
   refine TLe (E_al32 8 TryI.inf31 TryI.zer31) (fun b3 => ?_)
   refine TLn (E_sv (vs := e32 r_2.1.toList) 0 TryI.inf31) (fun _ => ?_)
   refine TLv (V_assign rfl) ?_
   refine TL_nil ?_
   refine TX_next ?_
   refine TC_seq ?_
   refine TC_seq ?_
   refine TC_region ?_
   refine TLv (V_move rfl) ?_
   refine TLv (V_un rfl (fun w => notB w r_1.2)) ?_
   refine TLv (V_move rfl) ?_
   obtain ⟨j2, Hj, H⟩ := bind_elim H
   refine TL_join (Γ := Unit) (fun gj2 => [(2, ptr (some (b1, 0)) 0), (4, ptr (some (b2, 0)) 0), (6, ptr (some (b3, 0)) 0), (39, vb j2)]) (fun gj2 => [⟨some (b1, 0), e32 ((replicate 8 0#32).toList)⟩, ⟨some (b1, 8), e32 ((replicate 8 0#32).toList)⟩, ⟨some (b1, 16), e32 ((replicate 8 0#32).toList)⟩, ⟨some (b2, 0), e32 r_1.1.toList⟩, ⟨some (b3, 0), e32 r_2.1.toList⟩]) ?_ ?_
   ·intro gj2
    refine TX_next ?_
    refine TC_cond (b := j2) rfl (fun hc => ?_) (fun hc => ?_)
    ·replace H := ite_t hc H
     refine TC_seq ?_
     refine TC_region ?_
     refine TLv (V_buildStruct (pv := []) (pl := [(0, 8), (8, 8), (16, 8)]) rfl rfl Try.underlying33 TryI.inf33 TryI.places33 TryI.zer33 (cs := flat [(8, e32 ((replicate 8 0#32).toList)), (8, e32 ((replicate 8 0#32).toList)), (8, e32 ((replicate 8 0#32).toList))]) fill_end) ?_
     refine TLn (E_sp (b := b1) (o := 0) [0, 0, 0] [(8, e32 ((replicate 8 0#32).toList)), (8, e32 ((replicate 8 0#32).toList)), (8, e32 ((replicate 8 0#32).toList))] [(8, e32 ((replicate 8 0#32).toList)), (8, e32 ((replicate 8 0#32).toList)), (8, e32 ((replicate 8 0#32).toList))] rfl TryI.inf33 ⟨(lenV (f := v32) (replicate 8 0#32)), (lenV (f := v32) (replicate 8 0#32)), (lenV (f := v32) (replicate 8 0#32)), trivial⟩ ⟨(lenV (f := v32) (replicate 8 0#32)), (lenV (f := v32) (replicate 8 0#32)), (lenV (f := v32) (replicate 8 0#32)), trivial⟩ ⟨(OneC.map (fun _ => rfl) _), (OneC.map (fun _ => rfl) _), (OneC.map (fun _ => rfl) _), trivial⟩) (fun _ => ?_)
     refine TLv (V_assign rfl) ?_
     refine TL_nil ?_
     refine TX_next ?_
     refine TC_ret ?_
     refine TX_then_ret ?_
     have hrv := Option.some.inj H
     subst hrv
     exact TX_ret (rs := [.cell 2 33, .tmp 3]) (vs := [aG [(8, e32 ((replicate 8 0#32).toList)), (8, e32 ((replicate 8 0#32).toList)), (8, e32 ((replicate 8 0#32).toList))], vb false]) rfl ⟨(Res_agg (n := 24) (cs := flat [(8, e32 ((replicate 8 0#32).toList)), (8, e32 ((replicate 8 0#32).toList)), (8, e32 ((replicate 8 0#32).toList))]) rfl (by simp) (SrcEnts (b := b1) [(8, e32 ((replicate 8 0#32).toList)), (8, e32 ((replicate 8 0#32).toList)), (8, e32 ((replicate 8 0#32).toList))] 0 ⟨(lenV (f := v32) (replicate 8 0#32)), (lenV (f := v32) (replicate 8 0#32)), (lenV (f := v32) (replicate 8 0#32)), trivial⟩ (AllSrc.all (M := ents b1 0 [(8, e32 ((replicate 8 0#32).toList)), (8, e32 ((replicate 8 0#32).toList)), (8, e32 ((replicate 8 0#32).toList))]) ⟨Src.own (j := 0) rfl, Src.own (j := 1) rfl, Src.own (j := 2) rfl, trivial⟩)) Try.isAgg33 TryI.inf33 rfl (by simp [flat])), rfl, trivial⟩ (fun w' hs' => ⟨(), rfl, Step.left (Step.pulled (is := []) (A := []) hs' rfl)⟩)
    ·replace H := ite_f (Bool.eq_false_iff.1 hc) H
     refine TC_skip ?_
     refine TX_next ?_
     refine TC_seq ?_
     refine TC_region ?_
     refine TLv (V_assign rfl) ?_
     refine TL_nil ?_
     refine TX_next ?_
     refine TC_seq ?_
     obtain ⟨r_3, hr_3, H⟩ := bind_elim H
     obtain ⟨r_4, hr_4, H⟩ := bind_elim H
     refine TA_begin [] 10 (by kernel_rfl) (N := 10) rfl ?_
     refine TA_mix (is := []) (done' := dn 10 255) [itV 0 41 (vi 0) [], itV 1 42 (aG [(8, e32 r_1.1.toList)]) [], itV 2 43 (aG [(8, e32 r_3.toList)]) [0, 1], itV 3 44 (vi 0) [], itV 4 45 (aG [(8, e32 r_2.1.toList)]) [], itV 5 46 (aG [(8, e32 r_4.toList)]) [3, 4], itA32 6 9 8, itA32 7 10 8] [] 2 (by kernel_rfl) (QP.then QP.body) (by kernel_rfl) rfl (.v rfl (V_move rfl) (.v rfl (V_lag (.o 3) Try.isAgg31 TryI.inf31) (.e rfl (E_cu (F46_calls 0 r_1.1 r_3 hr_3) Try.call46 .z) (.v rfl (V_move rfl) (.v rfl (V_lag (.o 4) Try.isAgg31 TryI.inf31) (.e rfl (E_cu (F46_calls 0 r_2.1 r_4 hr_4) Try.call46 .z) (.c rfl (fun _ _ => (E_al32 8 TryI.inf31 TryI.zer31)) (.c rfl (fun _ _ => (E_al32 8 TryI.inf31 TryI.zer31)) .nil)))))))) .nil (by kernel_rfl) rfl (fun γ => ?_)
     refine TA_cut [(10, ptr (some ((γ 7), 0)) 0), (9, ptr (some ((γ 6), 0)) 0), (46, aG [(8, e32 r_4.toList)]), (43, aG [(8, e32 r_3.toList)]), (8, vi 0), (2, ptr (some (b1, 0)) 0)] [⟨some ((γ 7), 0), e32 ((replicate 8 0#32).toList)⟩, ⟨some ((γ 6), 0), e32 ((replicate 8 0#32).toList)⟩, ⟨some (b1, 0), e32 ((replicate 8 0#32).toList)⟩, ⟨some (b1, 8), e32 ((replicate 8 0#32).toList)⟩, ⟨some (b1, 16), e32 ((replicate 8 0#32).toList)⟩, ⟨some (b2, 0), e32 r_1.1.toList⟩, ⟨some (b3, 0), e32 r_2.1.toList⟩] ⟨rfl, rfl, rfl, rfl, rfl, rfl, trivial⟩ rfl ?_
     generalize γ 6 = b4
     generalize γ 7 = b5
     refine TA_all (rs := [8]) (by kernel_rfl) rfl ?_
     refine ⟨?_, trivial⟩
     refine TO_n (is := []) (done' := dn 10 511) rfl rfl rfl (by kernel_rfl) (E_sv (vs := e32 r_3.toList) 1 TryI.inf31) (fun _ _ => rfl) (fun _ => ?_)
     refine TA_all (rs := [9]) (by kernel_rfl) rfl ?_
     refine ⟨?_, trivial⟩
     refine TO_n (is := []) (done' := dn 10 1023) rfl rfl rfl (by kernel_rfl) (E_sv (vs := e32 r_4.toList) 0 TryI.inf31) (fun _ _ => rfl) (fun _ => ?_)
     refine TA_done (by kernel_rfl) ?_ 0
     refine TX_next ?_
     refine TC_seq ?_
     obtain ⟨r_5, hr_5, H⟩ := bind_elim H
     obtain ⟨r_6, hr_6, H⟩ := bind_elim H
     refine TA_begin [] 9 (by kernel_rfl) (N := 9) rfl ?_
     refine TA_mix (is := []) (done' := dn 9 255) [itV 0 47 (vi 0) [], itV 1 48 (aG [(8, e32 r_3.toList)]) [], itV 2 49 (vi 0) [], itV 3 50 (aG [(8, e32 r_3.toList)]) [], itV 4 51 (aG [(8, e32 r_3.toList)]) [], itV 5 52 (aG [(8, e32 r_5.toList)]) [2, 3, 4], itV 6 53 (aG [(8, e32 r_6.toList)]) [1, 5, 0], itA32 7 11 8] [] 1 (by kernel_rfl) (QP.then QP.body) (by kernel_rfl) rfl (.v rfl (V_move rfl) (.v rfl (V_lag (.o 1) Try.isAgg31 TryI.inf31) (.v rfl (V_move rfl) (.v rfl (V_lag (.o 1) Try.isAgg31 TryI.inf31) (.v rfl (V_lag (.o 1) Try.isAgg31 TryI.inf31) (.e rfl (E_cu (F47_calls 0 r_3 r_3 r_5 hr_5) Try.call47 .z) (.e rfl (E_cu (F47_calls 0 r_3 r_5 r_6 hr_6) Try.call47 .z) (.c rfl (fun _ _ => (E_al32 8 TryI.inf31 TryI.zer31)) .nil)))))))) .nil (by kernel_rfl) rfl (fun γ => ?_)
     refine TA_cut [(11, ptr (some ((γ 7), 0)) 0), (53, aG [(8, e32 r_6.toList)]), (10, ptr (some (b5, 0)) 0), (9, ptr (some (b4, 0)) 0), (8, vi 0), (2, ptr (some (b1, 0)) 0)] [⟨some ((γ 7), 0), e32 ((replicate 8 0#32).toList)⟩, ⟨some (b5, 0), e32 r_4.toList⟩, ⟨some (b4, 0), e32 r_3.toList⟩, ⟨some (b1, 0), e32 ((replicate 8 0#32).toList)⟩, ⟨some (b1, 8), e32 ((replicate 8 0#32).toList)⟩, ⟨some (b1, 16), e32 ((replicate 8 0#32).toList)⟩, ⟨some (b2, 0), e32 r_1.1.toList⟩, ⟨some (b3, 0), e32 r_2.1.toList⟩] ⟨rfl, rfl, rfl, rfl, rfl, rfl, trivial⟩ rfl ?_
     generalize γ 7 = b6
     refine TA_all (rs := [8]) (by kernel_rfl) rfl ?_
     refine ⟨?_, trivial⟩
     refine TO_n (is := []) (done' := dn 9 511) rfl rfl rfl (by kernel_rfl) (E_sv (vs := e32 r_6.toList) 0 TryI.inf31) (fun _ _ => rfl) (fun _ => ?_)
     refine TA_done (by kernel_rfl) ?_ 0
     refine TX_next ?_
     refine TC_seq ?_
     obtain ⟨r_7, hr_7, H⟩ := bind_elim H
     obtain ⟨r_8, hr_8, H⟩ := bind_elim H
     obtain ⟨r_9, hr_9, H⟩ := bind_elim H
     obtain ⟨r_10, hr_10, H⟩ := bind_elim H
     obtain ⟨r_11, hr_11, H⟩ := bind_elim H
     obtain ⟨r_12, hr_12, H⟩ := bind_elim H
     refine TA_begin [] 17 (by kernel_rfl) (N := 17) rfl ?_
     refine TA_mix (is := []) (done' := dn 17 65535) [itV 0 54 (vi 0) [], itV 1 55 (vi 0) [], itV 2 56 (aG [(8, e32 r_6.toList)]) [], itV 3 57 (vi 0) [], itV 4 58 (aG [(8, e32 r_3.toList)]) [], itV 5 59 (vi 0) [], itV 6 60 (aG [(8, e32 r_3.toList)]) [], itV 7 61 (aG [(8, e32 r_3.toList)]) [], itV 8 62 (aG [(8, e32 r_7.toList)]) [5, 6, 7], itV 9 63 (aG [(8, e32 r_8.toList)]) [3, 4, 8], itV 10 64 (aG [(8, e32 r_9.toList)]) [2, 9, 1], itV 11 65 (vi 0) [], itV 12 66 (aG [(8, e32 r_10.toList)]) [], itV 13 67 (aG [(8, e32 r_11.toList)]) [11, 12], itV 14 68 (aG [(8, e32 r_12.toList)]) [10, 13, 0], itA32 15 12 8] [] 1 (by kernel_rfl) (QP.then QP.body) (by kernel_rfl) rfl (.v rfl (V_move rfl) (.v rfl (V_move rfl) (.v rfl (V_lag (.o 0) Try.isAgg31 TryI.inf31) (.v rfl (V_move rfl) (.v rfl (V_lag (.o 2) Try.isAgg31 TryI.inf31) (.v rfl (V_move rfl) (.v rfl (V_lag (.o 2) Try.isAgg31 TryI.inf31) (.v rfl (V_lag (.o 2) Try.isAgg31 TryI.inf31) (.e rfl (E_cu (F48_calls 0 r_3 r_3 r_7 hr_7) Try.call48 .z) (.e rfl (E_cu (F48_calls 0 r_3 r_7 r_8 hr_8) Try.call48 .z) (.e rfl (E_cu (F49_calls 0 r_6 r_8 r_9 hr_9) Try.call49 .z) (.v rfl (V_move rfl) (.e rfl (E_cu (F50_calls r_10 hr_10) Try.call50 .z) (.e rfl (E_cu (F46_calls 0 r_10 r_11 hr_11) Try.call46 .z) (.e rfl (E_cu (F48_calls 0 r_9 r_11 r_12 hr_12) Try.call48 .z) (.c rfl (fun _ _ => (E_al32 8 TryI.inf31 TryI.zer31)) .nil)))))))))))))))) .nil (by kernel_rfl) rfl (fun γ => ?_)
     refine TA_cut [(12, ptr (some ((γ 15), 0)) 0), (68, aG [(8, e32 r_12.toList)]), (10, ptr (some (b5, 0)) 0), (9, ptr (some (b4, 0)) 0), (8, vi 0), (2, ptr (some (b1, 0)) 0)] [⟨some ((γ 15), 0), e32 ((replicate 8 0#32).toList)⟩, ⟨some (b6, 0), e32 r_6.toList⟩, ⟨some (b5, 0), e32 r_4.toList⟩, ⟨some (b4, 0), e32 r_3.toList⟩, ⟨some (b1, 0), e32 ((replicate 8 0#32).toList)⟩, ⟨some (b1, 8), e32 ((replicate 8 0#32).toList)⟩, ⟨some (b1, 16), e32 ((replicate 8 0#32).toList)⟩, ⟨some (b2, 0), e32 r_1.1.toList⟩, ⟨some (b3, 0), e32 r_2.1.toList⟩] ⟨rfl, rfl, rfl, rfl, rfl, rfl, trivial⟩ rfl ?_
     generalize γ 15 = b7
     refine TA_all (rs := [16]) (by kernel_rfl) rfl ?_
     refine ⟨?_, trivial⟩
     refine TO_n (is := []) (done' := dn 17 131071) rfl rfl rfl (by kernel_rfl) (E_sv (vs := e32 r_12.toList) 0 TryI.inf31) (fun _ _ => rfl) (fun _ => ?_)
     refine TA_done (by kernel_rfl) ?_ 0
     refine TX_next ?_
     refine TC_seq ?_
     obtain ⟨r_13, hr_13, H⟩ := bind_elim H
     obtain ⟨r_14, hr_14, H⟩ := bind_elim H
     obtain ⟨x1, hx1, H⟩ := ltt_elim H
     refine TA_begin [⟨some (b7, 0), e32 r_12.toList⟩, ⟨some (b6, 0), e32 r_6.toList⟩, ⟨some (b5, 0), e32 r_4.toList⟩, ⟨some (b4, 0), e32 r_3.toList⟩, ⟨some (b2, 0), e32 r_1.1.toList⟩, ⟨some (b3, 0), e32 r_2.1.toList⟩] 13 (by kernel_rfl) (N := 14) rfl ?_
     refine TA_tk 0 [0, 0, 0, 0, 3, 3] (dn 14 1) rfl rfl (V_lag (.o 3) Try.isAgg31 TryI.inf31) ?_
     refine TA_tk 1 [0, 0, 0, 0, 3, 3] (dn 14 3) rfl rfl (V_lag (.o 2) Try.isAgg31 TryI.inf31) ?_
     refine TA_tk 2 [0, 0, 0, 0, 3, 3] (dn 14 7) rfl rfl (V_move rfl) ?_
     refine TA_tk 3 [0, 0, 0, 0, 3, 3] (dn 14 15) rfl rfl (V_buildArr (pv := [(0, v32 1#32)]) rfl rfl Try.underlying31 TryI.inf31 TryI.inf29 rfl TryI.zer31 (cs := e32 ((vp (replicate 8 0#32) 0 1#32 : Vx 32 8).toList)) (by kernel_rfl)) ?_
     refine TA_tk 6 [0, 0, 0, 0, 3, 3] (dn 14 79) rfl rfl (V_move rfl) ?_
     refine TA_tk 7 [0, 0, 0, 0, 3, 3] (dn 14 207) rfl rfl (V_lag (.o 2) Try.isAgg31 TryI.inf31) ?_
     refine TA_tk 8 [0, 0, 0, 0, 3, 3] (dn 14 463) rfl rfl (V_lag (.o 2) Try.isAgg31 TryI.inf31) ?_
     refine TA_tk 10 [0, 0, 0, 0, 3, 3] (dn 14 1487) rfl rfl (V_lag (.o 0) Try.isAgg31 TryI.inf31) ?_
     refine TA_all (rs := [4]) (by kernel_rfl) rfl ?_
     refine ⟨?_, trivial⟩
     refine TO_e (is := [0, 0, 0, 0, 3, 3]) (done' := dn 14 1503) rfl rfl rfl rfl (by kernel_rfl) (E_c0 (F46_calls 0 (vp (replicate 8 0#32) 0 1#32 : Vx 32 8) r_13 hr_13) Try.call46 .z) (fun _ _ => rfl) (fun g_13 => ?_)
     refine TA_tk 5 [0, 0, 0, 0, 3, 3] (dn 14 1535) rfl rfl (V_buildStruct (pv := [(0, aG [(8, e32 r_3.toList)]), (1, aG [(8, e32 r_4.toList)]), (2, aG [(8, e32 r_13.toList)])]) (pl := [(0, 8), (8, 8), (16, 8)]) rfl rfl Try.underlying33 TryI.inf33 TryI.places33 TryI.zer33 (cs := flat [(8, e32 r_3.toList), (8, e32 r_4.toList), (8, e32 r_13.toList)]) (fill_part [] [(8, e32 ((replicate 8 0#32).toList)), (8, e32 ((replicate 8 0#32).toList))] rfl rfl trivial rfl (lenV (f := v32) (replicate 8 0#32)) (lenV (f := v32) r_3) (fill_part [(8, e32 r_3.toList)] [(8, e32 ((replicate 8 0#32).toList))] rfl rfl ⟨(lenV (f := v32) r_3), trivial⟩ rfl (lenV (f := v32) (replicate 8 0#32)) (lenV (f := v32) r_4) (fill_part [(8, e32 r_3.toList), (8, e32 r_4.toList)] [] rfl rfl ⟨(lenV (f := v32) r_3), (lenV (f := v32) r_4), trivial⟩ rfl (lenV (f := v32) (replicate 8 0#32)) (lenV (f := v32) r_13) fill_end)))) ?_
     refine TA_all (rs := [9]) (by kernel_rfl) rfl ?_
     refine ⟨?_, trivial⟩
     refine TO_e (is := [0, 0, 0, 0, 3, 3]) (done' := dn 14 2047) rfl rfl rfl rfl (by kernel_rfl) (E_c0 (F47_calls 0 r_4 r_4 r_14 hr_14) Try.call47 .z) (fun _ _ => rfl) (fun g_14 => ?_)
     refine TA_tk 11 [0, 0, 0, 0, 3, 3] (dn 14 4095) rfl rfl (V_bin rfl rfl (fun w => eqlA32 w Try.underlying31 Try.underlying29 (by kernel_rfl) (by kernel_rfl) r_14 r_12)) ?_
     refine TA_all (rs := [12]) (by kernel_rfl) rfl ?_
     refine ⟨?_, trivial⟩
     refine TO_n (is := [3, 3, 3, 3, 3, 3]) (done' := dn 14 8191) rfl rfl rfl (by kernel_rfl) (E_sp (b := b1) (o := 0) [4, 4, 4] [(8, e32 ((replicate 8 0#32).toList)), (8, e32 ((replicate 8 0#32).toList)), (8, e32 ((replicate 8 0#32).toList))] [(8, e32 r_3.toList), (8, e32 r_4.toList), (8, e32 r_13.toList)] rfl TryI.inf33 ⟨(lenV (f := v32) (replicate 8 0#32)), (lenV (f := v32) (replicate 8 0#32)), (lenV (f := v32) (replicate 8 0#32)), trivial⟩ ⟨(lenV (f := v32) r_3), (lenV (f := v32) r_4), (lenV (f := v32) r_13), trivial⟩ ⟨(OneC.map (fun _ => rfl) _), (OneC.map (fun _ => rfl) _), (OneC.map (fun _ => rfl) _), trivial⟩) (fun _ _ => rfl) (fun _ => ?_)
     refine TA_all (rs := [13]) (by kernel_rfl) rfl ?_
     refine ⟨?_, trivial⟩
     refine TO_v (is := []) (R := []) (done' := dn 14 16383) rfl rfl rfl rfl (by kernel_rfl) (V_assign rfl) (fun h => by cases h) ?_
     refine TA_re (d := 3) (v := vb (decide (r_14 = r_12))) (v' := vb x1) rfl (congrArg vb hx1) ?_
     refine TA_done (by kernel_rfl) ?_ 0
     refine TX_next ?_
     refine TC_ret ?_
     have hrv := Option.some.inj H
     subst hrv
     exact TX_ret (rs := [.cell 2 33, .tmp 3]) (vs := [aG [(8, e32 r_3.toList), (8, e32 r_4.toList), (8, e32 r_13.toList)], vb x1]) rfl ⟨(Res_agg (n := 24) (cs := flat [(8, e32 r_3.toList), (8, e32 r_4.toList), (8, e32 r_13.toList)]) rfl (by simp) (SrcEnts (b := b1) [(8, e32 r_3.toList), (8, e32 r_4.toList), (8, e32 r_13.toList)] 0 ⟨(lenV (f := v32) r_3), (lenV (f := v32) r_4), (lenV (f := v32) r_13), trivial⟩ (AllSrc.all (M := ents b1 0 [(8, e32 r_3.toList), (8, e32 r_4.toList), (8, e32 r_13.toList)]) ⟨Src.own (j := 0) rfl, Src.own (j := 1) rfl, Src.own (j := 2) rfl, trivial⟩)) Try.isAgg33 TryI.inf33 rfl (by simp [flat])), rfl, trivial⟩ (fun w' hs' => ⟨(), rfl, Step.left (Step.pulled (is := []) (A := []) hs' rfl)⟩)
   ·intro hJ
    replace H := Hj
    refine TL_fork (d := 36) (b := (!r_1.2)) rfl (fun hc => ?_) (fun hc => ?_)
    ·replace H := ite_t hc H
     refine TL_skip rfl rfl rfl rfl rfl rfl rfl ?_
     refine TL_skip rfl rfl rfl rfl rfl rfl rfl ?_
     refine TLv (V_pick (b := true) rfl rfl) ?_
     refine TL_nil ?_
     refine TX.sub (m' := [(2, ptr (some (b1, 0)) 0), (4, ptr (some (b2, 0)) 0), (6, ptr (some (b3, 0)) 0), (39, vb true)]) ⟨rfl, rfl, rfl, rfl, trivial⟩ ?_
     refine TX.pull (is := [2, 2, 2, 1, 0]) (L' := [⟨some (b1, 0), e32 ((replicate 8 0#32).toList)⟩, ⟨some (b1, 8), e32 ((replicate 8 0#32).toList)⟩, ⟨some (b1, 16), e32 ((replicate 8 0#32).toList)⟩, ⟨some (b2, 0), e32 r_1.1.toList⟩, ⟨some (b3, 0), e32 r_2.1.toList⟩]) rfl ?_
     obtain rfl := Option.some.inj H
     exact hJ ()
    ·replace H := ite_f (Bool.eq_false_iff.1 hc) H
     refine TL_want rfl rfl rfl rfl rfl rfl (V_move rfl) ?_
     refine TL_want rfl rfl rfl rfl rfl rfl (V_un rfl (fun w => notB w r_2.2)) ?_
     refine TLv (V_pick (b := false) rfl rfl) ?_
     refine TL_nil ?_
     refine TX.sub (m' := [(2, ptr (some (b1, 0)) 0), (4, ptr (some (b2, 0)) 0), (6, ptr (some (b3, 0)) 0), (39, vb (!r_2.2))]) ⟨rfl, rfl, rfl, rfl, trivial⟩ ?_
     refine TX.pull (is := [2, 2, 2, 1, 0]) (L' := [⟨some (b1, 0), e32 ((replicate 8 0#32).toList)⟩, ⟨some (b1, 8), e32 ((replicate 8 0#32).toList)⟩, ⟨some (b1, 16), e32 ((replicate 8 0#32).toList)⟩, ⟨some (b2, 0), e32 r_1.1.toList⟩, ⟨some (b3, 0), e32 r_2.1.toList⟩]) rfl ?_
     obtain rfl := Option.some.inj H
     exact hJ ()
 ·intro hJ
  replace H := Hj
  refine TL_fork (d := 16) (b := (decide (((s_).length : Int) ≠ 65))) rfl (fun hc => ?_) (fun hc => ?_)
  ·replace H := ite_t (of_decide_eq_true hc) H
   refine TL_skip rfl rfl rfl rfl rfl rfl rfl ?_
   refine TL_skip rfl rfl rfl rfl rfl rfl rfl ?_
   refine TL_skip rfl rfl rfl rfl rfl rfl rfl ?_
   refine TLv (V_pick (b := true) rfl rfl) ?_
   refine TL_nil ?_
   refine TX.sub (m' := [(0, vs s_), (2, ptr (some (b1, 0)) 0), (20, vb true)]) ⟨rfl, rfl, rfl, trivial⟩ ?_
   refine TX.pull (is := [0, 0, 0]) (L' := [⟨some (b1, 0), e32 ((replicate 8 0#32).toList)⟩, ⟨some (b1, 8), e32 ((replicate 8 0#32).toList)⟩, ⟨some (b1, 16), e32 ((replicate 8 0#32).toList)⟩]) rfl ?_
   obtain rfl := Option.some.inj H
   exact hJ ()
  ·replace H := ite_f (of_decide_eq_false hc) H
   refine TL_want rfl rfl rfl rfl rfl rfl (V_move rfl) ?_
   obtain ⟨h3, H⟩ := if_elim H
   refine TL_want rfl rfl rfl rfl rfl rfl (V_idxStr rfl rfl (i := 0) Try.underlying9 h3.1 h3.2) ?_
   refine TL_want rfl rfl rfl rfl rfl rfl (V_bin rfl rfl (fun w => neq8 w (sg s_ 0) 4#8)) ?_
   refine TLv (V_pick (b := false) rfl rfl) ?_
   refine TL_nil ?_
   refine TX.sub (m' := [(0, vs s_), (2, ptr (some (b1, 0)) 0), (20, vb (decide ((sg s_ 0) ≠ 4#8)))]) ⟨rfl, rfl, rfl, trivial⟩ ?_
   refine TX.pull (is := [0, 0, 0]) (L' := [⟨some (b1, 0), e32 ((replicate 8 0#32).toList)⟩, ⟨some (b1, 8), e32 ((replicate 8 0#32).toList)⟩, ⟨some (b1, 16), e32 ((replicate 8 0#32).toList)⟩]) rfl ?_
   obtain rfl := Option.some.inj H
   exact hJ ()
end Go.Proofs
end

section
namespace Go.Proofs
open Go Go.Kx
def halberdref9_Public (k : Str) : Option (Str × Int) :=
 (halberdref9_scalar k).bind fun (r_1 : Vx 32 8 × Bool) => (if (!r_1.2) = true then (some (([] : Str), 1100)) else ((halberdref9_G).bind fun (r_2 : Vx 32 8 × Vx 32 8 × Vx 32 8) => ((halberdref9_product r_1.1 r_2.1 r_2.2.1 r_2.2.2).bind fun (r_3 : Vx 32 8 × Vx 32 8 × Vx 32 8) => ((halberdref9_encode r_3.1 r_3.2.1 r_3.2.2).bind fun (r_4 : Str × Bool) => (some (r_4.1, 0))))))
set_option maxHeartbeats 4000000 in
set_option maxRecDepth 20000 in
theorem F14_calls (k : Str) (r : Str × Int) (H : halberdref9_Public k = some r) :
  Does Try.prog 14 [vs k] [] [] (Γ := Unit) (fun g => Value.tuple [vs r.1, vi r.2].toArray) (fun g => []) := by
 intro w hmem hro hd
 refine calls_of (N := 23) (m0 := [(0, vs k)]) Try.func14 rfl Try.ntmps14 (argM_ok [vs k]) rfl hmem hro hd ?_
 unfold halberdref9_Public at H
 refine TC_seq ?_
 refine TC_region ?_
 refine TLv (V_assign rfl) ?_
 refine TLv (V_assign rfl) ?_
 refine TL_nil ?_
 refine TX_next ?_
 refine TC_seq ?_
 refine TC_region ?_
 refine TLv (V_move rfl) ?_
 obtain ⟨r_1, hr_1, H⟩ := bind_elim H
 refine TLe (E_c0 (F37_calls k r_1 hr_1) Try.call37 .z) (fun g_1 => ?_)
 refine TLv (V_move rfl) ?_
 refine TLv V_ex ?_
 refine TLv V_ex ?_
 refine TLe (E_al32 8 TryI.inf31 TryI.zer31) (fun b1 => ?_)
 refine TLn (E_sv (vs := e32 r_1.1.toList) 0 TryI.inf31) (fun _ => ?_)
 refine TLv (V_assign rfl) ?_
 refine TL_nil ?_
 refine TX_next ?_
 refine TC_seq ?_
 refine TC_seq ?_
 refine TC_region ?_
 refine TLv (V_move rfl) ?_
 refine TLv (V_un rfl (fun w => notB w r_1.2)) ?_
 refine TL_nil ?_
 refine TX_next ?_
 refine TC_cond (b := (!r_1.2)) rfl (fun hc => ?_) (fun hc => ?_)
 ·replace H := ite_t hc H
  refine TC_seq ?_
  refine TC_region ?_
  refine TLv (V_assign rfl) ?_
  refine TLv (V_assign rfl) ?_
  refine TL_nil ?_
  refine TX_next ?_
  refine TC_ret ?_
  refine TX_then_ret ?_
  have hrv := Option.some.inj H
  subst hrv
  exact TX_ret (rs := [.tmp 2, .tmp 3]) (vs := [vs ([] : Str), vi 1100]) rfl ⟨rfl, rfl, trivial⟩ (fun w' hs' => ⟨(), rfl, Step.left (Step.pulled (is := []) (A := []) hs' rfl)⟩)
 ·replace H := ite_f (Bool.eq_false_iff.1 hc) H
  refine TC_skip ?_
  refine TX_next ?_
  refine TC_seq ?_
  obtain ⟨r_2, hr_2, H⟩ := bind_elim H
  obtain ⟨r_3, hr_3, H⟩ := bind_elim H
  obtain ⟨r_4, hr_4, H⟩ := bind_elim H
  refine TA_begin [] 9 (by kernel_rfl) (N := 9) rfl ?_
  refine TA_mix (is := []) (done' := dn 9 511) [itV 0 16 (aG [(8, e32 r_1.1.toList)]) [], itV 1 17 (aG [(8, e32 r_2.1.toList), (8, e32 r_2.2.1.toList), (8, e32 r_2.2.2.toList)]) [], itV 2 18 (aG [(8, e32 r_3.1.toList), (8, e32 r_3.2.1.toList), (8, e32 r_3.2.2.toList)]) [0, 1], itV 3 19 (Value.tuple [vs r_4.1, vb r_4.2].toArray) [2], itV 4 15 (Value.tuple [vs r_4.1, vb r_4.2].toArray) [3], itV 5 20 (vs r_4.1) [4], itV 6 21 (vb r_4.2) [4], itV 7 6 (vs r_4.1) [5], itV 8 7 (vb r_4.2) [6]] [] 0 (by kernel_rfl) (QP.then QP.body) (by kernel_rfl) rfl (.v rfl (V_lag (.o 0) Try.isAgg31 TryI.inf31) (.e rfl (E_cu (F40_calls r_2 hr_2) Try.call40 .z) (.e rfl (E_cu (F39_calls r_1.1 r_2.1 r_2.2.1 r_2.2.2 r_3 hr_3) Try.call39 .z) (.e rfl (E_cu (F38_calls r_3.1 r_3.2.1 r_3.2.2 r_4 hr_4) Try.call38 .z) (.v rfl (V_move rfl) (.v rfl V_ex (.v rfl V_ex (.v rfl (V_assign rfl) (.v rfl (V_assign rfl) .nil))))))))) .nil (by kernel_rfl) rfl (fun γ => ?_)
  refine TA_cut [(6, vs r_4.1)] [⟨some (b1, 0), e32 r_1.1.toList⟩] ⟨rfl, trivial⟩ rfl ?_
  refine TA_done (by kernel_rfl) ?_ 0
  refine TX_next ?_
  refine TC_seq ?_
  refine TC_region ?_
  refine TLv (V_move rfl) ?_
  refine TLv (V_assign rfl) ?_
  refine TLv (V_assign rfl) ?_
  refine TL_nil ?_
  refine TX_next ?_
  refine TC_ret ?_
  have hrv := Option.some.inj H
  subst hrv
  exact TX_ret (rs := [.tmp 2, .tmp 3]) (vs := [vs r_4.1, vi 0]) rfl ⟨rfl, rfl, trivial⟩ (fun w' hs' => ⟨(), rfl, Step.left (Step.pulled (is := []) (A := []) hs' rfl)⟩)
end Go.Proofs
end

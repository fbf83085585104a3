/-
  Part KP3 of the proofs of this seat: F15, F17, F16, F18, PcA, PcB, PcC.
-/
import Derived.Test.YtiofnmmggblcgaaK2
import Derived.Test.YtiofnmmggblcgaaKP1
import Derived.Test.YtiofnmmggblcgaaKN1
import Derived.Test.YtiofnmmggblcgaaKP2
import Derived.Test.YtiofnmmggblcgaaKN3
import Derived.Test.YtiofnmmggblcgaaKE2
set_option linter.unusedVariables false
set_option linter.unusedSimpArgs false
section
namespace Go.Proofs
open Go Go.Kx
open Vector (replicate)
def pcurve_Mul (k : Str) (p : Str) : Option (Str × Int) :=
 (pcurve_newCurve).bind fun (r_1 : Vx 64 4 × BitVec 64 × Vx 64 4 × Vx 64 4 × Vx 64 4) => ((pcurve_Scalar k).bind fun (r_2 : Vx 64 4 × Bool) => ((pcurve_curve_read r_1.1 r_1.2.1 r_1.2.2.1 r_1.2.2.2.1 r_1.2.2.2.2 p).bind fun (r_3 : Vx 64 4 × Vx 64 4 × Vx 64 4 × Bool) => ((if (!r_2.2) = true then (some true) else (some (!r_3.2.2.2))).bind fun (j1 : Bool) => (if j1 = true then (some (([] : Str), 1100)) else ((pcurve_curve_times r_1.1 r_1.2.1 r_1.2.2.1 r_1.2.2.2.1 r_1.2.2.2.2 r_2.1 r_3.1 r_3.2.1 r_3.2.2.1).bind fun (r_4 : Vx 64 4 × Vx 64 4 × Vx 64 4) => ((pcurve_curve_write r_1.1 r_1.2.1 r_1.2.2.1 r_1.2.2.2.1 r_1.2.2.2.2 r_4.1 r_4.2.1 r_4.2.2).bind fun (r_5 : Str) => (some (r_5, 0))))))))
set_option maxHeartbeats 4000000 in
set_option maxRecDepth 20000 in
theorem F15_calls (k : Str) (p : Str) (r : Str × Int) (H : pcurve_Mul k p = some r) :
  Does Try.prog 15 [vs k, vs p] [] [] (Γ := Unit) (fun g => Value.tuple [vs r.1, vi r.2].toArray) (fun g => []) := by
 intro w hmem hro hd
 refine calls_of (N := 35) (m0 := [(0, vs k), (1, vs p)]) Try.func15 rfl Try.ntmps15 (argM_ok [vs k, vs p]) rfl hmem hro hd ?_
 unfold pcurve_Mul at H
 refine TC_seq ?_
 refine TC_region ?_
 refine TLv (V_assign rfl) ?_
 refine TLv (V_assign rfl) ?_
 refine TL_nil ?_
 refine TX_next ?_
 refine TC_seq ?_
 refine TC_region ?_
 obtain ⟨r_1, hr_1, H⟩ := bind_elim H
 refine TLe (E_call (Γ := Nat × Nat) (val := fun g => ptr (some (g.1, 0)) 0) (mem := fun g => [⟨some (g.1, 0), [ptr (some (g.2, 0)) 0]⟩, ⟨some (g.2, 0), e64 r_1.1.toList⟩, ⟨some (g.2, 4), [v64 r_1.2.1]⟩, ⟨some (g.2, 5), e64 r_1.2.2.1.toList⟩, ⟨some (g.2, 9), e64 r_1.2.2.2.1.toList⟩, ⟨some (g.1, 1), e64 r_1.2.2.2.2.toList⟩]) (vs := []) (Lin := []) (Ro := []) (is := []) rfl Try.call33 (F33_calls r_1 hr_1) rfl trivial) (fun g_1 => ?_)
 refine TLv (V_assign rfl) ?_
 refine TL_nil ?_
 refine TX_next ?_
 refine TC_seq ?_
 refine TC_region ?_
 refine TLv (V_move rfl) ?_
 obtain ⟨r_2, hr_2, H⟩ := bind_elim H
 refine TLe (E_c0 (F32_calls k r_2 hr_2) Try.call32 .z) (fun g_2 => ?_)
 refine TLv (V_move rfl) ?_
 refine TLv V_ex ?_
 refine TLv V_ex ?_
 refine TLe (E_al64 4 TryI.inf57 TryI.zer57) (fun b1 => ?_)
 refine TLn (E_sv (vs := e64 r_2.1.toList) 0 TryI.inf57) (fun _ => ?_)
 refine TLv (V_assign rfl) ?_
 refine TL_nil ?_
 refine TX_next ?_
 refine TC_seq ?_
 refine TC_region ?_
 refine TLv (V_move rfl) ?_
 refine TLv (V_move rfl) ?_
 obtain ⟨r_3, hr_3, H⟩ := bind_elim H
 refine TLe (E_c0 (F41_calls g_1.1 0 g_1.2 0 r_1.1 r_1.2.1 r_1.2.2.1 r_1.2.2.2.1 r_1.2.2.2.2 p r_3 hr_3) Try.call41 ⟨.o 1, .o 6, .o 2, .o 3, .o 4, .o 5, trivial⟩) (fun g_3 => ?_)
 refine TLv (V_move rfl) ?_
 refine TLv V_ex ?_
 refine TLv V_ex ?_
 refine TLe (E_allocP [(4, e64 ((replicate 4 0#64).toList)), (4, e64 ((replicate 4 0#64).toList)), (4, e64 ((replicate 4 0#64).toList))] TryI.inf64 TryI.zer64 ⟨(lenV (f := v64) (replicate 4 0#64)), (lenV (f := v64) (replicate 4 0#64)), (lenV (f := v64) (replicate 4 0#64)), trivial⟩) (fun b2 => ?_)
 refine TLn (E_sp (b := b2) (o := 0) [0, 0, 0] [(4, e64 ((replicate 4 0#64).toList)), (4, e64 ((replicate 4 0#64).toList)), (4, e64 ((replicate 4 0#64).toList))] [(4, e64 r_3.1.toList), (4, e64 r_3.2.1.toList), (4, e64 r_3.2.2.1.toList)] rfl TryI.inf64 ⟨(lenV (f := v64) (replicate 4 0#64)), (lenV (f := v64) (replicate 4 0#64)), (lenV (f := v64) (replicate 4 0#64)), trivial⟩ ⟨(lenV (f := v64) r_3.1), (lenV (f := v64) r_3.2.1), (lenV (f := v64) r_3.2.2.1), trivial⟩ ⟨(OneC.map (fun _ => rfl) _), (OneC.map (fun _ => rfl) _), (OneC.map (fun _ => rfl) _), trivial⟩) (fun _ => ?_)
 refine TLv (V_assign rfl) ?_
 refine TL_nil ?_
 refine TX_next ?_
 refine TC.sub (m' := [(6, ptr (some (g_1.1, 0)) 0), (7, ptr (some (b1, 0)) 0), (8, vb r_2.2), (9, ptr (some (b2, 0)) 0), (10, vb r_3.2.2.2)]) ⟨rfl, rfl, rfl, rfl, rfl, trivial⟩ ?_
 refine TC.pull (is := [4, 4, 4, 4, 4, 4, 3, 0, 0, 0]) (L' := [⟨some (g_1.1, 0), [ptr (some (g_1.2, 0)) 0]⟩, ⟨some (g_1.2, 0), e64 r_1.1.toList⟩, ⟨some (g_1.2, 4), [v64 r_1.2.1]⟩, ⟨some (g_1.2, 5), e64 r_1.2.2.1.toList⟩, ⟨some (g_1.2, 9), e64 r_1.2.2.2.1.toList⟩, ⟨some (g_1.1, 1), e64 r_1.2.2.2.2.toList⟩, ⟨some (b1, 0), e64 r_2.1.toList⟩, ⟨some (b2, 0), e64 r_3.1.toList⟩, ⟨some (b2, 4), e64 r_3.2.1.toList⟩, ⟨some (b2, 8), e64 r_3.2.2.1.toList⟩]) rfl ?_
 refine TC_seq ?_
 refine TC_seq ?_
 refine TC_region ?_
 refine TLv (V_move rfl) ?_
 refine TLv (V_un rfl (fun w => notB w r_2.2)) ?_
 refine TLv (V_move rfl) ?_
 obtain ⟨j1, Hj, H⟩ := bind_elim H
 refine TL_join (Γ := Unit) (fun gj1 => [(6, ptr (some (g_1.1, 0)) 0), (7, ptr (some (b1, 0)) 0), (9, ptr (some (b2, 0)) 0), (28, vb j1)]) (fun gj1 => [⟨some (g_1.1, 0), [ptr (some (g_1.2, 0)) 0]⟩, ⟨some (g_1.2, 0), e64 r_1.1.toList⟩, ⟨some (g_1.2, 4), [v64 r_1.2.1]⟩, ⟨some (g_1.2, 5), e64 r_1.2.2.1.toList⟩, ⟨some (g_1.2, 9), e64 r_1.2.2.2.1.toList⟩, ⟨some (g_1.1, 1), e64 r_1.2.2.2.2.toList⟩, ⟨some (b1, 0), e64 r_2.1.toList⟩, ⟨some (b2, 0), e64 r_3.1.toList⟩, ⟨some (b2, 4), e64 r_3.2.1.toList⟩, ⟨some (b2, 8), e64 r_3.2.2.1.toList⟩]) ?_ ?_
 ·intro gj1
  refine TX_next ?_
  refine TC_cond (b := j1) rfl (fun hc => ?_) (fun hc => ?_)
  ·replace H := ite_t hc H
   refine TC_seq ?_
   refine TC_region ?_
   refine TLv (V_assign rfl) ?_
   refine TLv (V_assign rfl) ?_
   refine TL_nil ?_
   refine TX_next ?_
   refine TC_ret ?_
   refine TX_then_ret ?_
   have hrv := Option.some.inj H
   subst hrv
   exact TX_ret (rs := [.tmp 4, .tmp 5]) (vs := [vs ([] : Str), vi 1100]) rfl ⟨rfl, rfl, trivial⟩ (fun w' hs' => ⟨(), rfl, Step.left (Step.pulled (is := []) (A := []) hs' rfl)⟩)
  ·replace H := ite_f (Bool.eq_false_iff.1 hc) H
   refine TC_skip ?_
   refine TX_next ?_
   refine TC_seq ?_
   refine TC_region ?_
   refine TLv (V_move rfl) ?_
   refine TLv (V_move rfl) ?_
   refine TLv (V_lag (.o 6) Try.isAgg57 TryI.inf57) ?_
   refine TLv (V_loadAgg (n := 12) (cs := flat [(4, e64 r_3.1.toList), (4, e64 r_3.2.1.toList), (4, e64 r_3.2.2.1.toList)]) rfl (by simp) (SrcEnts (b := b2) [(4, e64 r_3.1.toList), (4, e64 r_3.2.1.toList), (4, e64 r_3.2.2.1.toList)] 0 ⟨(lenV (f := v64) r_3.1), (lenV (f := v64) r_3.2.1), (lenV (f := v64) r_3.2.2.1), trivial⟩ (AllSrc.all (M := ents b2 0 [(4, e64 r_3.1.toList), (4, e64 r_3.2.1.toList), (4, e64 r_3.2.2.1.toList)]) ⟨Src.own (j := 7) rfl, Src.own (j := 8) rfl, Src.own (j := 9) rfl, trivial⟩)) Try.isAgg64 TryI.inf64 rfl (flat_len ⟨(lenV (f := v64) r_3.1), (lenV (f := v64) r_3.2.1), (lenV (f := v64) r_3.2.2.1), trivial⟩ rfl)) ?_
   obtain ⟨r_4, hr_4, H⟩ := bind_elim H
   refine TLe (E_c0 (F35_calls g_1.1 0 g_1.2 0 r_1.1 r_1.2.1 r_1.2.2.1 r_1.2.2.2.1 r_1.2.2.2.2 r_2.1 r_3.1 r_3.2.1 r_3.2.2.1 r_4 hr_4) Try.call35 ⟨.o 0, .o 5, .o 1, .o 2, .o 3, .o 4, trivial⟩) (fun g_4 => ?_)
   obtain ⟨r_5, hr_5, H⟩ := bind_elim H
   refine TLe (E_c0 (F34_calls g_1.1 0 g_1.2 0 r_1.1 r_1.2.1 r_1.2.2.1 r_1.2.2.2.1 r_1.2.2.2.2 r_4.1 r_4.2.1 r_4.2.2 r_5 hr_5) Try.call34 ⟨.o 0, .o 5, .o 1, .o 2, .o 3, .o 4, trivial⟩) (fun g_5 => ?_)
   refine TLv (V_assign rfl) ?_
   refine TLv (V_assign rfl) ?_
   refine TL_nil ?_
   refine TX_next ?_
   refine TC_ret ?_
   have hrv := Option.some.inj H
   subst hrv
   exact TX_ret (rs := [.tmp 4, .tmp 5]) (vs := [vs r_5, vi 0]) rfl ⟨rfl, rfl, trivial⟩ (fun w' hs' => ⟨(), rfl, Step.left (Step.pulled (is := []) (A := []) hs' rfl)⟩)
 ·intro hJ
  replace H := Hj
  refine TL_fork (d := 25) (b := (!r_2.2)) rfl (fun hc => ?_) (fun hc => ?_)
  ·replace H := ite_t hc H
   refine TL_skip rfl rfl rfl rfl rfl rfl rfl ?_
   refine TL_skip rfl rfl rfl rfl rfl rfl rfl ?_
   refine TLv (V_pick (b := true) rfl rfl) ?_
   refine TL_nil ?_
   refine TX.sub (m' := [(6, ptr (some (g_1.1, 0)) 0), (7, ptr (some (b1, 0)) 0), (9, ptr (some (b2, 0)) 0), (28, vb true)]) ⟨rfl, rfl, rfl, rfl, trivial⟩ ?_
   refine TX.pull (is := [0, 0, 0, 0, 0, 0, 0, 0, 0, 0]) (L' := [⟨some (g_1.1, 0), [ptr (some (g_1.2, 0)) 0]⟩, ⟨some (g_1.2, 0), e64 r_1.1.toList⟩, ⟨some (g_1.2, 4), [v64 r_1.2.1]⟩, ⟨some (g_1.2, 5), e64 r_1.2.2.1.toList⟩, ⟨some (g_1.2, 9), e64 r_1.2.2.2.1.toList⟩, ⟨some (g_1.1, 1), e64 r_1.2.2.2.2.toList⟩, ⟨some (b1, 0), e64 r_2.1.toList⟩, ⟨some (b2, 0), e64 r_3.1.toList⟩, ⟨some (b2, 4), e64 r_3.2.1.toList⟩, ⟨some (b2, 8), e64 r_3.2.2.1.toList⟩]) rfl ?_
   obtain rfl := Option.some.inj H
   exact hJ ()
  ·replace H := ite_f (Bool.eq_false_iff.1 hc) H
   refine TL_want rfl rfl rfl rfl rfl rfl (V_move rfl) ?_
   refine TL_want rfl rfl rfl rfl rfl rfl (V_un rfl (fun w => notB w r_3.2.2.2)) ?_
   refine TLv (V_pick (b := false) rfl rfl) ?_
   refine TL_nil ?_
   refine TX.sub (m' := [(6, ptr (some (g_1.1, 0)) 0), (7, ptr (some (b1, 0)) 0), (9, ptr (some (b2, 0)) 0), (28, vb (!r_3.2.2.2))]) ⟨rfl, rfl, rfl, rfl, trivial⟩ ?_
   refine TX.pull (is := [0, 0, 0, 0, 0, 0, 0, 0, 0, 0]) (L' := [⟨some (g_1.1, 0), [ptr (some (g_1.2, 0)) 0]⟩, ⟨some (g_1.2, 0), e64 r_1.1.toList⟩, ⟨some (g_1.2, 4), [v64 r_1.2.1]⟩, ⟨some (g_1.2, 5), e64 r_1.2.2.1.toList⟩, ⟨some (g_1.2, 9), e64 r_1.2.2.2.1.toList⟩, ⟨some (g_1.1, 1), e64 r_1.2.2.2.2.toList⟩, ⟨some (b1, 0), e64 r_2.1.toList⟩, ⟨some (b2, 0), e64 r_3.1.toList⟩, ⟨some (b2, 4), e64 r_3.2.1.toList⟩, ⟨some (b2, 8), e64 r_3.2.2.1.toList⟩]) rfl ?_
   obtain rfl := Option.some.inj H
   exact hJ ()
end Go.Proofs
end

section
namespace Go.Proofs
open Go Go.Kx
open Vector (replicate)
def pcurve_Add (p : Str) (q : Str) : Option (Str × Int) :=
 (pcurve_newCurve).bind fun (r_1 : Vx 64 4 × BitVec 64 × Vx 64 4 × Vx 64 4 × Vx 64 4) => ((pcurve_curve_read r_1.1 r_1.2.1 r_1.2.2.1 r_1.2.2.2.1 r_1.2.2.2.2 p).bind fun (r_2 : Vx 64 4 × Vx 64 4 × Vx 64 4 × Bool) => ((pcurve_curve_read r_1.1 r_1.2.1 r_1.2.2.1 r_1.2.2.2.1 r_1.2.2.2.2 q).bind fun (r_3 : Vx 64 4 × Vx 64 4 × Vx 64 4 × Bool) => ((pcurve_curve_add r_1.1 r_1.2.1 r_1.2.2.1 r_1.2.2.2.1 r_1.2.2.2.2 r_2.1 r_2.2.1 r_2.2.2.1 r_3.1 r_3.2.1 r_3.2.2.1).bind fun (r_4 : Vx 64 4 × Vx 64 4 × Vx 64 4) => ((if (!r_2.2.2.2) = true then (some true) else (if (!r_3.2.2.2) = true then (some true) else ((num_Nat_Zero r_4.2.2).bind fun (r_6 : Bool) => (some r_6)))).bind fun (j1 : Bool) => (if j1 = true then (some (([] : Str), 1100)) else ((pcurve_curve_write r_1.1 r_1.2.1 r_1.2.2.1 r_1.2.2.2.1 r_1.2.2.2.2 r_4.1 r_4.2.1 r_4.2.2).bind fun (r_5 : Str) => (some (r_5, 0))))))))
set_option maxHeartbeats 4000000 in
set_option maxRecDepth 20000 in
theorem F17_calls (p : Str) (q : Str) (r : Str × Int) (H : pcurve_Add p q = some r) :
  Does Try.prog 17 [vs p, vs q] [] [] (Γ := Unit) (fun g => Value.tuple [vs r.1, vi r.2].toArray) (fun g => []) := by
 intro w hmem hro hd
 refine calls_of (N := 43) (m0 := [(0, vs p), (1, vs q)]) Try.func17 rfl Try.ntmps17 (argM_ok [vs p, vs q]) rfl hmem hro hd ?_
 unfold pcurve_Add at H
 refine TC_seq ?_
 refine TC_region ?_
 refine TLv (V_assign rfl) ?_
 refine TLv (V_assign rfl) ?_
 refine TL_nil ?_
 refine TX_next ?_
 refine TC_seq ?_
 refine TC_region ?_
 obtain ⟨r_1, hr_1, H⟩ := bind_elim H
 refine TLe (E_call (Γ := Nat × Nat) (val := fun g => ptr (some (g.1, 0)) 0) (mem := fun g => [⟨some (g.1, 0), [ptr (some (g.2, 0)) 0]⟩, ⟨some (g.2, 0), e64 r_1.1.toList⟩, ⟨some (g.2, 4), [v64 r_1.2.1]⟩, ⟨some (g.2, 5), e64 r_1.2.2.1.toList⟩, ⟨some (g.2, 9), e64 r_1.2.2.2.1.toList⟩, ⟨some (g.1, 1), e64 r_1.2.2.2.2.toList⟩]) (vs := []) (Lin := []) (Ro := []) (is := []) rfl Try.call33 (F33_calls r_1 hr_1) rfl trivial) (fun g_1 => ?_)
 refine TLv (V_assign rfl) ?_
 refine TL_nil ?_
 refine TX_next ?_
 refine TC_seq ?_
 refine TC_region ?_
 refine TLv (V_move rfl) ?_
 refine TLv (V_move rfl) ?_
 obtain ⟨r_2, hr_2, H⟩ := bind_elim H
 refine TLe (E_c0 (F41_calls g_1.1 0 g_1.2 0 r_1.1 r_1.2.1 r_1.2.2.1 r_1.2.2.2.1 r_1.2.2.2.2 p r_2 hr_2) Try.call41 ⟨.o 0, .o 5, .o 1, .o 2, .o 3, .o 4, trivial⟩) (fun g_2 => ?_)
 refine TLv (V_move rfl) ?_
 refine TLv V_ex ?_
 refine TLv V_ex ?_
 refine TLe (E_allocP [(4, e64 ((replicate 4 0#64).toList)), (4, e64 ((replicate 4 0#64).toList)), (4, e64 ((replicate 4 0#64).toList))] TryI.inf64 TryI.zer64 ⟨(lenV (f := v64) (replicate 4 0#64)), (lenV (f := v64) (replicate 4 0#64)), (lenV (f := v64) (replicate 4 0#64)), trivial⟩) (fun b1 => ?_)
 refine TLn (E_sp (b := b1) (o := 0) [0, 0, 0] [(4, e64 ((replicate 4 0#64).toList)), (4, e64 ((replicate 4 0#64).toList)), (4, e64 ((replicate 4 0#64).toList))] [(4, e64 r_2.1.toList), (4, e64 r_2.2.1.toList), (4, e64 r_2.2.2.1.toList)] rfl TryI.inf64 ⟨(lenV (f := v64) (replicate 4 0#64)), (lenV (f := v64) (replicate 4 0#64)), (lenV (f := v64) (replicate 4 0#64)), trivial⟩ ⟨(lenV (f := v64) r_2.1), (lenV (f := v64) r_2.2.1), (lenV (f := v64) r_2.2.2.1), trivial⟩ ⟨(OneC.map (fun _ => rfl) _), (OneC.map (fun _ => rfl) _), (OneC.map (fun _ => rfl) _), trivial⟩) (fun _ => ?_)
 refine TLv (V_assign rfl) ?_
 refine TL_nil ?_
 refine TX_next ?_
 refine TC_seq ?_
 refine TC_region ?_
 refine TLv (V_move rfl) ?_
 refine TLv (V_move rfl) ?_
 obtain ⟨r_3, hr_3, H⟩ := bind_elim H
 refine TLe (E_c0 (F41_calls g_1.1 0 g_1.2 0 r_1.1 r_1.2.1 r_1.2.2.1 r_1.2.2.2.1 r_1.2.2.2.2 q r_3 hr_3) Try.call41 ⟨.o 3, .o 8, .o 4, .o 5, .o 6, .o 7, trivial⟩) (fun g_3 => ?_)
 refine TLv (V_move rfl) ?_
 refine TLv V_ex ?_
 refine TLv V_ex ?_
 refine TLe (E_allocP [(4, e64 ((replicate 4 0#64).toList)), (4, e64 ((replicate 4 0#64).toList)), (4, e64 ((replicate 4 0#64).toList))] TryI.inf64 TryI.zer64 ⟨(lenV (f := v64) (replicate 4 0#64)), (lenV (f := v64) (replicate 4 0#64)), (lenV (f := v64) (replicate 4 0#64)), trivial⟩) (fun b2 => ?_)
 refine TLn (E_sp (b := b2) (o := 0) [0, 0, 0] [(4, e64 ((replicate 4 0#64).toList)), (4, e64 ((replicate 4 0#64).toList)), (4, e64 ((replicate 4 0#64).toList))] [(4, e64 r_3.1.toList), (4, e64 r_3.2.1.toList), (4, e64 r_3.2.2.1.toList)] rfl TryI.inf64 ⟨(lenV (f := v64) (replicate 4 0#64)), (lenV (f := v64) (replicate 4 0#64)), (lenV (f := v64) (replicate 4 0#64)), trivial⟩ ⟨(lenV (f := v64) r_3.1), (lenV (f := v64) r_3.2.1), (lenV (f := v64) r_3.2.2.1), trivial⟩ ⟨(OneC.map (fun _ => rfl) _), (OneC.map (fun _ => rfl) _), (OneC.map (fun _ => rfl) _), trivial⟩) (fun _ => ?_)
 refine TLv (V_assign rfl) ?_
 refine TL_nil ?_
 refine TX_next ?_
 refine TC.sub (m' := [(6, ptr (some (g_1.1, 0)) 0), (7, ptr (some (b1, 0)) 0), (8, vb r_2.2.2.2), (9, ptr (some (b2, 0)) 0), (10, vb r_3.2.2.2)]) ⟨rfl, rfl, rfl, rfl, rfl, trivial⟩ ?_
 refine TC.pull (is := [6, 6, 6, 6, 6, 6, 3, 3, 3, 0, 0, 0]) (L' := [⟨some (g_1.1, 0), [ptr (some (g_1.2, 0)) 0]⟩, ⟨some (g_1.2, 0), e64 r_1.1.toList⟩, ⟨some (g_1.2, 4), [v64 r_1.2.1]⟩, ⟨some (g_1.2, 5), e64 r_1.2.2.1.toList⟩, ⟨some (g_1.2, 9), e64 r_1.2.2.2.1.toList⟩, ⟨some (g_1.1, 1), e64 r_1.2.2.2.2.toList⟩, ⟨some (b1, 0), e64 r_2.1.toList⟩, ⟨some (b1, 4), e64 r_2.2.1.toList⟩, ⟨some (b1, 8), e64 r_2.2.2.1.toList⟩, ⟨some (b2, 0), e64 r_3.1.toList⟩, ⟨some (b2, 4), e64 r_3.2.1.toList⟩, ⟨some (b2, 8), e64 r_3.2.2.1.toList⟩]) rfl ?_
 refine TC_seq ?_
 refine TC_region ?_
 refine TLv (V_move rfl) ?_
 refine TLv (V_loadAgg (n := 12) (cs := flat [(4, e64 r_2.1.toList), (4, e64 r_2.2.1.toList), (4, e64 r_2.2.2.1.toList)]) rfl (by simp) (SrcEnts (b := b1) [(4, e64 r_2.1.toList), (4, e64 r_2.2.1.toList), (4, e64 r_2.2.2.1.toList)] 0 ⟨(lenV (f := v64) r_2.1), (lenV (f := v64) r_2.2.1), (lenV (f := v64) r_2.2.2.1), trivial⟩ (AllSrc.all (M := ents b1 0 [(4, e64 r_2.1.toList), (4, e64 r_2.2.1.toList), (4, e64 r_2.2.2.1.toList)]) ⟨Src.own (j := 6) rfl, Src.own (j := 7) rfl, Src.own (j := 8) rfl, trivial⟩)) Try.isAgg64 TryI.inf64 rfl (flat_len ⟨(lenV (f := v64) r_2.1), (lenV (f := v64) r_2.2.1), (lenV (f := v64) r_2.2.2.1), trivial⟩ rfl)) ?_
 refine TLv (V_loadAgg (n := 12) (cs := flat [(4, e64 r_3.1.toList), (4, e64 r_3.2.1.toList), (4, e64 r_3.2.2.1.toList)]) rfl (by simp) (SrcEnts (b := b2) [(4, e64 r_3.1.toList), (4, e64 r_3.2.1.toList), (4, e64 r_3.2.2.1.toList)] 0 ⟨(lenV (f := v64) r_3.1), (lenV (f := v64) r_3.2.1), (lenV (f := v64) r_3.2.2.1), trivial⟩ (AllSrc.all (M := ents b2 0 [(4, e64 r_3.1.toList), (4, e64 r_3.2.1.toList), (4, e64 r_3.2.2.1.toList)]) ⟨Src.own (j := 9) rfl, Src.own (j := 10) rfl, Src.own (j := 11) rfl, trivial⟩)) Try.isAgg64 TryI.inf64 rfl (flat_len ⟨(lenV (f := v64) r_3.1), (lenV (f := v64) r_3.2.1), (lenV (f := v64) r_3.2.2.1), trivial⟩ rfl)) ?_
 obtain ⟨r_4, hr_4, H⟩ := bind_elim H
 refine TLe (E_c0 (F42_calls g_1.1 0 g_1.2 0 r_1.1 r_1.2.1 r_1.2.2.1 r_1.2.2.2.1 r_1.2.2.2.2 r_2.1 r_2.2.1 r_2.2.2.1 r_3.1 r_3.2.1 r_3.2.2.1 r_4 hr_4) Try.call42 ⟨.o 0, .o 5, .o 1, .o 2, .o 3, .o 4, trivial⟩) (fun g_4 => ?_)
 refine TLe (E_allocP [(4, e64 ((replicate 4 0#64).toList)), (4, e64 ((replicate 4 0#64).toList)), (4, e64 ((replicate 4 0#64).toList))] TryI.inf64 TryI.zer64 ⟨(lenV (f := v64) (replicate 4 0#64)), (lenV (f := v64) (replicate 4 0#64)), (lenV (f := v64) (replicate 4 0#64)), trivial⟩) (fun b3 => ?_)
 refine TLn (E_sp (b := b3) (o := 0) [0, 0, 0] [(4, e64 ((replicate 4 0#64).toList)), (4, e64 ((replicate 4 0#64).toList)), (4, e64 ((replicate 4 0#64).toList))] [(4, e64 r_4.1.toList), (4, e64 r_4.2.1.toList), (4, e64 r_4.2.2.toList)] rfl TryI.inf64 ⟨(lenV (f := v64) (replicate 4 0#64)), (lenV (f := v64) (replicate 4 0#64)), (lenV (f := v64) (replicate 4 0#64)), trivial⟩ ⟨(lenV (f := v64) r_4.1), (lenV (f := v64) r_4.2.1), (lenV (f := v64) r_4.2.2), trivial⟩ ⟨(OneC.map (fun _ => rfl) _), (OneC.map (fun _ => rfl) _), (OneC.map (fun _ => rfl) _), trivial⟩) (fun _ => ?_)
 refine TL_nil ?_
 refine TX_next ?_
 refine TC_seq ?_
 refine TC_seq ?_
 refine TC_region ?_
 refine TLv (V_move rfl) ?_
 refine TLv (V_un rfl (fun w => notB w r_2.2.2.2)) ?_
 refine TLv (V_move rfl) ?_
 obtain ⟨j1, Hj, H⟩ := bind_elim H
 refine TL_join (Γ := Unit) (fun gj1 => [(6, ptr (some (g_1.1, 0)) 0), (11, ptr (some (b3, 0)) 0), (39, vb j1)]) (fun gj1 => [⟨some (g_1.1, 0), [ptr (some (g_1.2, 0)) 0]⟩, ⟨some (g_1.2, 0), e64 r_1.1.toList⟩, ⟨some (g_1.2, 4), [v64 r_1.2.1]⟩, ⟨some (g_1.2, 5), e64 r_1.2.2.1.toList⟩, ⟨some (g_1.2, 9), e64 r_1.2.2.2.1.toList⟩, ⟨some (g_1.1, 1), e64 r_1.2.2.2.2.toList⟩, ⟨some (b3, 0), e64 r_4.1.toList⟩, ⟨some (b3, 4), e64 r_4.2.1.toList⟩, ⟨some (b3, 8), e64 r_4.2.2.toList⟩]) ?_ ?_
 ·intro gj1
  refine TX_next ?_
  refine TC_cond (b := j1) rfl (fun hc => ?_) (fun hc => ?_)
  ·replace H := ite_t hc H
   refine TC_seq ?_
   refine TC_region ?_
   refine TLv (V_assign rfl) ?_
   refine TLv (V_assign rfl) ?_
   refine TL_nil ?_
   refine TX_next ?_
   refine TC_ret ?_
   refine TX_then_ret ?_
   have hrv := Option.some.inj H
   subst hrv
   exact TX_ret (rs := [.tmp 4, .tmp 5]) (vs := [vs ([] : Str), vi 1100]) rfl ⟨rfl, rfl, trivial⟩ (fun w' hs' => ⟨(), rfl, Step.left (Step.pulled (is := []) (A := []) hs' rfl)⟩)
  ·replace H := ite_f (Bool.eq_false_iff.1 hc) H
   refine TC_skip ?_
   refine TX_next ?_
   refine TC_seq ?_
   refine TC_region ?_
   refine TLv (V_move rfl) ?_
   refine TLv (V_loadAgg (n := 12) (cs := flat [(4, e64 r_4.1.toList), (4, e64 r_4.2.1.toList), (4, e64 r_4.2.2.toList)]) rfl (by simp) (SrcEnts (b := b3) [(4, e64 r_4.1.toList), (4, e64 r_4.2.1.toList), (4, e64 r_4.2.2.toList)] 0 ⟨(lenV (f := v64) r_4.1), (lenV (f := v64) r_4.2.1), (lenV (f := v64) r_4.2.2), trivial⟩ (AllSrc.all (M := ents b3 0 [(4, e64 r_4.1.toList), (4, e64 r_4.2.1.toList), (4, e64 r_4.2.2.toList)]) ⟨Src.own (j := 6) rfl, Src.own (j := 7) rfl, Src.own (j := 8) rfl, trivial⟩)) Try.isAgg64 TryI.inf64 rfl (flat_len ⟨(lenV (f := v64) r_4.1), (lenV (f := v64) r_4.2.1), (lenV (f := v64) r_4.2.2), trivial⟩ rfl)) ?_
   obtain ⟨r_5, hr_5, H⟩ := bind_elim H
   refine TLe (E_c0 (F34_calls g_1.1 0 g_1.2 0 r_1.1 r_1.2.1 r_1.2.2.1 r_1.2.2.2.1 r_1.2.2.2.2 r_4.1 r_4.2.1 r_4.2.2 r_5 hr_5) Try.call34 ⟨.o 0, .o 5, .o 1, .o 2, .o 3, .o 4, trivial⟩) (fun g_5 => ?_)
   refine TLv (V_assign rfl) ?_
   refine TLv (V_assign rfl) ?_
   refine TL_nil ?_
   refine TX_next ?_
   refine TC_ret ?_
   have hrv := Option.some.inj H
   subst hrv
   exact TX_ret (rs := [.tmp 4, .tmp 5]) (vs := [vs r_5, vi 0]) rfl ⟨rfl, rfl, trivial⟩ (fun w' hs' => ⟨(), rfl, Step.left (Step.pulled (is := []) (A := []) hs' rfl)⟩)
 ·intro hJ
  replace H := Hj
  refine TL_fork (d := 31) (b := (!r_2.2.2.2)) rfl (fun hc => ?_) (fun hc => ?_)
  ·replace H := ite_t hc H
   refine TL_skip rfl rfl rfl rfl rfl rfl rfl ?_
   refine TL_skip rfl rfl rfl rfl rfl rfl rfl ?_
   refine TLv (V_pick (b := true) rfl rfl) ?_
   refine TLv (V_move rfl) ?_
   refine TL_skip rfl rfl rfl rfl rfl rfl rfl ?_
   refine TL_skip rfl rfl rfl rfl rfl rfl rfl ?_
   refine TL_skip rfl rfl rfl rfl rfl rfl rfl ?_
   refine TLv (V_pick (b := true) rfl rfl) ?_
   refine TL_nil ?_
   refine TX.sub (m' := [(6, ptr (some (g_1.1, 0)) 0), (11, ptr (some (b3, 0)) 0), (39, vb true)]) ⟨rfl, rfl, rfl, trivial⟩ ?_
   refine TX.pull (is := [3, 3, 3, 3, 3, 3, 0, 0, 0]) (L' := [⟨some (g_1.1, 0), [ptr (some (g_1.2, 0)) 0]⟩, ⟨some (g_1.2, 0), e64 r_1.1.toList⟩, ⟨some (g_1.2, 4), [v64 r_1.2.1]⟩, ⟨some (g_1.2, 5), e64 r_1.2.2.1.toList⟩, ⟨some (g_1.2, 9), e64 r_1.2.2.2.1.toList⟩, ⟨some (g_1.1, 1), e64 r_1.2.2.2.2.toList⟩, ⟨some (b3, 0), e64 r_4.1.toList⟩, ⟨some (b3, 4), e64 r_4.2.1.toList⟩, ⟨some (b3, 8), e64 r_4.2.2.toList⟩]) rfl ?_
   obtain rfl := Option.some.inj H
   exact hJ ()
  ·replace H := ite_f (Bool.eq_false_iff.1 hc) H
   refine TL_want rfl rfl rfl rfl rfl rfl (V_move rfl) ?_
   refine TL_want rfl rfl rfl rfl rfl rfl (V_un rfl (fun w => notB w r_3.2.2.2)) ?_
   refine TLv (V_pick (b := false) rfl rfl) ?_
   refine TLv (V_move rfl) ?_
   refine TL_fork (d := 35) (b := (!r_3.2.2.2)) rfl (fun hc => ?_) (fun hc => ?_)
   ·replace H := ite_t hc H
    refine TL_skip rfl rfl rfl rfl rfl rfl rfl ?_
    refine TL_skip rfl rfl rfl rfl rfl rfl rfl ?_
    refine TL_skip rfl rfl rfl rfl rfl rfl rfl ?_
    refine TLv (V_pick (b := true) rfl rfl) ?_
    refine TL_nil ?_
    refine TX.sub (m' := [(6, ptr (some (g_1.1, 0)) 0), (11, ptr (some (b3, 0)) 0), (39, vb true)]) ⟨rfl, rfl, rfl, trivial⟩ ?_
    refine TX.pull (is := [3, 3, 3, 3, 3, 3, 0, 0, 0]) (L' := [⟨some (g_1.1, 0), [ptr (some (g_1.2, 0)) 0]⟩, ⟨some (g_1.2, 0), e64 r_1.1.toList⟩, ⟨some (g_1.2, 4), [v64 r_1.2.1]⟩, ⟨some (g_1.2, 5), e64 r_1.2.2.1.toList⟩, ⟨some (g_1.2, 9), e64 r_1.2.2.2.1.toList⟩, ⟨some (g_1.1, 1), e64 r_1.2.2.2.2.toList⟩, ⟨some (b3, 0), e64 r_4.1.toList⟩, ⟨some (b3, 4), e64 r_4.2.1.toList⟩, ⟨some (b3, 8), e64 r_4.2.2.toList⟩]) rfl ?_
    obtain rfl := Option.some.inj H
    exact hJ ()
   ·replace H := ite_f (Bool.eq_false_iff.1 hc) H
    refine TL_want rfl rfl rfl rfl rfl rfl (V_fieldE rfl Try.underlying64 rfl rfl TryI.inf57 rfl (v := ptr (some (b3, 8)) 0) rfl) ?_
    refine TL_want rfl rfl rfl rfl rfl rfl (V_lag (.o 2) Try.isAgg57 TryI.inf57) ?_
    obtain ⟨r_6, hr_6, H⟩ := bind_elim H
    refine TL_wantE rfl rfl rfl rfl rfl rfl (E_c0 (F43_calls r_4.2.2 r_6 hr_6) Try.call43 .z) (fun g_6 => ?_)
    refine TLv (V_pick (b := false) rfl rfl) ?_
    refine TL_nil ?_
    refine TX.sub (m' := [(6, ptr (some (g_1.1, 0)) 0), (11, ptr (some (b3, 0)) 0), (39, vb r_6)]) ⟨rfl, rfl, rfl, trivial⟩ ?_
    refine TX.pull (is := [3, 3, 3, 3, 3, 3, 0, 0, 0]) (L' := [⟨some (g_1.1, 0), [ptr (some (g_1.2, 0)) 0]⟩, ⟨some (g_1.2, 0), e64 r_1.1.toList⟩, ⟨some (g_1.2, 4), [v64 r_1.2.1]⟩, ⟨some (g_1.2, 5), e64 r_1.2.2.1.toList⟩, ⟨some (g_1.2, 9), e64 r_1.2.2.2.1.toList⟩, ⟨some (g_1.1, 1), e64 r_1.2.2.2.2.toList⟩, ⟨some (b3, 0), e64 r_4.1.toList⟩, ⟨some (b3, 4), e64 r_4.2.1.toList⟩, ⟨some (b3, 8), e64 r_4.2.2.toList⟩]) rfl ?_
    obtain rfl := Option.some.inj H
    exact hJ ()
end Go.Proofs
end

section
namespace Go.Proofs
open Go Go.Kx
open Vector (replicate)
def halberdref9_Mul (k : Str) (p : Str) : Option (Str × Int) :=
 (halberdref9_scalar k).bind fun (r_1 : Vx 32 8 × Bool) => ((halberdref9_Decode p).bind fun (r_2 : Vx 32 8 × Vx 32 8 × Vx 32 8 × Bool) => ((if (!r_1.2) = true then (some true) else (some (!r_2.2.2.2))).bind fun (j1 : Bool) => (if j1 = true then (some (([] : Str), 1100)) else ((halberdref9_product r_1.1 r_2.1 r_2.2.1 r_2.2.2.1).bind fun (r_3 : Vx 32 8 × Vx 32 8 × Vx 32 8) => ((halberdref9_encode r_3.1 r_3.2.1 r_3.2.2).bind fun (r_4 : Str × Bool) => (some (r_4.1, 0)))))))
set_option maxHeartbeats 4000000 in
set_option maxRecDepth 20000 in
theorem F16_calls (k : Str) (p : Str) (r : Str × Int) (H : halberdref9_Mul k p = some r) :
  Does Try.prog 16 [vs k, vs p] [] [] (Γ := Unit) (fun g => Value.tuple [vs r.1, vi r.2].toArray) (fun g => []) := by
 intro w hmem hro hd
 refine calls_of (N := 36) (m0 := [(0, vs k), (1, vs p)]) Try.func16 rfl Try.ntmps16 (argM_ok [vs k, vs p]) rfl hmem hro hd ?_
 unfold halberdref9_Mul at H
 refine TC_seq ?_
 refine TC_region ?_
 refine TLv (V_assign rfl) ?_
 refine TLv (V_assign rfl) ?_
 refine TL_nil ?_
 refine TX_next ?_
 refine TC_seq ?_
 refine TC_region ?_
 refine TLv (V_move rfl) ?_
 obtain ⟨r_1, hr_1, H⟩ := bind_elim H
 refine TLe (E_c0 (F37_calls k r_1 hr_1) Try.call37 .z) (fun g_1 => ?_)
 refine TLv (V_move rfl) ?_
 refine TLv V_ex ?_
 refine TLv V_ex ?_
 refine TLe (E_al32 8 TryI.inf31 TryI.zer31) (fun b1 => ?_)
 refine TLn (E_sv (vs := e32 r_1.1.toList) 0 TryI.inf31) (fun _ => ?_)
 refine TLv (V_assign rfl) ?_
 refine TL_nil ?_
 refine TX_next ?_
 refine TC_seq ?_
 refine TC_region ?_
 refine TLv (V_move rfl) ?_
 obtain ⟨r_2, hr_2, H⟩ := bind_elim H
 refine TLe (E_c0 (F19_calls p r_2 hr_2) Try.call19 .z) (fun g_2 => ?_)
 refine TLv (V_move rfl) ?_
 refine TLv V_ex ?_
 refine TLv V_ex ?_
 refine TLe (E_allocP [(8, e32 ((replicate 8 0#32).toList)), (8, e32 ((replicate 8 0#32).toList)), (8, e32 ((replicate 8 0#32).toList))] TryI.inf33 TryI.zer33 ⟨(lenV (f := v32) (replicate 8 0#32)), (lenV (f := v32) (replicate 8 0#32)), (lenV (f := v32) (replicate 8 0#32)), trivial⟩) (fun b2 => ?_)
 refine TLn (E_sp (b := b2) (o := 0) [0, 0, 0] [(8, e32 ((replicate 8 0#32).toList)), (8, e32 ((replicate 8 0#32).toList)), (8, e32 ((replicate 8 0#32).toList))] [(8, e32 r_2.1.toList), (8, e32 r_2.2.1.toList), (8, e32 r_2.2.2.1.toList)] rfl TryI.inf33 ⟨(lenV (f := v32) (replicate 8 0#32)), (lenV (f := v32) (replicate 8 0#32)), (lenV (f := v32) (replicate 8 0#32)), trivial⟩ ⟨(lenV (f := v32) r_2.1), (lenV (f := v32) r_2.2.1), (lenV (f := v32) r_2.2.2.1), trivial⟩ ⟨(OneC.map (fun _ => rfl) _), (OneC.map (fun _ => rfl) _), (OneC.map (fun _ => rfl) _), trivial⟩) (fun _ => ?_)
 refine TLv (V_assign rfl) ?_
 refine TL_nil ?_
 refine TX_next ?_
 refine TC_seq ?_
 refine TC_seq ?_
 refine TC_region ?_
 refine TLv (V_move rfl) ?_
 refine TLv (V_un rfl (fun w => notB w r_1.2)) ?_
 refine TLv (V_move rfl) ?_
 obtain ⟨j1, Hj, H⟩ := bind_elim H
 refine TL_join (Γ := Unit) (fun gj1 => [(6, ptr (some (b1, 0)) 0), (8, ptr (some (b2, 0)) 0), (27, vb j1)]) (fun gj1 => [⟨some (b1, 0), e32 r_1.1.toList⟩, ⟨some (b2, 0), e32 r_2.1.toList⟩, ⟨some (b2, 8), e32 r_2.2.1.toList⟩, ⟨some (b2, 16), e32 r_2.2.2.1.toList⟩]) ?_ ?_
 ·intro gj1
  refine TX_next ?_
  refine TC_cond (b := j1) rfl (fun hc => ?_) (fun hc => ?_)
  ·replace H := ite_t hc H
   refine TC_seq ?_
   refine TC_region ?_
   refine TLv (V_assign rfl) ?_
   refine TLv (V_assign rfl) ?_
   refine TL_nil ?_
   refine TX_next ?_
   refine TC_ret ?_
   refine TX_then_ret ?_
   have hrv := Option.some.inj H
   subst hrv
   exact TX_ret (rs := [.tmp 4, .tmp 5]) (vs := [vs ([] : Str), vi 1100]) rfl ⟨rfl, rfl, trivial⟩ (fun w' hs' => ⟨(), rfl, Step.left (Step.pulled (is := []) (A := []) hs' rfl)⟩)
  ·replace H := ite_f (Bool.eq_false_iff.1 hc) H
   refine TC_skip ?_
   refine TX_next ?_
   refine TC_seq ?_
   refine TC_region ?_
   refine TLv (V_lag (.o 0) Try.isAgg31 TryI.inf31) ?_
   refine TLv (V_loadAgg (n := 24) (cs := flat [(8, e32 r_2.1.toList), (8, e32 r_2.2.1.toList), (8, e32 r_2.2.2.1.toList)]) rfl (by simp) (SrcEnts (b := b2) [(8, e32 r_2.1.toList), (8, e32 r_2.2.1.toList), (8, e32 r_2.2.2.1.toList)] 0 ⟨(lenV (f := v32) r_2.1), (lenV (f := v32) r_2.2.1), (lenV (f := v32) r_2.2.2.1), trivial⟩ (AllSrc.all (M := ents b2 0 [(8, e32 r_2.1.toList), (8, e32 r_2.2.1.toList), (8, e32 r_2.2.2.1.toList)]) ⟨Src.own (j := 1) rfl, Src.own (j := 2) rfl, Src.own (j := 3) rfl, trivial⟩)) Try.isAgg33 TryI.inf33 rfl (flat_len ⟨(lenV (f := v32) r_2.1), (lenV (f := v32) r_2.2.1), (lenV (f := v32) r_2.2.2.1), trivial⟩ rfl)) ?_
   obtain ⟨r_3, hr_3, H⟩ := bind_elim H
   refine TLe (E_c0 (F39_calls r_1.1 r_2.1 r_2.2.1 r_2.2.2.1 r_3 hr_3) Try.call39 .z) (fun g_3 => ?_)
   obtain ⟨r_4, hr_4, H⟩ := bind_elim H
   refine TLe (E_c0 (F38_calls r_3.1 r_3.2.1 r_3.2.2 r_4 hr_4) Try.call38 .z) (fun g_4 => ?_)
   refine TLv (V_move rfl) ?_
   refine TLv V_ex ?_
   refine TLv V_ex ?_
   refine TLv (V_assign rfl) ?_
   refine TLv (V_assign rfl) ?_
   refine TL_nil ?_
   refine TX_next ?_
   refine TC_seq ?_
   refine TC_region ?_
   refine TLv (V_move rfl) ?_
   refine TLv (V_assign rfl) ?_
   refine TLv (V_assign rfl) ?_
   refine TL_nil ?_
   refine TX_next ?_
   refine TC_ret ?_
   have hrv := Option.some.inj H
   subst hrv
   exact TX_ret (rs := [.tmp 4, .tmp 5]) (vs := [vs r_4.1, vi 0]) rfl ⟨rfl, rfl, trivial⟩ (fun w' hs' => ⟨(), rfl, Step.left (Step.pulled (is := []) (A := []) hs' rfl)⟩)
 ·intro hJ
  replace H := Hj
  refine TL_fork (d := 24) (b := (!r_1.2)) rfl (fun hc => ?_) (fun hc => ?_)
  ·replace H := ite_t hc H
   refine TL_skip rfl rfl rfl rfl rfl rfl rfl ?_
   refine TL_skip rfl rfl rfl rfl rfl rfl rfl ?_
   refine TLv (V_pick (b := true) rfl rfl) ?_
   refine TL_nil ?_
   refine TX.sub (m' := [(6, ptr (some (b1, 0)) 0), (8, ptr (some (b2, 0)) 0), (27, vb true)]) ⟨rfl, rfl, rfl, trivial⟩ ?_
   refine TX.pull (is := [3, 0, 0, 0]) (L' := [⟨some (b1, 0), e32 r_1.1.toList⟩, ⟨some (b2, 0), e32 r_2.1.toList⟩, ⟨some (b2, 8), e32 r_2.2.1.toList⟩, ⟨some (b2, 16), e32 r_2.2.2.1.toList⟩]) rfl ?_
   obtain rfl := Option.some.inj H
   exact hJ ()
  ·replace H := ite_f (Bool.eq_false_iff.1 hc) H
   refine TL_want rfl rfl rfl rfl rfl rfl (V_move rfl) ?_
   refine TL_want rfl rfl rfl rfl rfl rfl (V_un rfl (fun w => notB w r_2.2.2.2)) ?_
   refine TLv (V_pick (b := false) rfl rfl) ?_
   refine TL_nil ?_
   refine TX.sub (m' := [(6, ptr (some (b1, 0)) 0), (8, ptr (some (b2, 0)) 0), (27, vb (!r_2.2.2.2))]) ⟨rfl, rfl, rfl, trivial⟩ ?_
   refine TX.pull (is := [3, 0, 0, 0]) (L' := [⟨some (b1, 0), e32 r_1.1.toList⟩, ⟨some (b2, 0), e32 r_2.1.toList⟩, ⟨some (b2, 8), e32 r_2.2.1.toList⟩, ⟨some (b2, 16), e32 r_2.2.2.1.toList⟩]) rfl ?_
   obtain rfl := Option.some.inj H
   exact hJ ()
end Go.Proofs
end

section
namespace Go.Proofs
open Go Go.Kx
open Vector (replicate)
def halberdref9_Add (p : Str) (q : Str) : Option (Str × Int) :=
 (halberdref9_Decode p).bind fun (r_1 : Vx 32 8 × Vx 32 8 × Vx 32 8 × Bool) => ((halberdref9_Decode q).bind fun (r_2 : Vx 32 8 × Vx 32 8 × Vx 32 8 × Bool) => ((if (!r_1.2.2.2) = true then (some true) else (some (!r_2.2.2.2))).bind fun (j1 : Bool) => (if j1 = true then (some (([] : Str), 1100)) else ((halberdref9_together r_1.1 r_1.2.1 r_1.2.2.1 r_2.1 r_2.2.1 r_2.2.2.1).bind fun (r_3 : Vx 32 8 × Vx 32 8 × Vx 32 8) => ((halberdref9_encode r_3.1 r_3.2.1 r_3.2.2).bind fun (r_4 : Str × Bool) => (if (!r_4.2) = true then (some (([] : Str), 1100)) else (some (r_4.1, 0))))))))
set_option maxHeartbeats 4000000 in
set_option maxRecDepth 20000 in
theorem F18_calls (p : Str) (q : Str) (r : Str × Int) (H : halberdref9_Add p q = some r) :
  Does Try.prog 18 [vs p, vs q] [] [] (Γ := Unit) (fun g => Value.tuple [vs r.1, vi r.2].toArray) (fun g => []) := by
 intro w hmem hro hd
 refine calls_of (N := 38) (m0 := [(0, vs p), (1, vs q)]) Try.func18 rfl Try.ntmps18 (argM_ok [vs p, vs q]) rfl hmem hro hd ?_
 unfold halberdref9_Add at H
 refine TC_seq ?_
 refine TC_region ?_
 refine TLv (V_assign rfl) ?_
 refine TLv (V_assign rfl) ?_
 refine TL_nil ?_
 refine TX_next ?_
 refine TC_seq ?_
 refine TC_region ?_
 refine TLv (V_move rfl) ?_
 obtain ⟨r_1, hr_1, H⟩ := bind_elim H
 refine TLe (E_c0 (F19_calls p r_1 hr_1) Try.call19 .z) (fun g_1 => ?_)
 refine TLv (V_move rfl) ?_
 refine TLv V_ex ?_
 refine TLv V_ex ?_
 refine TLe (E_allocP [(8, e32 ((replicate 8 0#32).toList)), (8, e32 ((replicate 8 0#32).toList)), (8, e32 ((replicate 8 0#32).toList))] TryI.inf33 TryI.zer33 ⟨(lenV (f := v32) (replicate 8 0#32)), (lenV (f := v32) (replicate 8 0#32)), (lenV (f := v32) (replicate 8 0#32)), trivial⟩) (fun b1 => ?_)
 refine TLn (E_sp (b := b1) (o := 0) [0, 0, 0] [(8, e32 ((replicate 8 0#32).toList)), (8, e32 ((replicate 8 0#32).toList)), (8, e32 ((replicate 8 0#32).toList))] [(8, e32 r_1.1.toList), (8, e32 r_1.2.1.toList), (8, e32 r_1.2.2.1.toList)] rfl TryI.inf33 ⟨(lenV (f := v32) (replicate 8 0#32)), (lenV (f := v32) (replicate 8 0#32)), (lenV (f := v32) (replicate 8 0#32)), trivial⟩ ⟨(lenV (f := v32) r_1.1), (lenV (f := v32) r_1.2.1), (lenV (f := v32) r_1.2.2.1), trivial⟩ ⟨(OneC.map (fun _ => rfl) _), (OneC.map (fun _ => rfl) _), (OneC.map (fun _ => rfl) _), trivial⟩) (fun _ => ?_)
 refine TLv (V_assign rfl) ?_
 refine TL_nil ?_
 refine TX_next ?_
 refine TC_seq ?_
 refine TC_region ?_
 refine TLv (V_move rfl) ?_
 obtain ⟨r_2, hr_2, H⟩ := bind_elim H
 refine TLe (E_c0 (F19_calls q r_2 hr_2) Try.call19 .z) (fun g_2 => ?_)
 refine TLv (V_move rfl) ?_
 refine TLv V_ex ?_
 refine TLv V_ex ?_
 refine TLe (E_allocP [(8, e32 ((replicate 8 0#32).toList)), (8, e32 ((replicate 8 0#32).toList)), (8, e32 ((replicate 8 0#32).toList))] TryI.inf33 TryI.zer33 ⟨(lenV (f := v32) (replicate 8 0#32)), (lenV (f := v32) (replicate 8 0#32)), (lenV (f := v32) (replicate 8 0#32)), trivial⟩) (fun b2 => ?_)
 refine TLn (E_sp (b := b2) (o := 0) [0, 0, 0] [(8, e32 ((replicate 8 0#32).toList)), (8, e32 ((replicate 8 0#32).toList)), (8, e32 ((replicate 8 0#32).toList))] [(8, e32 r_2.1.toList), (8, e32 r_2.2.1.toList), (8, e32 r_2.2.2.1.toList)] rfl TryI.inf33 ⟨(lenV (f := v32) (replicate 8 0#32)), (lenV (f := v32) (replicate 8 0#32)), (lenV (f := v32) (replicate 8 0#32)), trivial⟩ ⟨(lenV (f := v32) r_2.1), (lenV (f := v32) r_2.2.1), (lenV (f := v32) r_2.2.2.1), trivial⟩ ⟨(OneC.map (fun _ => rfl) _), (OneC.map (fun _ => rfl) _), (OneC.map (fun _ => rfl) _), trivial⟩) (fun _ => ?_)
 refine TLv (V_assign rfl) ?_
 refine TL_nil ?_
 refine TX_next ?_
 refine TC_seq ?_
 refine TC_seq ?_
 refine TC_region ?_
 refine TLv (V_move rfl) ?_
 refine TLv (V_un rfl (fun w => notB w r_1.2.2.2)) ?_
 refine TLv (V_move rfl) ?_
 obtain ⟨j1, Hj, H⟩ := bind_elim H
 refine TL_join (Γ := Unit) (fun gj1 => [(6, ptr (some (b1, 0)) 0), (8, ptr (some (b2, 0)) 0), (27, vb j1)]) (fun gj1 => [⟨some (b1, 0), e32 r_1.1.toList⟩, ⟨some (b1, 8), e32 r_1.2.1.toList⟩, ⟨some (b1, 16), e32 r_1.2.2.1.toList⟩, ⟨some (b2, 0), e32 r_2.1.toList⟩, ⟨some (b2, 8), e32 r_2.2.1.toList⟩, ⟨some (b2, 16), e32 r_2.2.2.1.toList⟩]) ?_ ?_
 ·intro gj1
  refine TX_next ?_
  refine TC_cond (b := j1) rfl (fun hc => ?_) (fun hc => ?_)
  ·replace H := ite_t hc H
   refine TC_seq ?_
   refine TC_region ?_
   refine TLv (V_assign rfl) ?_
   refine TLv (V_assign rfl) ?_
   refine TL_nil ?_
   refine TX_next ?_
   refine TC_ret ?_
   refine TX_then_ret ?_
   have hrv := Option.some.inj H
   subst hrv
   exact TX_ret (rs := [.tmp 4, .tmp 5]) (vs := [vs ([] : Str), vi 1100]) rfl ⟨rfl, rfl, trivial⟩ (fun w' hs' => ⟨(), rfl, Step.left (Step.pulled (is := []) (A := []) hs' rfl)⟩)
  ·replace H := ite_f (Bool.eq_false_iff.1 hc) H
   refine TC_skip ?_
   refine TX_next ?_
   refine TC_seq ?_
   refine TC_region ?_
   refine TLv (V_loadAgg (n := 24) (cs := flat [(8, e32 r_1.1.toList), (8, e32 r_1.2.1.toList), (8, e32 r_1.2.2.1.toList)]) rfl (by simp) (SrcEnts (b := b1) [(8, e32 r_1.1.toList), (8, e32 r_1.2.1.toList), (8, e32 r_1.2.2.1.toList)] 0 ⟨(lenV (f := v32) r_1.1), (lenV (f := v32) r_1.2.1), (lenV (f := v32) r_1.2.2.1), trivial⟩ (AllSrc.all (M := ents b1 0 [(8, e32 r_1.1.toList), (8, e32 r_1.2.1.toList), (8, e32 r_1.2.2.1.toList)]) ⟨Src.own (j := 0) rfl, Src.own (j := 1) rfl, Src.own (j := 2) rfl, trivial⟩)) Try.isAgg33 TryI.inf33 rfl (flat_len ⟨(lenV (f := v32) r_1.1), (lenV (f := v32) r_1.2.1), (lenV (f := v32) r_1.2.2.1), trivial⟩ rfl)) ?_
   refine TLv (V_loadAgg (n := 24) (cs := flat [(8, e32 r_2.1.toList), (8, e32 r_2.2.1.toList), (8, e32 r_2.2.2.1.toList)]) rfl (by simp) (SrcEnts (b := b2) [(8, e32 r_2.1.toList), (8, e32 r_2.2.1.toList), (8, e32 r_2.2.2.1.toList)] 0 ⟨(lenV (f := v32) r_2.1), (lenV (f := v32) r_2.2.1), (lenV (f := v32) r_2.2.2.1), trivial⟩ (AllSrc.all (M := ents b2 0 [(8, e32 r_2.1.toList), (8, e32 r_2.2.1.toList), (8, e32 r_2.2.2.1.toList)]) ⟨Src.own (j := 3) rfl, Src.own (j := 4) rfl, Src.own (j := 5) rfl, trivial⟩)) Try.isAgg33 TryI.inf33 rfl (flat_len ⟨(lenV (f := v32) r_2.1), (lenV (f := v32) r_2.2.1), (lenV (f := v32) r_2.2.2.1), trivial⟩ rfl)) ?_
   obtain ⟨r_3, hr_3, H⟩ := bind_elim H
   refine TLe (E_c0 (F44_calls r_1.1 r_1.2.1 r_1.2.2.1 r_2.1 r_2.2.1 r_2.2.2.1 r_3 hr_3) Try.call44 .z) (fun g_3 => ?_)
   obtain ⟨r_4, hr_4, H⟩ := bind_elim H
   refine TLe (E_c0 (F38_calls r_3.1 r_3.2.1 r_3.2.2 r_4 hr_4) Try.call38 .z) (fun g_4 => ?_)
   refine TLv (V_move rfl) ?_
   refine TLv V_ex ?_
   refine TLv V_ex ?_
   refine TLv (V_assign rfl) ?_
   refine TLv (V_assign rfl) ?_
   refine TL_nil ?_
   refine TX_next ?_
   refine TC_seq ?_
   refine TC_seq ?_
   refine TC_region ?_
   refine TLv (V_move rfl) ?_
   refine TLv (V_un rfl (fun w => notB w r_4.2)) ?_
   refine TL_nil ?_
   refine TX_next ?_
   refine TC_cond (b := (!r_4.2)) rfl (fun hc => ?_) (fun hc => ?_)
   ·replace H := ite_t hc H
    refine TC_seq ?_
    refine TC_region ?_
    refine TLv (V_assign rfl) ?_
    refine TLv (V_assign rfl) ?_
    refine TL_nil ?_
    refine TX_next ?_
    refine TC_ret ?_
    refine TX_then_ret ?_
    have hrv := Option.some.inj H
    subst hrv
    exact TX_ret (rs := [.tmp 4, .tmp 5]) (vs := [vs ([] : Str), vi 1100]) rfl ⟨rfl, rfl, trivial⟩ (fun w' hs' => ⟨(), rfl, Step.left (Step.pulled (is := []) (A := []) hs' rfl)⟩)
   ·replace H := ite_f (Bool.eq_false_iff.1 hc) H
    refine TC_skip ?_
    refine TX_next ?_
    refine TC_seq ?_
    refine TC_region ?_
    refine TLv (V_move rfl) ?_
    refine TLv (V_assign rfl) ?_
    refine TLv (V_assign rfl) ?_
    refine TL_nil ?_
    refine TX_next ?_
    refine TC_ret ?_
    have hrv := Option.some.inj H
    subst hrv
    exact TX_ret (rs := [.tmp 4, .tmp 5]) (vs := [vs r_4.1, vi 0]) rfl ⟨rfl, rfl, trivial⟩ (fun w' hs' => ⟨(), rfl, Step.left (Step.pulled (is := []) (A := []) hs' rfl)⟩)
 ·intro hJ
  replace H := Hj
  refine TL_fork (d := 24) (b := (!r_1.2.2.2)) rfl (fun hc => ?_) (fun hc => ?_)
  ·replace H := ite_t hc H
   refine TL_skip rfl rfl rfl rfl rfl rfl rfl ?_
   refine TL_skip rfl rfl rfl rfl rfl rfl rfl ?_
   refine TLv (V_pick (b := true) rfl rfl) ?_
   refine TL_nil ?_
   refine TX.sub (m' := [(6, ptr (some (b1, 0)) 0), (8, ptr (some (b2, 0)) 0), (27, vb true)]) ⟨rfl, rfl, rfl, trivial⟩ ?_
   refine TX.pull (is := [3, 3, 3, 0, 0, 0]) (L' := [⟨some (b1, 0), e32 r_1.1.toList⟩, ⟨some (b1, 8), e32 r_1.2.1.toList⟩, ⟨some (b1, 16), e32 r_1.2.2.1.toList⟩, ⟨some (b2, 0), e32 r_2.1.toList⟩, ⟨some (b2, 8), e32 r_2.2.1.toList⟩, ⟨some (b2, 16), e32 r_2.2.2.1.toList⟩]) rfl ?_
   obtain rfl := Option.some.inj H
   exact hJ ()
  ·replace H := ite_f (Bool.eq_false_iff.1 hc) H
   refine TL_want rfl rfl rfl rfl rfl rfl (V_move rfl) ?_
   refine TL_want rfl rfl rfl rfl rfl rfl (V_un rfl (fun w => notB w r_2.2.2.2)) ?_
   refine TLv (V_pick (b := false) rfl rfl) ?_
   refine TL_nil ?_
   refine TX.sub (m' := [(6, ptr (some (b1, 0)) 0), (8, ptr (some (b2, 0)) 0), (27, vb (!r_2.2.2.2))]) ⟨rfl, rfl, rfl, trivial⟩ ?_
   refine TX.pull (is := [3, 3, 3, 0, 0, 0]) (L' := [⟨some (b1, 0), e32 r_1.1.toList⟩, ⟨some (b1, 8), e32 r_1.2.1.toList⟩, ⟨some (b1, 16), e32 r_1.2.2.1.toList⟩, ⟨some (b2, 0), e32 r_2.1.toList⟩, ⟨some (b2, 8), e32 r_2.2.1.toList⟩, ⟨some (b2, 16), e32 r_2.2.2.1.toList⟩]) rfl ?_
   obtain rfl := Option.some.inj H
   exact hJ ()
end Go.Proofs
end

section
namespace Go.Kx
open Go Go.Proofs
open Vector (replicate)
open Go.Nt hiding n4
def F4 (v : Vx 64 4) (f : Fp) : Prop := R4 P256 v (toN f)
def F8 (v : Vx 32 8) (f : Fp) : Prop := R8 P256 v (toN f)
theorem F4_0 : F4 (replicate 4 0#64) 0 := R4_zero md_P
theorem F8_0 : F8 (replicate 8 0#32) 0 := R8_zero md_P
theorem toN_zero {f : Fp} : toN f = 0 ↔ f = 0 := ⟨fun h => toN_inj (h.trans toN_0.symm), fun h => by rw [h]; rfl⟩
open Classical in
theorem F4.zero {v : Vx 64 4} {f : Fp} (h : F4 v f) : num_Nat_Zero v = some (decide (f = 0)) := by
 rw [R4.zero md_P h]
 congr 1
 exact decide_eq_decide.2 toN_zero
theorem F8.zero {v : Vx 32 8} {f : Fp} (h : F8 v f) : v = replicate 8 0#32 ↔ f = 0 := (R8.zero md_P h).trans toN_zero
section
variable {M : Vx 64 4} {inv : BitVec 64} {one two x y : Vx 64 4} {f g : Fp}
theorem Fd.mulF (F : Fd P256 M inv one two) (hx : F4 x f) (hy : F4 y g) : ∃ r, num_Field_Mul M inv one two x y = some r ∧ F4 r (f * g) := by
 obtain ⟨r, h1, h2⟩ := F.mul hx hy
 exact ⟨r, h1, by unfold F4; rw [toN_mul]; exact h2⟩
theorem Fd.addF (F : Fd P256 M inv one two) (hx : F4 x f) (hy : F4 y g) : ∃ r, num_Field_Add M inv one two x y = some r ∧ F4 r (f + g) := by
 obtain ⟨r, h1, h2⟩ := F.add hx hy
 exact ⟨r, h1, by unfold F4; rw [toN_add]; exact h2⟩
theorem Fd.subF (F : Fd P256 M inv one two) (hx : F4 x f) (hy : F4 y g) : ∃ r, num_Field_Sub M inv one two x y = some r ∧ F4 r (f - g) := by
 obtain ⟨r, h1, h2⟩ := F.sub hx hy
 exact ⟨r, h1, by unfold F4; rw [toN_sub]; exact h2⟩
end
section
variable {x y : Vx 32 8} {f g : Fp}
theorem Rd.mulF (F : Rd P256 0) (hx : F8 x f) (hy : F8 y g) : ∃ r, halberdref9_mont 0 x y = some r ∧ F8 r (f * g) := by
 obtain ⟨r, h1, h2⟩ := F.mul hx hy
 exact ⟨r, h1, by unfold F8; rw [toN_mul]; exact h2⟩
theorem Rd.addF (F : Rd P256 0) (hx : F8 x f) (hy : F8 y g) : ∃ r, halberdref9_add 0 x y = some r ∧ F8 r (f + g) := by
 obtain ⟨r, h1, h2⟩ := F.add hx hy
 exact ⟨r, h1, by unfold F8; rw [toN_add]; exact h2⟩
theorem Rd.subF (F : Rd P256 0) (hx : F8 x f) (hy : F8 y g) : ∃ r, halberdref9_sub 0 x y = some r ∧ F8 r (f - g) := by
 obtain ⟨r, h1, h2⟩ := F.sub hx hy
 exact ⟨r, h1, by unfold F8; rw [toN_sub]; exact h2⟩
end
def T4 (v : Vx 64 4 × Vx 64 4 × Vx 64 4) (t : F3) : Prop := F4 v.1 t.1 ∧ F4 v.2.1 t.2.1 ∧ F4 v.2.2 t.2.2
def T8 (v : Vx 32 8 × Vx 32 8 × Vx 32 8) (t : F3) : Prop := F8 v.1 t.1 ∧ F8 v.2.1 t.2.1 ∧ F8 v.2.2 t.2.2
theorem double_ex {M : Vx 64 4} {inv : BitVec 64} {one two b p_x p_y p_z : Vx 64 4} {t : F3} (F : Fd P256 M inv one two) (h : T4 (p_x, p_y, p_z) t) :
  ∃ r, pcurve_curve_double M inv one two b p_x p_y p_z = some r ∧ T4 r (jDbl t) := by
 obtain ⟨X, Y, Z⟩ := t
 obtain ⟨hp_x, hp_y, hp_z⟩ := h
 dsimp only at hp_x hp_y hp_z
 obtain ⟨r_1, er_1, fr_1⟩ := F.mulF hp_z hp_z
 obtain ⟨r_2, er_2, fr_2⟩ := F.mulF hp_y hp_y
 obtain ⟨r_3, er_3, fr_3⟩ := F.mulF hp_x fr_2
 obtain ⟨r_4, er_4, fr_4⟩ := F.subF hp_x fr_1
 obtain ⟨r_5, er_5, fr_5⟩ := F.addF hp_x fr_1
 obtain ⟨r_6, er_6, fr_6⟩ := F.mulF fr_4 fr_5
 obtain ⟨r_7, er_7, fr_7⟩ := F.addF fr_6 fr_6
 obtain ⟨r_8, er_8, fr_8⟩ := F.addF fr_6 fr_7
 obtain ⟨r_9, er_9, fr_9⟩ := F.addF fr_3 fr_3
 obtain ⟨r_10, er_10, fr_10⟩ := F.addF fr_9 fr_9
 obtain ⟨r_11, er_11, fr_11⟩ := F.mulF fr_8 fr_8
 obtain ⟨r_12, er_12, fr_12⟩ := F.addF fr_10 fr_10
 obtain ⟨r_13, er_13, fr_13⟩ := F.subF fr_11 fr_12
 obtain ⟨r_14, er_14, fr_14⟩ := F.addF hp_y hp_z
 obtain ⟨r_15, er_15, fr_15⟩ := F.mulF fr_14 fr_14
 obtain ⟨r_16, er_16, fr_16⟩ := F.subF fr_15 fr_2
 obtain ⟨r_17, er_17, fr_17⟩ := F.subF fr_16 fr_1
 obtain ⟨r_18, er_18, fr_18⟩ := F.mulF fr_2 fr_2
 obtain ⟨r_19, er_19, fr_19⟩ := F.addF fr_18 fr_18
 obtain ⟨r_20, er_20, fr_20⟩ := F.addF fr_19 fr_19
 obtain ⟨r_21, er_21, fr_21⟩ := F.subF fr_10 fr_13
 obtain ⟨r_22, er_22, fr_22⟩ := F.mulF fr_8 fr_21
 obtain ⟨r_23, er_23, fr_23⟩ := F.addF fr_20 fr_20
 obtain ⟨r_24, er_24, fr_24⟩ := F.subF fr_22 fr_23
 refine ⟨(r_13, r_24, r_17), ?_, ?_⟩
 ·unfold pcurve_curve_double
  exact bind_i er_1 (bind_i er_2 (bind_i er_3 (bind_i er_4 (bind_i er_5 (bind_i er_6 (bind_i er_7 (bind_i er_8 (bind_i er_9 (bind_i er_10 (bind_i er_11 (bind_i er_12 (bind_i er_13 (bind_i er_14 (bind_i er_15 (bind_i er_16 (bind_i er_17 (bind_i er_18 (bind_i er_19 (bind_i er_20 (bind_i er_21 (bind_i er_22 (bind_i er_23 (bind_i er_24 (rfl))))))))))))))))))))))))
 ·refine ⟨fr_13, fr_24, ?_⟩
  have e : (jDbl (X, Y, Z)).2.2 = (Y + Z) * (Y + Z) - Y * Y - Z * Z := by unfold jDbl; dsimp only; grind
  rw [e]; exact fr_17
theorem add_ex {M : Vx 64 4} {inv : BitVec 64} {one two b p_x p_y p_z q_x q_y q_z : Vx 64 4} {t u : F3} (F : Fd P256 M inv one two) (h : T4 (p_x, p_y, p_z) t) (k : T4 (q_x, q_y, q_z) u) :
  ∃ r, pcurve_curve_add M inv one two b p_x p_y p_z q_x q_y q_z = some r ∧ T4 r (jAdd t u) := by
 obtain ⟨X1, Y1, Z1⟩ := t
 obtain ⟨X2, Y2, Z2⟩ := u
 have hh := h
 obtain ⟨hp_x, hp_y, hp_z⟩ := h
 obtain ⟨hq_x, hq_y, hq_z⟩ := k
 dsimp only at hp_x hp_y hp_z hq_x hq_y hq_z
 unfold pcurve_curve_add
 by_cases hz1 : Z1 = 0
 ·refine ⟨(q_x, q_y, q_z), bind_i hp_z.zero (if_i (by simp [hz1]) rfl), ?_⟩
  rw [show jAdd (X1, Y1, Z1) (X2, Y2, Z2) = (X2, Y2, Z2) from if_pos hz1]
  exact ⟨hq_x, hq_y, hq_z⟩
 by_cases hz2 : Z2 = 0
 ·refine ⟨(p_x, p_y, p_z), bind_i hp_z.zero (if_n (by simp [hz1]) (bind_i hq_z.zero (if_i (by simp [hz2]) rfl))), ?_⟩
  rw [show jAdd (X1, Y1, Z1) (X2, Y2, Z2) = (X1, Y1, Z1) from (if_neg hz1).trans (if_pos hz2)]
  exact ⟨hp_x, hp_y, hp_z⟩
 obtain ⟨r_3, er_3, fr_3⟩ := F.mulF hp_z hp_z
 obtain ⟨r_4, er_4, fr_4⟩ := F.mulF hq_z hq_z
 obtain ⟨r_5, er_5, fr_5⟩ := F.mulF hp_x fr_4
 obtain ⟨r_6, er_6, fr_6⟩ := F.mulF hq_x fr_3
 obtain ⟨r_7, er_7, fr_7⟩ := F.mulF hq_z fr_4
 obtain ⟨r_8, er_8, fr_8⟩ := F.mulF hp_y fr_7
 obtain ⟨r_9, er_9, fr_9⟩ := F.mulF hp_z fr_3
 obtain ⟨r_10, er_10, fr_10⟩ := F.mulF hq_y fr_9
 obtain ⟨r_11, er_11, fr_11⟩ := F.subF fr_6 fr_5
 obtain ⟨r_12, er_12, fr_12⟩ := F.subF fr_10 fr_8
 by_cases hH : X2 * (Z1 * Z1) - X1 * (Z2 * Z2) = 0
 ·by_cases hR : Y2 * (Z1 * (Z1 * Z1)) - Y1 * (Z2 * (Z2 * Z2)) = 0
  ·obtain ⟨d, hd, td⟩ := double_ex (b := b) F hh
   refine ⟨(d.1, d.2.1, d.2.2), bind_i hp_z.zero (if_n (by simp [hz1]) (bind_i hq_z.zero (if_n (by simp [hz2]) (bind_i er_3 (bind_i er_4 (bind_i er_5 (bind_i er_6 (bind_i er_7 (bind_i er_8 (bind_i er_9 (bind_i er_10 (bind_i er_11 (bind_i er_12 (bind_i fr_11.zero (if_i (by simp [hH]) (bind_i fr_12.zero (if_i (by simp [hR]) (bind_i hd rfl)))))))))))))))))), ?_⟩
   rw [show jAdd (X1, Y1, Z1) (X2, Y2, Z2) = jDbl (X1, Y1, Z1) from (if_neg hz1).trans ((if_neg hz2).trans ((if_pos hH).trans (if_pos hR)))]
   exact td
  ·refine ⟨_, bind_i hp_z.zero (if_n (by simp [hz1]) (bind_i hq_z.zero (if_n (by simp [hz2]) (bind_i er_3 (bind_i er_4 (bind_i er_5 (bind_i er_6 (bind_i er_7 (bind_i er_8 (bind_i er_9 (bind_i er_10 (bind_i er_11 (bind_i er_12 (bind_i fr_11.zero (if_i (by simp [hH]) (bind_i fr_12.zero (if_n (by simp [hR]) rfl))))))))))))))))), ?_⟩
   rw [show jAdd (X1, Y1, Z1) (X2, Y2, Z2) = (0, 0, 0) from (if_neg hz1).trans ((if_neg hz2).trans ((if_pos hH).trans (if_neg hR)))]
   exact ⟨F4_0, F4_0, F4_0⟩
 ·obtain ⟨r_16, er_16, fr_16⟩ := F.mulF fr_11 fr_11
  obtain ⟨r_17, er_17, fr_17⟩ := F.mulF fr_11 fr_16
  obtain ⟨r_18, er_18, fr_18⟩ := F.mulF fr_5 fr_16
  obtain ⟨r_19, er_19, fr_19⟩ := F.mulF fr_12 fr_12
  obtain ⟨r_20, er_20, fr_20⟩ := F.subF fr_19 fr_17
  obtain ⟨r_21, er_21, fr_21⟩ := F.addF fr_18 fr_18
  obtain ⟨r_22, er_22, fr_22⟩ := F.subF fr_20 fr_21
  obtain ⟨r_23, er_23, fr_23⟩ := F.subF fr_18 fr_22
  obtain ⟨r_24, er_24, fr_24⟩ := F.mulF fr_12 fr_23
  obtain ⟨r_25, er_25, fr_25⟩ := F.mulF fr_8 fr_17
  obtain ⟨r_26, er_26, fr_26⟩ := F.subF fr_24 fr_25
  obtain ⟨r_27, er_27, fr_27⟩ := F.mulF hp_z hq_z
  obtain ⟨r_28, er_28, fr_28⟩ := F.mulF fr_11 fr_27
  refine ⟨(r_22, r_26, r_28), bind_i hp_z.zero (if_n (by simp [hz1]) (bind_i hq_z.zero (if_n (by simp [hz2]) (bind_i er_3 (bind_i er_4 (bind_i er_5 (bind_i er_6 (bind_i er_7 (bind_i er_8 (bind_i er_9 (bind_i er_10 (bind_i er_11 (bind_i er_12 (bind_i fr_11.zero (if_n (by simp [hH]) (bind_i er_16 (bind_i er_17 (bind_i er_18 (bind_i er_19 (bind_i er_20 (bind_i er_21 (bind_i er_22 (bind_i er_23 (bind_i er_24 (bind_i er_25 (bind_i er_26 (bind_i er_27 (bind_i er_28 (rfl))))))))))))))))))))))))))))), ?_⟩
  rw [show jAdd (X1, Y1, Z1) (X2, Y2, Z2) = _ from (if_neg hz1).trans ((if_neg hz2).trans (if_neg hH))]
  exact ⟨fr_22, fr_26, fr_28⟩
open Classical in
noncomputable def jDbl' (t : F3) : F3 := if t.2.2 = 0 then t else jDbl t
theorem twice_ex {p_X p_Y p_Z : Vx 32 8} {t : F3} (h : T8 (p_X, p_Y, p_Z) t) :
  ∃ r, halberdref9_twice p_X p_Y p_Z = some r ∧ T8 r (jDbl' t) := by
 have F := Rd_P
 obtain ⟨X, Y, Z⟩ := t
 obtain ⟨hp_X, hp_Y, hp_Z⟩ := h
 dsimp only at hp_X hp_Y hp_Z
 unfold halberdref9_twice
 by_cases hz : Z = 0
 ·refine ⟨_, if_i (hp_Z.zero.2 hz) rfl, ?_⟩
  rw [show jDbl' (X, Y, Z) = (X, Y, Z) from if_pos hz]; exact ⟨hp_X, hp_Y, hp_Z⟩
 obtain ⟨r_1, er_1, fr_1⟩ := F.mulF hp_Y hp_Y
 obtain ⟨r_2, er_2, fr_2⟩ := F.mulF hp_X fr_1
 obtain ⟨r_3, er_3, fr_3⟩ := F.addF fr_2 fr_2
 obtain ⟨r_4, er_4, fr_4⟩ := F.addF fr_3 fr_3
 obtain ⟨r_5, er_5, fr_5⟩ := F.mulF hp_Z hp_Z
 obtain ⟨r_6, er_6, fr_6⟩ := F.subF hp_X fr_5
 obtain ⟨r_7, er_7, fr_7⟩ := F.addF hp_X fr_5
 obtain ⟨r_8, er_8, fr_8⟩ := F.mulF fr_6 fr_7
 obtain ⟨r_9, er_9, fr_9⟩ := F.addF fr_8 fr_8
 obtain ⟨r_10, er_10, fr_10⟩ := F.addF fr_8 fr_9
 obtain ⟨r_11, er_11, fr_11⟩ := F.mulF fr_10 fr_10
 obtain ⟨r_12, er_12, fr_12⟩ := F.addF fr_4 fr_4
 obtain ⟨r_13, er_13, fr_13⟩ := F.subF fr_11 fr_12
 obtain ⟨r_14, er_14, fr_14⟩ := F.mulF fr_1 fr_1
 obtain ⟨r_15, er_15, fr_15⟩ := F.addF fr_14 fr_14
 obtain ⟨r_16, er_16, fr_16⟩ := F.addF fr_15 fr_15
 obtain ⟨r_17, er_17, fr_17⟩ := F.addF fr_16 fr_16
 obtain ⟨r_18, er_18, fr_18⟩ := F.mulF hp_Y hp_Z
 obtain ⟨r_19, er_19, fr_19⟩ := F.subF fr_4 fr_13
 obtain ⟨r_20, er_20, fr_20⟩ := F.mulF fr_10 fr_19
 obtain ⟨r_21, er_21, fr_21⟩ := F.subF fr_20 fr_17
 obtain ⟨r_22, er_22, fr_22⟩ := F.addF fr_18 fr_18
 refine ⟨(r_13, r_21, r_22), if_n (fun c => hz (hp_Z.zero.1 c)) (bind_i er_1 (bind_i er_2 (bind_i er_3 (bind_i er_4 (bind_i er_5 (bind_i er_6 (bind_i er_7 (bind_i er_8 (bind_i er_9 (bind_i er_10 (bind_i er_11 (bind_i er_12 (bind_i er_13 (bind_i er_14 (bind_i er_15 (bind_i er_16 (bind_i er_17 (bind_i er_18 (bind_i er_19 (bind_i er_20 (bind_i er_21 (bind_i er_22 (rfl))))))))))))))))))))))), ?_⟩
 rw [show jDbl' (X, Y, Z) = jDbl (X, Y, Z) from if_neg hz]
 exact ⟨fr_13, fr_21, fr_22⟩
theorem together_ex {p_X p_Y p_Z q_X q_Y q_Z : Vx 32 8} {t u : F3} (h : T8 (p_X, p_Y, p_Z) t) (k : T8 (q_X, q_Y, q_Z) u) :
  ∃ r, halberdref9_together p_X p_Y p_Z q_X q_Y q_Z = some r ∧ T8 r (jAdd t u) := by
 have F := Rd_P
 obtain ⟨X1, Y1, Z1⟩ := t
 obtain ⟨X2, Y2, Z2⟩ := u
 have hh := h
 obtain ⟨hp_X, hp_Y, hp_Z⟩ := h
 obtain ⟨hq_X, hq_Y, hq_Z⟩ := k
 dsimp only at hp_X hp_Y hp_Z hq_X hq_Y hq_Z
 unfold halberdref9_together
 by_cases hz1 : Z1 = 0
 ·refine ⟨(q_X, q_Y, q_Z), if_i (hp_Z.zero.2 hz1) rfl, ?_⟩
  rw [show jAdd (X1, Y1, Z1) (X2, Y2, Z2) = (X2, Y2, Z2) from if_pos hz1]
  exact ⟨hq_X, hq_Y, hq_Z⟩
 have z1 : ¬ p_Z = replicate 8 0#32 := fun c => hz1 (hp_Z.zero.1 c)
 by_cases hz2 : Z2 = 0
 ·refine ⟨(p_X, p_Y, p_Z), if_n z1 (if_i (hq_Z.zero.2 hz2) rfl), ?_⟩
  rw [show jAdd (X1, Y1, Z1) (X2, Y2, Z2) = (X1, Y1, Z1) from (if_neg hz1).trans (if_pos hz2)]
  exact ⟨hp_X, hp_Y, hp_Z⟩
 have z2 : ¬ q_Z = replicate 8 0#32 := fun c => hz2 (hq_Z.zero.1 c)
 obtain ⟨r_1, er_1, fr_1⟩ := F.mulF hp_Z hp_Z
 obtain ⟨r_2, er_2, fr_2⟩ := F.mulF hq_Z hq_Z
 obtain ⟨r_3, er_3, fr_3⟩ := F.mulF hp_X fr_2
 obtain ⟨r_4, er_4, fr_4⟩ := F.mulF hq_X fr_1
 obtain ⟨r_5, er_5, fr_5⟩ := F.mulF hq_Z fr_2
 obtain ⟨r_6, er_6, fr_6⟩ := F.mulF hp_Y fr_5
 obtain ⟨r_7, er_7, fr_7⟩ := F.mulF hp_Z fr_1
 obtain ⟨r_8, er_8, fr_8⟩ := F.mulF hq_Y fr_7
 obtain ⟨r_9, er_9, fr_9⟩ := F.subF fr_4 fr_3
 obtain ⟨r_10, er_10, fr_10⟩ := F.subF fr_8 fr_6
 by_cases hH : X2 * (Z1 * Z1) - X1 * (Z2 * Z2) = 0
 ·by_cases hR : Y2 * (Z1 * (Z1 * Z1)) - Y1 * (Z2 * (Z2 * Z2)) = 0
  ·obtain ⟨d, hd, td⟩ := twice_ex hh
   rw [show jDbl' (X1, Y1, Z1) = jDbl (X1, Y1, Z1) from if_neg hz1] at td
   refine ⟨(d.1, d.2.1, d.2.2), if_n z1 (if_n z2 (bind_i er_1 (bind_i er_2 (bind_i er_3 (bind_i er_4 (bind_i er_5 (bind_i er_6 (bind_i er_7 (bind_i er_8 (bind_i er_9 (bind_i er_10 (if_i (fr_9.zero.2 hH) (if_i (fr_10.zero.2 hR) (bind_i hd rfl)))))))))))))), ?_⟩
   rw [show jAdd (X1, Y1, Z1) (X2, Y2, Z2) = jDbl (X1, Y1, Z1) from (if_neg hz1).trans ((if_neg hz2).trans ((if_pos hH).trans (if_pos hR)))]
   exact td
  ·refine ⟨_, if_n z1 (if_n z2 (bind_i er_1 (bind_i er_2 (bind_i er_3 (bind_i er_4 (bind_i er_5 (bind_i er_6 (bind_i er_7 (bind_i er_8 (bind_i er_9 (bind_i er_10 (if_i (fr_9.zero.2 hH) (if_n (fun c => hR (fr_10.zero.1 c)) rfl))))))))))))), ?_⟩
   rw [show jAdd (X1, Y1, Z1) (X2, Y2, Z2) = (0, 0, 0) from (if_neg hz1).trans ((if_neg hz2).trans ((if_pos hH).trans (if_neg hR)))]
   exact ⟨F8_0, F8_0, F8_0⟩
 ·obtain ⟨r_12, er_12, fr_12⟩ := F.mulF fr_9 fr_9
  obtain ⟨r_13, er_13, fr_13⟩ := F.mulF fr_9 fr_12
  obtain ⟨r_14, er_14, fr_14⟩ := F.mulF fr_3 fr_12
  obtain ⟨r_15, er_15, fr_15⟩ := F.mulF fr_10 fr_10
  obtain ⟨r_16, er_16, fr_16⟩ := F.subF fr_15 fr_13
  obtain ⟨r_17, er_17, fr_17⟩ := F.addF fr_14 fr_14
  obtain ⟨r_18, er_18, fr_18⟩ := F.subF fr_16 fr_17
  obtain ⟨r_19, er_19, fr_19⟩ := F.subF fr_14 fr_18
  obtain ⟨r_20, er_20, fr_20⟩ := F.mulF fr_10 fr_19
  obtain ⟨r_21, er_21, fr_21⟩ := F.mulF fr_6 fr_13
  obtain ⟨r_22, er_22, fr_22⟩ := F.subF fr_20 fr_21
  obtain ⟨r_23, er_23, fr_23⟩ := F.mulF hp_Z hq_Z
  obtain ⟨r_24, er_24, fr_24⟩ := F.mulF fr_9 fr_23
  refine ⟨(r_18, r_22, r_24), if_n z1 (if_n z2 (bind_i er_1 (bind_i er_2 (bind_i er_3 (bind_i er_4 (bind_i er_5 (bind_i er_6 (bind_i er_7 (bind_i er_8 (bind_i er_9 (bind_i er_10 (if_n (fun c => hH (fr_9.zero.1 c)) (bind_i er_12 (bind_i er_13 (bind_i er_14 (bind_i er_15 (bind_i er_16 (bind_i er_17 (bind_i er_18 (bind_i er_19 (bind_i er_20 (bind_i er_21 (bind_i er_22 (bind_i er_23 (bind_i er_24 (rfl)))))))))))))))))))))))))), ?_⟩
  rw [show jAdd (X1, Y1, Z1) (X2, Y2, Z2) = _ from (if_neg hz1).trans ((if_neg hz2).trans (if_neg hH))]
  exact ⟨fr_18, fr_22, fr_24⟩
end Go.Kx
end

section
namespace Go.Kx
open Go Go.Proofs
open Vector (replicate)
open Go.Nt hiding n4
def P4 (v : Vx 64 4 × Vx 64 4 × Vx 64 4) (p : Pt) : Prop := okP p ∧ ∃ t, T4 v t ∧ isJ t p
def encQ (q : Fp × Fp) : Str := [4#8] ++ nb32 (toN q.1) ++ nb32 (toN q.2)
def isPt (s : Str) : Prop := ∃ q, okP (some q) ∧ s = encQ q
theorem toN_id {n : Nat} (h : n < P256) : toN (mk (n : Int)) = n := by rw [toN_nat, Nat.mod_eq_of_lt h]
theorem encQ_len (q : Fp × Fp) : (encQ q).length = 65 := by simp [encQ, nb32_len]
theorem encQ_0 (q : Fp × Fp) : sg (encQ q) 0 = 4#8 := rfl
theorem encQ_x (q : Fp × Fp) : sub (encQ q) 1 33 = nb32 (toN q.1) := by
 show sub (4#8 :: (nb32 (toN q.1) ++ nb32 (toN q.2))) 1 33 = _
 simp only [sub, List.drop_succ_cons, List.drop_zero]
 rw [List.take_append_of_le_length (by rw [nb32_len]; omega)]
 exact List.take_of_length_le (by rw [nb32_len]; omega)
theorem encQ_y (q : Fp × Fp) : sub (encQ q) 33 65 = nb32 (toN q.2) := by
 have e : encQ q = ([4#8] ++ nb32 (toN q.1)) ++ nb32 (toN q.2) := rfl
 rw [e]
 simp only [sub]
 have h33 : ([4#8] ++ nb32 (toN q.1)).length = 33 := by simp [nb32_len]
 rw [List.drop_append_of_le_length (by omega), List.drop_of_length_le (by omega), List.nil_append]
 exact List.take_of_length_le (by rw [nb32_len]; omega)
theorem P_lt256 : P256 < 2 ^ 256 := md_P.lt
theorem encQ_inj {p q : Fp × Fp} (h : encQ p = encQ q) : p = q := by
 have h1 : nb32 (toN p.1) = nb32 (toN q.1) := by rw [← encQ_x, ← encQ_x, h]
 have h2 : nb32 (toN p.2) = nb32 (toN q.2) := by rw [← encQ_y, ← encQ_y, h]
 have lt : ∀ f : Fp, toN f < 2 ^ 256 := fun f => Nat.lt_trans (toN_lt f) P_lt256
 have e1 := congrArg bnum h1
 have e2 := congrArg bnum h2
 rw [bnum_nb32 _ (lt _), bnum_nb32 _ (lt _)] at e1 e2
 exact Prod.ext (toN_inj e1) (toN_inj e2)
theorem split65 (s : Str) (h : s.length = 65) : s = [sg s 0] ++ sub s 1 33 ++ sub s 33 65 := by
 apply List.ext_getElem?
 intro i
 by_cases h0 : i < 1
 ·have : i = 0 := by omega
  subst this
  cases s with
  | nil => cases h
  | cons x r => rfl
 ·have l1 : (sub s 1 33).length = 32 := by rw [sub_length (by omega)]
  have l2 : (sub s 33 65).length = 32 := by rw [sub_length (by omega)]
  by_cases h1 : i < 33
  ·rw [List.getElem?_append_left (by simp [l1]; omega), List.getElem?_append_right (by simp; omega)]
   simp only [sub, List.length_singleton, List.getElem?_take, List.getElem?_drop]
   rw [if_pos (by omega), show 1 + (i - 1) = i by omega]
  ·rw [List.getElem?_append_right (by simp [l1]; omega)]
   simp only [sub, List.length_append, List.length_singleton, List.length_take, List.length_drop, List.getElem?_take, List.getElem?_drop]
   by_cases h2 : i < 65
   ·rw [if_pos (by omega)]
    congr 1; omega
   ·rw [if_neg (by omega), List.getElem?_eq_none (by omega)]
theorem isPt_iff (s : Str) : isPt s ↔ s.length = 65 ∧ sg s 0 = 4#8 ∧ bnum (sub s 1 33) < P256 ∧ bnum (sub s 33 65) < P256 ∧ onF (mk (bnum (sub s 1 33) : Int)) (mk (bnum (sub s 33 65) : Int)) := by
 constructor
 ·rintro ⟨q, hq, rfl⟩
  have lt : ∀ f : Fp, toN f < 2 ^ 256 := fun f => Nat.lt_trans (toN_lt f) P_lt256
  rw [encQ_x, encQ_y, bnum_nb32 _ (lt _), bnum_nb32 _ (lt _), mk_toN, mk_toN]
  exact ⟨encQ_len q, encQ_0 q, toN_lt _, toN_lt _, hq⟩
 ·rintro ⟨h1, h2, h3, h4, h5⟩
  refine ⟨(mk (bnum (sub s 1 33) : Int), mk (bnum (sub s 33 65) : Int)), h5, ?_⟩
  unfold encQ
  dsimp only
  rw [toN_id h3, toN_id h4, nb32_bnum _ (by rw [sub_length (by omega)]), nb32_bnum _ (by rw [sub_length (by omega)])]
  conv => lhs; rw [split65 s h1, h2]
section
variable {M : Vx 64 4} {inv : BitVec 64} {one two b : Vx 64 4}
theorem double_pt (F : Fd P256 M inv one two) {x y z : Vx 64 4} {p : Pt} (h : P4 (x, y, z) p) : ∃ r, pcurve_curve_double M inv one two b x y z = some r ∧ P4 r (sumF p p) := by
 obtain ⟨hp, t, h1, h2⟩ := h
 obtain ⟨r, h3, h4⟩ := double_ex (b := b) F h1
 exact ⟨r, h3, sum_ok hp hp, _, h4, isJ_dbl hp h2⟩
theorem add_pt (F : Fd P256 M inv one two) {x y z x' y' z' : Vx 64 4} {p q : Pt} (h : P4 (x, y, z) p) (k : P4 (x', y', z') q) : ∃ r, pcurve_curve_add M inv one two b x y z x' y' z' = some r ∧ P4 r (sumF p q) := by
 obtain ⟨hp, t, h1, h2⟩ := h
 obtain ⟨hq, u, k1, k2⟩ := k
 obtain ⟨r, h3, h4⟩ := add_ex (b := b) F h1 k1
 exact ⟨r, h3, sum_ok hp hq, _, h4, isJ_add hp hq h2 k2⟩
theorem zero_pt : P4 (replicate 4 0#64, replicate 4 0#64, replicate 4 0#64) none := ⟨trivial, (0, 0, 0), ⟨F4_0, F4_0, F4_0⟩, rfl⟩
theorem times_pt (F : Fd P256 M inv one two) {k x y z : Vx 64 4} {a : Nat} (h : P4 (x, y, z) (sG a)) : ∃ r, pcurve_curve_times M inv one two b k x y z = some r ∧ P4 r (sG (n4 k * a)) := by
 have hk := n4_lt k
 have key : ∃ r, loop (pcurve_curve_times.b0 M inv one two b k x y z) BIG (255, replicate 4 0#64, replicate 4 0#64, replicate 4 0#64) = some r ∧ P4 r (sG (n4 k * a)) := by
  refine loop_inv 256 (fun i s => s.1 = 255 - (i : Int) ∧ P4 s.2 (sG (n4 k / 2 ^ (256 - i) * a))) _ (by decide) ⟨rfl, ?_⟩ ?_ ?_
  ·dsimp only
   rw [Nat.sub_zero, Nat.div_eq_of_lt hk, Nat.zero_mul]
   exact zero_pt
  ·rintro i ⟨i', o⟩ hi ⟨hi', ho⟩
   dsimp only at hi' ho
   obtain ⟨j, hj⟩ : ∃ j, j = 255 - i := ⟨_, rfl⟩
   have hij : i' = (j : Int) := by omega
   rw [show 256 - i = j + 1 by omega] at ho
   obtain ⟨r, hr, hR⟩ := double_pt (b := b) F ho
   rw [sG_add] at hR
   have hbit := bit4 k j (by omega)
   have hh := half_eq (n4 k) j
   subst hij
   have w1 : w64 ((j : Int) - 1) = 255 - ((i + 1 : Nat) : Int) := by rw [w64_id (by omega) (by omega)]; omega
   have w2 : w64 ((j : Int).tdiv 64) = ((j / 64 : Nat) : Int) := w64_div (b := 64) (by omega)
   have w3 : (j : Int).tmod 64 = ((j % 64 : Nat) : Int) := tmodN' j 64
   unfold pcurve_curve_times.b0
   dsimp only
   rw [w2, w3]
   simp only [Int.toNat_natCast]
   clear w2 w3
   generalize hc : n4 k / 2 ^ (j + 1) = c at *
   by_cases hb : (vg k (j / 64) >>> (j % 64)) &&& 1#64 = 1#64
   ·obtain ⟨r2, hr2, hR2⟩ := add_pt (b := b) F hR h
    rw [sG_add] at hR2
    refine ⟨(255 - ((i + 1 : Nat) : Int), r2), if_i (by omega) (bind_i hr (if_i (by omega) (if_i (by omega) (if_i hb (bind_i hr2 (ltt_i fun v hv => by rw [hv, w1])))))), rfl, ?_⟩
    dsimp only
    rw [show 256 - (i + 1) = j by omega, hh, hbit.1 hb, show (2 * c + 1) * a = c * a + c * a + a by rw [Nat.add_mul, Nat.mul_assoc, Nat.one_mul, Nat.two_mul]]
    exact hR2
   ·refine ⟨(255 - ((i + 1 : Nat) : Int), r), if_i (by omega) (bind_i hr (if_i (by omega) (if_i (by omega) (if_n hb (ltt_i fun v hv => by rw [hv, w1]))))), rfl, ?_⟩
    dsimp only
    have h0 : n4 k / 2 ^ j % 2 = 0 := by
     have : ¬ (n4 k / 2 ^ j % 2 = 1) := fun h => hb (hbit.2 h)
     omega
    rw [show 256 - (i + 1) = j by omega, hh, h0, Nat.add_zero, show 2 * c * a = c * a + c * a by rw [Nat.mul_assoc, Nat.two_mul]]
    exact hR
  ·rintro ⟨i', o⟩ ⟨hi', ho⟩
   dsimp only at hi' ho
   subst hi'
   refine ⟨o, by unfold pcurve_curve_times.b0; exact if_n (by dsimp only; omega) rfl, ?_⟩
   rw [Nat.sub_self, Nat.pow_zero, Nat.div_one] at ho
   exact ho
 obtain ⟨r, h2, hR⟩ := key
 refine ⟨r, ?_, hR⟩
 unfold pcurve_curve_times
 exact bind_i h2 rfl
theorem Fd.intoF (F : Fd P256 M inv one two) {x : Vx 64 4} (hx : n4 x < P256) : ∃ r, num_Field_In M inv one two x = some r ∧ F4 r (Go.Nt.mk (n4 x : Int)) := by
 obtain ⟨r, h1, h2⟩ := F.into hx
 exact ⟨r, h1, by unfold F4; rw [toN_id hx]; exact h2⟩
theorem Fd.unitF (F : Fd P256 M inv one two) : F4 one 1 := by
 have := F.unit
 rwa [show 1 % P256 = 1 by decide] at this
theorem Fd.outF (F : Fd P256 M inv one two) {x : Vx 64 4} {f : Fp} (hx : F4 x f) : ∃ r, num_Field_Out M inv one two x = some r ∧ n4 r = toN f := F.out hx
theorem pow_inv {f : Fp} (hf : f ≠ 0) : mk ((toN f ^ (P256 - 2) % P256 : Nat) : Int) * f = 1 := by
 have h0 : toN f ≠ 0 := fun h => hf (toN_zero.1 h)
 have hnd : ¬ P256 ∣ toN f := fun hd => by
  have h1 := Nat.le_of_dvd (by omega) hd
  have h2 := toN_lt f
  omega
 have h1 := fermat2 pr_P hnd
 have e : toN f ^ (P256 - 1) = toN f ^ (P256 - 2) * toN f := by
  rw [← Nat.pow_succ]
  exact congrArg (fun z => toN f ^ z) (by decide)
 rw [e] at h1
 apply toN_inj
 rw [toN_mul, toN_nat, Nat.mod_mod, Nat.mod_mul_mod, h1]; rfl
theorem Fd.invF' (F : Fd P256 M inv one two) {x : Vx 64 4} {f : Fp} (hx : F4 x f) : ∃ r, num_Field_Inv M inv one two x = some r ∧ ∃ i, F4 r i ∧ (f ≠ 0 → i * f = 1) := by
 obtain ⟨r, h1, h2⟩ := F.inverse hx
 refine ⟨r, h1, Go.Nt.mk ((toN f ^ (P256 - 2) % P256 : Nat) : Int), ?_, pow_inv⟩
 unfold F4
 rw [toN_id (Nat.mod_lt _ (by decide))]
 exact h2
theorem base_pt (F : Fd P256 M inv one two) : ∃ r, pcurve_curve_base M inv one two b = some r ∧ P4 r (sG 1) := by
 have ex : n4 (#v[17627433388654248598#64, 8575836109218198432#64, 17923454489921339634#64, 7716867327612699207#64] : Vx 64 4) = GX := by decide
 have ey : n4 (#v[14678990851816772085#64, 3156516839386865358#64, 10297457778147434006#64, 5756518291402817435#64] : Vx 64 4) = GY := by decide
 obtain ⟨r1, h1, f1⟩ := F.intoF (x := #v[17627433388654248598#64, 8575836109218198432#64, 17923454489921339634#64, 7716867327612699207#64]) (by rw [ex]; decide)
 obtain ⟨r2, h2, f2⟩ := F.intoF (x := #v[14678990851816772085#64, 3156516839386865358#64, 10297457778147434006#64, 5756518291402817435#64]) (by rw [ey]; decide)
 rw [ex] at f1
 rw [ey] at f2
 refine ⟨(r1, r2, one), ?_, gP_ok, (mk (GX : Int), mk (GY : Int), 1), ⟨f1, f2, F.unitF⟩, F_10, ?_, ?_⟩
 ·unfold pcurve_curve_base
  refine ltt_i fun v hv => ltt_i fun w hw => ?_
  rw [hv, hw]
  exact bind_i h1 (bind_i h2 (bind_i rfl rfl))
 ·show mk (GX : Int) = mk (GX : Int) * (1 * 1); grind
 ·show mk (GY : Int) = mk (GY : Int) * (1 * (1 * 1)); grind
theorem unit_pt {x y : Vx 64 4} {q : Fp × Fp} (hq : okP (some q)) (f3 : F4 x q.1) (f4 : F4 y q.2) (h1 : F4 one 1) : P4 (x, y, one) (some q) := by
 refine ⟨hq, (q.1, q.2, 1), ⟨f3, f4, h1⟩, F_10, ?_, ?_⟩
 ·show q.1 = q.1 * (1 * 1); grind
 ·show q.2 = q.2 * (1 * (1 * 1)); grind
open Classical in
theorem read_ex (F : Fd P256 M inv one two) (hb : F4 b fB) (s : Str) : ∃ X Y Z, pcurve_curve_read M inv one two b s = some (X, Y, Z, decide (isPt s)) ∧ (∃ t, T4 (X, Y, Z) t) ∧ ∀ q, okP (some q) → s = encQ q → P4 (X, Y, Z) (some q) := by
 unfold pcurve_curve_read
 by_cases hl : s.length = 65
 case neg =>
  have hno : ¬ isPt s := fun h => hl ((isPt_iff s).1 h).1
  exact ⟨_, _, _, bind_i (v := true) (if_i (by omega) rfl) (if_i rfl (by simp [hno])), ⟨(0, 0, 0), F4_0, F4_0, F4_0⟩, fun q hq he => absurd ⟨q, hq, he⟩ hno⟩
 by_cases h4 : sg s 0 = 4#8
 case neg =>
  have hno : ¬ isPt s := fun h => h4 ((isPt_iff s).1 h).2.1
  exact ⟨_, _, _, bind_i (v := true) (if_n (by omega) (if_i (by omega) (by simp [h4]))) (if_i rfl (by simp [hno])), ⟨(0, 0, 0), F4_0, F4_0, F4_0⟩, fun q hq he => absurd ⟨q, hq, he⟩ hno⟩
 obtain ⟨x, hx, ex⟩ := F.read (sub s 1 33) (by rw [sub_length (by omega)])
 obtain ⟨y, hy, ey⟩ := F.read (sub s 33 s.length) (by rw [sub_length (by omega), hl])
 have e65 : sub s 33 s.length = sub s 33 65 := by rw [hl]
 rw [e65] at hy ey
 by_cases hxl : bnum (sub s 1 33) < P256
 case neg =>
  have hno : ¬ isPt s := fun h => hxl ((isPt_iff s).1 h).2.2.1
  refine ⟨_, _, _, bind_i (v := false) (if_n (by omega) (if_i (by omega) (by simp [h4]))) (if_n (by decide) (if_i (by omega) (bind_i hx (if_i (by omega) (bind_i (by rw [e65]; exact hy) (bind_i (v := true) (if_i (by simp [hxl]) rfl) (if_i rfl (by simp [hno])))))))), ⟨(0, 0, 0), F4_0, F4_0, F4_0⟩, fun q hq he => absurd ⟨q, hq, he⟩ hno⟩
 by_cases hyl : bnum (sub s 33 65) < P256
 case neg =>
  have hno : ¬ isPt s := fun h => hyl ((isPt_iff s).1 h).2.2.2.1
  refine ⟨_, _, _, bind_i (v := false) (if_n (by omega) (if_i (by omega) (by simp [h4]))) (if_n (by decide) (if_i (by omega) (bind_i hx (if_i (by omega) (bind_i (by rw [e65]; exact hy) (bind_i (v := true) (if_n (by simp [hxl]) (by simp [hyl])) (if_i rfl (by simp [hno])))))))), ⟨(0, 0, 0), F4_0, F4_0, F4_0⟩, fun q hq he => absurd ⟨q, hq, he⟩ hno⟩
 obtain ⟨r3, e3, f3⟩ := F.intoF (x := x) (by rw [ex]; exact hxl)
 obtain ⟨r4, e4, f4⟩ := F.intoF (x := y) (by rw [ey]; exact hyl)
 rw [ex] at f3
 rw [ey] at f4
 obtain ⟨r5, e5, f5⟩ := F.addF f3 f3
 obtain ⟨r6, e6, f6⟩ := F.addF f3 f5
 obtain ⟨r7, e7, f7⟩ := F.mulF f3 f3
 obtain ⟨r8, e8, f8⟩ := F.mulF f3 f7
 obtain ⟨r9, e9, f9⟩ := F.subF f8 f6
 obtain ⟨r10, e10, f10⟩ := F.addF f9 hb
 obtain ⟨r12, e12, f12⟩ := F.mulF f4 f4
 have heq : r12 = r10 ↔ isPt s := by
  rw [R4.inj md_P f12 f10, isPt_iff]
  constructor
  ·intro h
   refine ⟨hl, h4, hxl, hyl, ?_⟩
   have := toN_inj h
   unfold onF
   rw [this]; grind
  ·rintro ⟨-, -, -, -, h⟩
   unfold onF at h
   congr 1
   rw [h]; grind
 refine ⟨r3, r4, one, bind_i (v := false) (if_n (by omega) (if_i (by omega) (by simp [h4]))) (if_n (by decide) (if_i (by omega) (bind_i hx (if_i (by omega) (bind_i (by rw [e65]; exact hy) (bind_i (v := false) (if_n (by simp [hxl]) (by simp [hyl])) (if_n (by decide) ?_))))))), ⟨(_, _, _), f3, f4, F.unitF⟩, ?_⟩
 ·refine bind_i e3 (bind_i e4 (bind_i e5 (bind_i e6 (bind_i e7 (bind_i e8 (bind_i e9 (bind_i e10 (bind_i rfl (bind_i e12 (ltt_i fun v hv => ?_))))))))))
  rw [hv, decide_eq_decide.2 heq]
 ·rintro q hq rfl
  have lt : ∀ f : Fp, toN f < 2 ^ 256 := fun f => Nat.lt_trans (toN_lt f) P_lt256
  rw [encQ_x, bnum_nb32 _ (lt _), mk_toN] at f3
  rw [encQ_y, bnum_nb32 _ (lt _), mk_toN] at f4
  exact unit_pt hq f3 f4 F.unitF
theorem write_ex (F : Fd P256 M inv one two) {x y z : Vx 64 4} {q : Fp × Fp} (h : P4 (x, y, z) (some q)) : pcurve_curve_write M inv one two b x y z = some (encQ q) := by
 obtain ⟨hq, ⟨X, Y, Z⟩, ⟨hX, hY, hZ⟩, hz, eX, eY⟩ := h
 dsimp only at hX hY hZ hz eX eY
 obtain ⟨r1, e1, i, f1, hi⟩ := F.invF' hZ
 have hi := hi hz
 obtain ⟨r2, e2, f2⟩ := F.mulF f1 f1
 obtain ⟨r3, e3, f3⟩ := F.mulF hX f2
 obtain ⟨r4, e4, n4'⟩ := F.outF f3
 obtain ⟨r5, e5, f5⟩ := F.mulF f1 f2
 obtain ⟨r6, e6, f6⟩ := F.mulF hY f5
 obtain ⟨r7, e7, n7'⟩ := F.outF f6
 have x1 : X * (i * i) = q.1 := by
  rw [eX]
  have : q.1 * (Z * Z) * (i * i) = q.1 * ((i * Z) * (i * Z)) := by grind
  rw [this, hi]; grind
 have y1 : Y * (i * (i * i)) = q.2 := by
  rw [eY]
  have : q.2 * (Z * (Z * Z)) * (i * (i * i)) = q.2 * ((i * Z) * ((i * Z) * (i * Z))) := by grind
  rw [this, hi]; grind
 rw [x1] at n4'
 rw [y1] at n7'
 unfold pcurve_curve_write
 refine bind_i e1 (bind_i e2 (bind_i e3 (bind_i e4 (bind_i e5 (bind_i e6 (bind_i e7 (if_i rfl (bind_i (Bytes_eq r4) (if_i ?_ (bind_i (Bytes_eq r7) (if_i ?_ (ltt_i fun v hv => ?_))))))))))))
 ·simp [nb32_len]
 ·simp [nb32_len]
 ·rw [hv, n4', n7']; rfl
end
theorem newCurve_ex : ∃ inv one two b, pcurve_newCurve = some (vP, inv, one, two, b) ∧ Fd P256 vP inv one two ∧ F4 b fB := by
 obtain ⟨inv, one, two, h1, F⟩ := New_P
 have eb : n4 (#v[4309448131093880907#64, 7285987128567378166#64, 12964664127075681980#64, 6540974713487397863#64] : Vx 64 4) = B256 := by decide
 obtain ⟨r, h2, f2⟩ := F.intoF (x := #v[4309448131093880907#64, 7285987128567378166#64, 12964664127075681980#64, 6540974713487397863#64]) (by rw [eb]; decide)
 rw [eb] at f2
 refine ⟨inv, one, two, r, ?_, F, f2⟩
 unfold pcurve_newCurve
 exact bind_i h1 (bind_i h2 rfl)
def isSc (k : Str) : Prop := k.length = 32 ∧ bnum k < N256 ∧ bnum k ≠ 0
open Classical in
theorem Scalar_ex (k : Str) : ∃ x, pcurve_Scalar k = some (x, decide (isSc k)) ∧ (k.length = 32 → n4 x = bnum k) := by
 obtain ⟨inv, one, two, h1, F⟩ := New_N
 unfold pcurve_Scalar
 by_cases hl : k.length = 32
 ·obtain ⟨x, h2, e2⟩ := F.read k hl
  refine ⟨x, bind_i h1 (bind_i h2 ?_), fun _ => e2⟩
  dsimp only
  by_cases hlt : bnum k < N256
  ·rw [if_pos (by simp [hlt])]
   refine bind_i (num_Zero_eq x) ?_
   rw [e2]
   have e : (!(decide (bnum k = 0))) = decide (isSc k) := by
    by_cases h0 : bnum k = 0
    ·have : ¬ isSc k := fun h => h.2.2 h0
     simp [h0, this]
    ·have : isSc k := ⟨hl, hlt, h0⟩
     simp [h0, this]
   rw [e]
  ·rw [if_neg (by simp [hlt])]
   have : ¬ isSc k := fun h => hlt h.2.1
   simp [this]
 ·have hno : ¬ isSc k := fun h => hl h.1
  refine ⟨replicate 4 0#64, bind_i h1 (bind_i (Read_bad k hl) ?_), fun h => absurd h hl⟩
  dsimp only
  rw [if_neg (by decide)]
  simp [hno]
theorem sG_ne {a : Nat} (h : a % N256 ≠ 0) : ∃ q, sG a = some q := by
 cases hs : sG a with
 | none => exact absurd (sG_none hs) h
 | some q => exact ⟨q, rfl⟩
theorem mul_ne {k a : Nat} (hk : k < N256) (hk0 : k ≠ 0) (ha : a % N256 ≠ 0) : k * a % N256 ≠ 0 := fun h => by
 rcases pr_N.dvd_mul (Nat.dvd_of_mod_eq_zero h) with h1 | h1
 ·have := Nat.le_of_dvd (by omega) h1
  omega
 ·exact ha (Nat.mod_eq_zero_of_dvd h1)
def encP : Pt → Str
 | none => []
 | some q => encQ q
theorem pt_cases (s : Str) (h : isPt s) : ∃ a q, a < N256 ∧ a ≠ 0 ∧ sG a = some q ∧ okP (some q) ∧ s = encQ q := by
 obtain ⟨q, hq, hs⟩ := h
 obtain ⟨a, ha, he⟩ := span hq
 refine ⟨a, q, ha, fun h0 => ?_, he.symm, hq, hs⟩
 rw [h0] at he; cases he
open Classical in
theorem On_eq (s : Str) : pcurve_On s = some (decide (isPt s)) := by
 obtain ⟨inv, one, two, b, h1, F, hb⟩ := newCurve_ex
 obtain ⟨X, Y, Z, h2, -, -⟩ := read_ex F hb s
 unfold pcurve_On
 exact bind_i h1 (bind_i h2 rfl)
theorem Public_no (k : Str) (h : ¬ isSc k) : pcurve_Public k = some ([], 1100) := by
 obtain ⟨x, h1, -⟩ := Scalar_ex k
 unfold pcurve_Public
 refine bind_i h1 (if_i (by simp [h]) rfl)
theorem Public_is (k : Str) (h : isSc k) : pcurve_Public k = some (encP (sG (bnum k)), 0) := by
 obtain ⟨x, h1, e1⟩ := Scalar_ex k
 obtain ⟨inv, one, two, b, h2, F, hb⟩ := newCurve_ex
 obtain ⟨g, h3, f3⟩ := base_pt (b := b) F
 obtain ⟨r, h4, f4⟩ := times_pt (b := b) (k := x) F f3
 rw [e1 h.1, Nat.mul_one] at f4
 obtain ⟨q, hq⟩ := sG_ne (a := bnum k) (by rw [Nat.mod_eq_of_lt h.2.1]; exact h.2.2)
 rw [hq] at f4
 unfold pcurve_Public
 refine bind_i h1 (if_n (by simp [h]) (bind_i h2 (bind_i h3 (bind_i h4 (bind_i (write_ex F f4) ?_)))))
 rw [hq]; rfl
theorem Mul_no (k p : Str) (h : ¬ (isSc k ∧ isPt p)) : pcurve_Mul k p = some ([], 1100) := by
 obtain ⟨x, h1, -⟩ := Scalar_ex k
 obtain ⟨inv, one, two, b, h2, F, hb⟩ := newCurve_ex
 obtain ⟨X, Y, Z, h3, -, -⟩ := read_ex F hb p
 unfold pcurve_Mul
 refine bind_i h2 (bind_i h1 (bind_i h3 (bind_i (v := true) ?_ (if_i rfl rfl))))
 by_cases hk : isSc k
 ·have : ¬ isPt p := fun hp => h ⟨hk, hp⟩
  rw [if_neg (by simp [hk])]; simp [this]
 ·rw [if_pos (by simp [hk])]
theorem Mul_is (k : Str) (h : isSc k) {a : Nat} {q : Fp × Fp} (hq : sG a = some q) : pcurve_Mul k (encQ q) = some (encP (sG (bnum k * a)), 0) := by
 have hok : okP (some q) := hq ▸ sG_ok a
 have hpt : isPt (encQ q) := ⟨q, hok, rfl⟩
 obtain ⟨x, h1, e1⟩ := Scalar_ex k
 obtain ⟨inv, one, two, b, h2, F, hb⟩ := newCurve_ex
 obtain ⟨X, Y, Z, h3, -, f3⟩ := read_ex F hb (encQ q)
 have f3 := f3 q hok rfl
 rw [← hq] at f3
 obtain ⟨r, h4, f4⟩ := times_pt (b := b) (k := x) F f3
 rw [e1 h.1] at f4
 have ha : a % N256 ≠ 0 := fun h0 => by rw [sG_mod, h0] at hq; cases hq
 obtain ⟨q', hq'⟩ := sG_ne (mul_ne h.2.1 h.2.2 ha)
 rw [hq'] at f4
 unfold pcurve_Mul
 refine bind_i h2 (bind_i h1 (bind_i h3 (bind_i (v := false) ?_ (if_n (by decide) (bind_i h4 (bind_i (write_ex F f4) ?_))))))
 ·rw [if_neg (by simp [h])]; simp [hpt]
 ·rw [hq']; rfl
theorem Add_no (p q : Str) (h : ¬ (isPt p ∧ isPt q)) : pcurve_Add p q = some ([], 1100) := by
 obtain ⟨inv, one, two, b, h2, F, hb⟩ := newCurve_ex
 obtain ⟨X, Y, Z, h3, ⟨t, ht⟩, -⟩ := read_ex F hb p
 obtain ⟨X', Y', Z', h4, ⟨u, hu⟩, -⟩ := read_ex F hb q
 obtain ⟨r, h5, hr⟩ := add_ex (b := b) F ht hu
 unfold pcurve_Add
 refine bind_i h2 (bind_i h3 (bind_i h4 (bind_i h5 (bind_i (v := true) ?_ (if_i rfl rfl)))))
 by_cases hk : isPt p
 ·have : ¬ isPt q := fun hp => h ⟨hk, hp⟩
  rw [if_neg (by simp [hk]), if_pos (by simp [this])]
 ·rw [if_pos (by simp [hk])]
theorem Add_is {a b : Nat} {p q : Fp × Fp} (hp : sG a = some p) (hq : sG b = some q) : pcurve_Add (encQ p) (encQ q) = some (match sG (a + b) with | none => ([], 1100) | some r => (encQ r, 0)) := by
 have okp : okP (some p) := hp ▸ sG_ok a
 have okq : okP (some q) := hq ▸ sG_ok b
 have ptp : isPt (encQ p) := ⟨p, okp, rfl⟩
 have ptq : isPt (encQ q) := ⟨q, okq, rfl⟩
 obtain ⟨inv, one, two, b', h2, F, hb⟩ := newCurve_ex
 obtain ⟨X, Y, Z, h3, -, f3⟩ := read_ex F hb (encQ p)
 obtain ⟨X', Y', Z', h4, -, f4⟩ := read_ex F hb (encQ q)
 have f3 := f3 p okp rfl
 have f4 := f4 q okq rfl
 rw [← hp] at f3
 rw [← hq] at f4
 obtain ⟨r, h5, f5⟩ := add_pt (b := b') F f3 f4
 rw [sG_add] at f5
 unfold pcurve_Add
 cases hs : sG (a + b) with
 | none =>
  rw [hs] at f5
  obtain ⟨-, t, ht, hj⟩ := f5
  have hz : t.2.2 = 0 := hj
  refine bind_i h2 (bind_i h3 (bind_i h4 (bind_i h5 (bind_i (v := true) ?_ (if_i rfl rfl)))))
  rw [if_neg (by simp [ptp]), if_neg (by simp [ptq])]
  exact bind_i ht.2.2.zero (by simp [hz])
 | some z =>
  rw [hs] at f5
  obtain ⟨ok, t, ht, hj⟩ := f5
  have hz : t.2.2 ≠ 0 := hj.1
  refine bind_i h2 (bind_i h3 (bind_i h4 (bind_i h5 (bind_i (v := false) ?_ (if_n (by decide) (bind_i (write_ex F ⟨ok, t, ht, hj⟩) rfl))))))
  rw [if_neg (by simp [ptp]), if_neg (by simp [ptq])]
  exact bind_i ht.2.2.zero (by simp [hz])
end Go.Kx
end

section
namespace Go.Kx
open Go Go.Proofs
open Vector (replicate)
open Go.Nt hiding n4
def P8 (v : Vx 32 8 × Vx 32 8 × Vx 32 8) (p : Pt) : Prop := okP p ∧ ∃ t, T8 v t ∧ isJ t p
theorem twice_pt {x y z : Vx 32 8} {p : Pt} (h : P8 (x, y, z) p) : ∃ r, halberdref9_twice x y z = some r ∧ P8 r (sumF p p) := by
 obtain ⟨hp, t, h1, h2⟩ := h
 obtain ⟨r, h3, h4⟩ := twice_ex h1
 refine ⟨r, h3, sum_ok hp hp, _, h4, ?_⟩
 by_cases hz : t.2.2 = 0
 ·rw [show jDbl' t = t from if_pos hz]
  cases p with
  | none => exact h2
  | some q => exact absurd hz h2.1
 ·rw [show jDbl' t = jDbl t from if_neg hz]
  exact isJ_dbl hp h2
theorem together_pt {x y z x' y' z' : Vx 32 8} {p q : Pt} (h : P8 (x, y, z) p) (k : P8 (x', y', z') q) : ∃ r, halberdref9_together x y z x' y' z' = some r ∧ P8 r (sumF p q) := by
 obtain ⟨hp, t, h1, h2⟩ := h
 obtain ⟨hq, u, k1, k2⟩ := k
 obtain ⟨r, h3, h4⟩ := together_ex h1 k1
 exact ⟨r, h3, sum_ok hp hq, _, h4, isJ_add hp hq h2 k2⟩
theorem zero_pt8 : P8 (replicate 8 0#32, replicate 8 0#32, replicate 8 0#32) none := ⟨trivial, (0, 0, 0), ⟨F8_0, F8_0, F8_0⟩, rfl⟩
theorem product_pt {k x y z : Vx 32 8} {a : Nat} (h : P8 (x, y, z) (sG a)) : ∃ r, halberdref9_product k x y z = some r ∧ P8 r (sG (n8 k * a)) := by
 have hk := n8_lt k
 have key : ∃ r, loop (halberdref9_product.b0 k x y z) BIG (255, replicate 8 0#32, replicate 8 0#32, replicate 8 0#32) = some r ∧ P8 r (sG (n8 k * a)) := by
  refine loop_inv 256 (fun i s => s.1 = 255 - (i : Int) ∧ P8 s.2 (sG (n8 k / 2 ^ (256 - i) * a))) _ (by decide) ⟨rfl, ?_⟩ ?_ ?_
  ·dsimp only
   rw [Nat.sub_zero, Nat.div_eq_of_lt hk, Nat.zero_mul]
   exact zero_pt8
  ·rintro i ⟨i', o⟩ hi ⟨hi', ho⟩
   dsimp only at hi' ho
   obtain ⟨j, hj⟩ : ∃ j, j = 255 - i := ⟨_, rfl⟩
   have hij : i' = (j : Int) := by omega
   rw [show 256 - i = j + 1 by omega] at ho
   obtain ⟨r, hr, hR⟩ := twice_pt ho
   rw [sG_add] at hR
   have hbit := bit8 k j (by omega)
   have hh := half_eq (n8 k) j
   subst hij
   have w1 : w64 ((j : Int) - 1) = 255 - ((i + 1 : Nat) : Int) := by rw [w64_id (by omega) (by omega)]; omega
   have w2 : w64 ((j : Int).tdiv 32) = ((j / 32 : Nat) : Int) := w64_div (b := 32) (by omega)
   have w3 : (j : Int).tmod 32 = ((j % 32 : Nat) : Int) := tmodN' j 32
   unfold halberdref9_product.b0
   dsimp only
   rw [w2, w3]
   simp only [Int.toNat_natCast]
   clear w2 w3
   generalize hc : n8 k / 2 ^ (j + 1) = c at *
   by_cases hb : (vg k (j / 32) >>> (j % 32)) &&& 1#32 = 1#32
   ·obtain ⟨r2, hr2, hR2⟩ := together_pt hR h
    rw [sG_add] at hR2
    refine ⟨(255 - ((i + 1 : Nat) : Int), r2), if_i (by omega) (bind_i hr (if_i (by omega) (if_i (by omega) (if_i hb (bind_i hr2 (ltt_i fun v hv => by rw [hv, w1])))))), rfl, ?_⟩
    dsimp only
    rw [show 256 - (i + 1) = j by omega, hh, hbit.1 hb, show (2 * c + 1) * a = c * a + c * a + a by rw [Nat.add_mul, Nat.mul_assoc, Nat.one_mul, Nat.two_mul]]
    exact hR2
   ·refine ⟨(255 - ((i + 1 : Nat) : Int), r), if_i (by omega) (bind_i hr (if_i (by omega) (if_i (by omega) (if_n hb (ltt_i fun v hv => by rw [hv, w1]))))), rfl, ?_⟩
    dsimp only
    have h0 : n8 k / 2 ^ j % 2 = 0 := by
     have : ¬ (n8 k / 2 ^ j % 2 = 1) := fun h => hb (hbit.2 h)
     omega
    rw [show 256 - (i + 1) = j by omega, hh, h0, Nat.add_zero, show 2 * c * a = c * a + c * a by rw [Nat.mul_assoc, Nat.two_mul]]
    exact hR
  ·rintro ⟨i', o⟩ ⟨hi', ho⟩
   dsimp only at hi' ho
   subst hi'
   refine ⟨o, by unfold halberdref9_product.b0; exact if_n (by dsimp only; omega) rfl, ?_⟩
   rw [Nat.sub_self, Nat.pow_zero, Nat.div_one] at ho
   exact ho
 obtain ⟨r, h2, hR⟩ := key
 refine ⟨r, ?_, hR⟩
 unfold halberdref9_product
 exact bind_i h2 rfl
theorem intoF {x : Vx 32 8} (hx : n8 x < P256) : ∃ r, halberdref9_into 0 x = some r ∧ F8 r (mk (n8 x : Int)) := by
 obtain ⟨r, h1, h2⟩ := Rd_P.into hx
 exact ⟨r, h1, by unfold F8; rw [toN_id hx]; exact h2⟩
theorem unitF : ∃ r, halberdref9_into 0 (vp (replicate 8 0#32) 0 1#32) = some r ∧ F8 r 1 := by
 obtain ⟨r, h1, h2⟩ := Rd_P.unit
 rw [show 1 % P256 = 1 by decide] at h2
 exact ⟨r, h1, h2⟩
theorem outF {x : Vx 32 8} {f : Fp} (hx : F8 x f) : ∃ r, halberdref9_out 0 x = some r ∧ n8 r = toN f := Rd_P.out hx
theorem powerF {x : Vx 32 8} {f : Fp} (hx : F8 x f) : ∃ r, halberdref9_power 0 x = some r ∧ ∃ i, F8 r i ∧ (f ≠ 0 → i * f = 1) := by
 obtain ⟨r, h1, h2⟩ := Rd_P.power hx
 refine ⟨r, h1, mk ((toN f ^ (P256 - 2) % P256 : Nat) : Int), ?_, pow_inv⟩
 unfold F8
 rw [toN_id (Nat.mod_lt _ (by decide))]
 exact h2
theorem unit_pt8 {x y one : Vx 32 8} {q : Fp × Fp} (hq : okP (some q)) (f3 : F8 x q.1) (f4 : F8 y q.2) (h1 : F8 one 1) : P8 (x, y, one) (some q) := by
 refine ⟨hq, (q.1, q.2, 1), ⟨f3, f4, h1⟩, F_10, ?_, ?_⟩
 ·show q.1 = q.1 * (1 * 1); grind
 ·show q.2 = q.2 * (1 * (1 * 1)); grind
theorem G_pt : ∃ r, halberdref9_G = some r ∧ P8 r (sG 1) := by
 have ex : n8 (#v[3633889942#32, 4104206661#32, 770388896#32, 1996717441#32, 1671708914#32, 4173129445#32, 3777774151#32, 1796723186#32] : Vx 32 8) = GX := by decide
 have ey : n8 (#v[935285237#32, 3417718888#32, 1798397646#32, 734933847#32, 2081398294#32, 2397563722#32, 4263149467#32, 1340293858#32] : Vx 32 8) = GY := by decide
 obtain ⟨r1, h1, f1⟩ := intoF (x := #v[3633889942#32, 4104206661#32, 770388896#32, 1996717441#32, 1671708914#32, 4173129445#32, 3777774151#32, 1796723186#32]) (by rw [ex]; decide)
 obtain ⟨r2, h2, f2⟩ := intoF (x := #v[935285237#32, 3417718888#32, 1798397646#32, 734933847#32, 2081398294#32, 2397563722#32, 4263149467#32, 1340293858#32]) (by rw [ey]; decide)
 rw [ex] at f1
 rw [ey] at f2
 obtain ⟨r3, h3, f3⟩ := unitF
 refine ⟨(r1, r2, r3), ?_, unit_pt8 (q := (mk (GX : Int), mk (GY : Int))) gP_ok f1 f2 f3⟩
 unfold halberdref9_G
 exact bind_i h1 (bind_i h2 (bind_i h3 rfl))
theorem curveB_eq : halberdref9_curveB = some #v[668098635#32, 1003371582#32, 3428036854#32, 1696401072#32, 1989707452#32, 3018571093#32, 2855965671#32, 1522939352#32] := rfl
open Classical in
theorem Decode_ex (s : Str) : ∃ X Y Z, halberdref9_Decode s = some (X, Y, Z, decide (isPt s)) ∧ ∀ q, okP (some q) → s = encQ q → P8 (X, Y, Z) (some q) := by
 have F := Rd_P
 unfold halberdref9_Decode
 by_cases hl : s.length = 65
 case neg =>
  have hno : ¬ isPt s := fun h => hl ((isPt_iff s).1 h).1
  exact ⟨replicate 8 0#32, replicate 8 0#32, replicate 8 0#32, bind_i (v := true) (if_i (by omega) rfl) (if_i rfl (by simp [hno])), fun q hq he => absurd ⟨q, hq, he⟩ hno⟩
 by_cases h4 : sg s 0 = 4#8
 case neg =>
  have hno : ¬ isPt s := fun h => h4 ((isPt_iff s).1 h).2.1
  exact ⟨replicate 8 0#32, replicate 8 0#32, replicate 8 0#32, bind_i (v := true) (if_n (by omega) (if_i (by omega) (by simp [h4]))) (if_i rfl (by simp [hno])), fun q hq he => absurd ⟨q, hq, he⟩ hno⟩
 obtain ⟨x, hx, ex⟩ := F.number (by decide) (sub s 1 33) (by rw [sub_length (by omega)])
 obtain ⟨y, hy, ey⟩ := F.number (by decide) (sub s 33 s.length) (by rw [sub_length (by omega), hl])
 have e65 : sub s 33 s.length = sub s 33 65 := by rw [hl]
 rw [e65] at hy ey
 by_cases hxl : bnum (sub s 1 33) < P256
 case neg =>
  have hno : ¬ isPt s := fun h => hxl ((isPt_iff s).1 h).2.2.1
  refine ⟨replicate 8 0#32, replicate 8 0#32, replicate 8 0#32, bind_i (v := false) (if_n (by omega) (if_i (by omega) (by simp [h4]))) (if_n (by decide) (if_i (by omega) (bind_i hx (if_i (by omega) (bind_i (by rw [e65]; exact hy) (bind_i (v := true) (if_i (by simp [hxl]) rfl) (if_i rfl (by simp [hno])))))))), fun q hq he => absurd ⟨q, hq, he⟩ hno⟩
 by_cases hyl : bnum (sub s 33 65) < P256
 case neg =>
  have hno : ¬ isPt s := fun h => hyl ((isPt_iff s).1 h).2.2.2.1
  refine ⟨replicate 8 0#32, replicate 8 0#32, replicate 8 0#32, bind_i (v := false) (if_n (by omega) (if_i (by omega) (by simp [h4]))) (if_n (by decide) (if_i (by omega) (bind_i hx (if_i (by omega) (bind_i (by rw [e65]; exact hy) (bind_i (v := true) (if_n (by simp [hxl]) (by simp [hyl])) (if_i rfl (by simp [hno])))))))), fun q hq he => absurd ⟨q, hq, he⟩ hno⟩
 have eb : n8 (#v[668098635#32, 1003371582#32, 3428036854#32, 1696401072#32, 1989707452#32, 3018571093#32, 2855965671#32, 1522939352#32] : Vx 32 8) = B256 := by decide
 obtain ⟨r3, e3, f3⟩ := intoF (x := x) (by rw [ex]; exact hxl)
 obtain ⟨r4, e4, f4⟩ := intoF (x := y) (by rw [ey]; exact hyl)
 obtain ⟨r11, e11, f11⟩ := intoF (x := #v[668098635#32, 1003371582#32, 3428036854#32, 1696401072#32, 1989707452#32, 3018571093#32, 2855965671#32, 1522939352#32]) (by rw [eb]; decide)
 rw [ex] at f3
 rw [ey] at f4
 rw [eb] at f11
 obtain ⟨r5, e5, f5⟩ := F.mulF f3 f3
 obtain ⟨r6, e6, f6⟩ := F.mulF f3 f5
 obtain ⟨r7, e7, f7⟩ := F.addF f3 f3
 obtain ⟨r8, e8, f8⟩ := F.addF f3 f7
 obtain ⟨r9, e9, f9⟩ := F.subF f6 f8
 obtain ⟨r12, e12, f12⟩ := F.addF f9 f11
 obtain ⟨r13, e13, f13⟩ := unitF
 obtain ⟨r14, e14, f14⟩ := F.mulF f4 f4
 have hfB : mk (B256 : Int) = fB := rfl
 have heq : r14 = r12 ↔ isPt s := by
  rw [R8.inj md_P f14 f12, isPt_iff, hfB]
  constructor
  ·intro h
   refine ⟨hl, h4, hxl, hyl, ?_⟩
   have := toN_inj h
   unfold onF
   rw [this]; grind
  ·rintro ⟨-, -, -, -, h⟩
   unfold onF at h
   refine congrArg toN ?_
   rw [h]; grind
 refine ⟨r3, r4, r13, bind_i (v := false) (if_n (by omega) (if_i (by omega) (by simp [h4]))) (if_n (by decide) (if_i (by omega) (bind_i hx (if_i (by omega) (bind_i (by rw [e65]; exact hy) (bind_i (v := false) (if_n (by simp [hxl]) (by simp [hyl])) (if_n (by decide) ?_))))))), ?_⟩
 ·refine bind_i e3 (bind_i e4 (bind_i e5 (bind_i e6 (bind_i e7 (bind_i e8 (bind_i e9 (bind_i curveB_eq (bind_i e11 (bind_i e12 (bind_i e13 (bind_i e14 (ltt_i fun v hv => ?_))))))))))))
  rw [hv, decide_eq_decide.2 heq]
 ·rintro q hq rfl
  have lt : ∀ f : Fp, toN f < 2 ^ 256 := fun f => Nat.lt_trans (toN_lt f) P_lt256
  rw [encQ_x, bnum_nb32 _ (lt _), mk_toN] at f3
  rw [encQ_y, bnum_nb32 _ (lt _), mk_toN] at f4
  exact unit_pt8 hq f3 f4 f13
theorem plain_ex {x y z : Vx 32 8} {p : Pt} (h : P8 (x, y, z) p) : (p = none → halberdref9_plain x y z = some (replicate 8 0#32, replicate 8 0#32, false)) ∧
  ∀ q, p = some q → ∃ X Y, halberdref9_plain x y z = some (X, Y, true) ∧ n8 X = toN q.1 ∧ n8 Y = toN q.2 := by
 have F := Rd_P
 obtain ⟨hp, ⟨X, Y, Z⟩, ⟨hX, hY, hZ⟩, hj⟩ := h
 dsimp only at hX hY hZ
 constructor
 ·rintro rfl
  have hz : Z = 0 := hj
  unfold halberdref9_plain
  exact if_i (hZ.zero.2 hz) rfl
 ·rintro q rfl
  obtain ⟨hz, eX, eY⟩ := hj
  dsimp only at hz eX eY
  obtain ⟨r1, e1, i, f1, hi⟩ := powerF hZ
  have hi := hi hz
  obtain ⟨r2, e2, f2⟩ := F.mulF f1 f1
  obtain ⟨r3, e3, f3⟩ := F.mulF hX f2
  obtain ⟨r4, e4, n4'⟩ := outF f3
  obtain ⟨r5, e5, f5⟩ := F.mulF f1 f2
  obtain ⟨r6, e6, f6⟩ := F.mulF hY f5
  obtain ⟨r7, e7, n7'⟩ := outF f6
  have x1 : X * (i * i) = q.1 := by
   rw [eX]
   have : q.1 * (Z * Z) * (i * i) = q.1 * ((i * Z) * (i * Z)) := by grind
   rw [this, hi]; grind
  have y1 : Y * (i * (i * i)) = q.2 := by
   rw [eY]
   have : q.2 * (Z * (Z * Z)) * (i * (i * i)) = q.2 * ((i * Z) * ((i * Z) * (i * Z))) := by grind
   rw [this, hi]; grind
  rw [x1] at n4'
  rw [y1] at n7'
  refine ⟨r4, r7, ?_, n4', n7'⟩
  unfold halberdref9_plain
  exact if_n (fun c => hz (hZ.zero.1 c)) (bind_i e1 (bind_i e2 (bind_i e3 (bind_i e4 (bind_i e5 (bind_i e6 (bind_i e7 rfl)))))))
def encR : Pt → Str × Bool
 | none => ([], false)
 | some q => (encQ q, true)
theorem encode_ex {x y z : Vx 32 8} {p : Pt} (h : P8 (x, y, z) p) : halberdref9_encode x y z = some (encR p) := by
 obtain ⟨h0, h1⟩ := plain_ex h
 unfold halberdref9_encode
 cases p with
 | none => exact bind_i (h0 rfl) (if_i rfl rfl)
 | some q =>
  obtain ⟨X, Y, e, eX, eY⟩ := h1 q rfl
  refine bind_i e (if_n (by simp) (bind_i (put_eq X) (if_i ?_ (bind_i (put_eq Y) (if_i ?_ (ltt_i fun v hv => ?_))))))
  ·simp [nb32_len]
  ·simp [nb32_len]
  ·rw [hv, eX, eY]; rfl
open Classical in
theorem scalar_ex (k : Str) : ∃ x, halberdref9_scalar k = some (x, decide (isSc k)) ∧ (k.length = 32 → n8 x = bnum k) := by
 unfold halberdref9_scalar
 by_cases hl : k.length = 32
 ·obtain ⟨x, h2, e2⟩ := Rd_N.number (by decide) k hl
  refine ⟨x, bind_i h2 ?_, fun _ => e2⟩
  dsimp only
  by_cases hlt : bnum k < N256
  ·rw [if_pos (by simp [hlt])]
   refine ltt_i fun v hv => ?_
   have hx : x = replicate 8 0#32 ↔ bnum k = 0 := by
    rw [← e2]
    exact ⟨fun h => by rw [h, n8_zero], fun h => n8_ext (by rw [h, n8_zero])⟩
   have e : v = decide (isSc k) := by
    rw [hv]
    refine decide_eq_decide.2 ⟨fun h => ⟨hl, hlt, fun c => h (hx.2 c)⟩, fun h c => h.2.2 (hx.1 c)⟩
   rw [e]
  ·rw [if_neg (by simp [hlt])]
   have : ¬ isSc k := fun h => hlt h.2.1
   simp [this]
 ·have hno : ¬ isSc k := fun h => hl h.1
  refine ⟨replicate 8 0#32, bind_i (Number_bad 1 k (by decide) hl) ?_, fun h => absurd h hl⟩
  dsimp only
  rw [if_neg (by decide)]
  simp [hno]
theorem rPublic_no (k : Str) (h : ¬ isSc k) : halberdref9_Public k = some ([], 1100) := by
 obtain ⟨x, h1, -⟩ := scalar_ex k
 unfold halberdref9_Public
 refine bind_i h1 (if_i (by simp [h]) rfl)
theorem rPublic_is (k : Str) (h : isSc k) : halberdref9_Public k = some (encP (sG (bnum k)), 0) := by
 obtain ⟨x, h1, e1⟩ := scalar_ex k
 obtain ⟨g, h3, f3⟩ := G_pt
 obtain ⟨r, h4, f4⟩ := product_pt (k := x) f3
 rw [e1 h.1, Nat.mul_one] at f4
 unfold halberdref9_Public
 refine bind_i h1 (if_n (by simp [h]) (bind_i h3 (bind_i h4 (bind_i (encode_ex f4) ?_))))
 generalize sG (bnum k) = p; cases p <;> rfl
theorem rMul_no (k p : Str) (h : ¬ (isSc k ∧ isPt p)) : halberdref9_Mul k p = some ([], 1100) := by
 obtain ⟨x, h1, -⟩ := scalar_ex k
 obtain ⟨X, Y, Z, h3, -⟩ := Decode_ex p
 unfold halberdref9_Mul
 refine bind_i h1 (bind_i h3 (bind_i (v := true) ?_ (if_i rfl rfl)))
 by_cases hk : isSc k
 ·have : ¬ isPt p := fun hp => h ⟨hk, hp⟩
  rw [if_neg (by simp [hk])]; simp [this]
 ·rw [if_pos (by simp [hk])]
theorem rMul_is (k : Str) (h : isSc k) {a : Nat} {q : Fp × Fp} (hq : sG a = some q) : halberdref9_Mul k (encQ q) = some (encP (sG (bnum k * a)), 0) := by
 have hok : okP (some q) := hq ▸ sG_ok a
 have hpt : isPt (encQ q) := ⟨q, hok, rfl⟩
 obtain ⟨x, h1, e1⟩ := scalar_ex k
 obtain ⟨X, Y, Z, h3, f3⟩ := Decode_ex (encQ q)
 have f3 := f3 q hok rfl
 rw [← hq] at f3
 obtain ⟨r, h4, f4⟩ := product_pt (k := x) f3
 rw [e1 h.1] at f4
 unfold halberdref9_Mul
 refine bind_i h1 (bind_i h3 (bind_i (v := false) ?_ (if_n (by decide) (bind_i h4 (bind_i (encode_ex f4) ?_)))))
 ·rw [if_neg (by simp [h])]; simp [hpt]
 ·generalize sG (bnum k * a) = p; cases p <;> rfl
theorem rAdd_no (p q : Str) (h : ¬ (isPt p ∧ isPt q)) : halberdref9_Add p q = some ([], 1100) := by
 obtain ⟨X, Y, Z, h3, -⟩ := Decode_ex p
 obtain ⟨X', Y', Z', h4, -⟩ := Decode_ex q
 unfold halberdref9_Add
 refine bind_i h3 (bind_i h4 (bind_i (v := true) ?_ (if_i rfl rfl)))
 by_cases hk : isPt p
 ·have : ¬ isPt q := fun hp => h ⟨hk, hp⟩
  rw [if_neg (by simp [hk])]; simp [this]
 ·rw [if_pos (by simp [hk])]
theorem rAdd_is {a b : Nat} {p q : Fp × Fp} (hp : sG a = some p) (hq : sG b = some q) : halberdref9_Add (encQ p) (encQ q) = some (match sG (a + b) with | none => ([], 1100) | some r => (encQ r, 0)) := by
 have okp : okP (some p) := hp ▸ sG_ok a
 have okq : okP (some q) := hq ▸ sG_ok b
 have ptp : isPt (encQ p) := ⟨p, okp, rfl⟩
 have ptq : isPt (encQ q) := ⟨q, okq, rfl⟩
 obtain ⟨X, Y, Z, h3, f3⟩ := Decode_ex (encQ p)
 obtain ⟨X', Y', Z', h4, f4⟩ := Decode_ex (encQ q)
 have f3 := f3 p okp rfl
 have f4 := f4 q okq rfl
 rw [← hp] at f3
 rw [← hq] at f4
 obtain ⟨r, h5, f5⟩ := together_pt f3 f4
 rw [sG_add] at f5
 unfold halberdref9_Add
 refine bind_i h3 (bind_i h4 (bind_i (v := false) ?_ (if_n (by decide) (bind_i h5 (bind_i (encode_ex f5) ?_)))))
 ·rw [if_neg (by simp [ptp])]; simp [ptq]
 ·generalize sG (a + b) = p; cases p <;> rfl
end Go.Kx
end

/-
  Part KXL5 of the proofs of this seat: F4, SchL5.
-/
import Derived.Test.YtfihcdfpjleimaaK2
import Derived.Test.YtfihcdfpjleimaaKX2
import Derived.Test.YtfihcdfpjleimaaKX1
import Derived.Test.YtfihcdfpjleimaaKH1
import Derived.Test.YtfihcdfpjleimaaKX3
section
namespace Go.Proofs
open Go Go.Kx
set_option linter.unusedVariables false
set_option linter.unusedSimpArgs false
def halberdlaw19_SchedNexts.b0 (many : Int) (w_1 : Int) (r_2 : Int × Int) (s0 : Str × Str × Int) : Option ((Str × Str × Int) ⊕ ((Str) ⊕ (Bool))) :=
  if s0.2.2 < (iop (· &&& ·) many 7) then ((sched_Next w_1 s0.1).bind fun (r_3 : Str × Int) => ((halberdref1_Label r_2.1 s0.2.1 ([116#8, 114#8, 97#8, 102#8, 102#8, 105#8, 99#8, 32#8, 117#8, 112#8, 100#8] : Str) ([] : Str) (w64 (r_2.1.tdiv 8))).bind fun (r_4 : Str × Int) => ((halberdlaw0_Num r_3.2).bind fun (r_5 : Int) => ((if r_5 ≠ 0 then (some true) else (if r_3.1 ≠ r_4.1 then (some true) else (some (decide (((r_3.1).length : Int) ≠ (w64 (r_2.1.tdiv 8))))))).bind fun (j1 : Bool) => (if j1 = true then (some (.inr (.inr false))) else (ltt (w64 (s0.2.2 + 1)) fun (i1 : Int) => (some (.inl (r_3.1, r_4.1, i1))))))))) else (some (.inr (.inl s0.1)))

def halberdlaw19_SchedNexts (which : Int) (secret : Str) (many : Int) : Option (Bool) :=
  (halberdlaw19_awake).bind fun (r_1 : Bool) => (if (!r_1) = true then (some false) else (ltt (w64 (4865 + (w64 (((BitVec.ofInt 64 which) % 3#64).toNat : Int)))) fun (w_1 : Int) => ((sched_Bits w_1).bind fun (r_2 : Int × Int) => ((loop (halberdlaw19_SchedNexts.b0 many w_1 r_2) BIG (secret, secret, 0)).bind fun (t_1 : (Str) ⊕ (Bool)) => (match t_1 with | .inl t_1 => ((sched_Keys w_1 t_1).bind fun (r_6 : Str × Str × Int) => ((if w_1 = 4865 then (some 16) else (some 32)).bind fun (j2 : Int) => ((halberdlaw0_Num r_2.2).bind fun (r_7 : Int) => (if r_7 = 0 then ((halberdlaw0_Num r_6.2.2).bind fun (r_8 : Int) => (if r_8 = 0 then (if ((r_6.1).length : Int) = j2 then (ltt (decide (((r_6.2.1).length : Int) = 12)) fun (x1 : Bool) => (some x1)) else (some false)) else (some false))) else (some false))))) | .inr rv => some rv)))))

set_option maxHeartbeats 4000000 in
set_option maxRecDepth 20000 in
theorem F4_calls (which : Int) (secret : Str) (many : Int) (r : Bool) (H : halberdlaw19_SchedNexts which secret many = some r) :
    Does Try.prog 4 [vi which, vs secret, vi many] [] [] (Γ := Unit) (fun g => vb r) (fun g => []) := by
  intro w hmem hro hd
  refine calls_of (N := 100) (m0 := [(0, vi which), (1, vs secret), (2, vi many)]) Try.func4 rfl Try.ntmps4 (argM_ok [vi which, vs secret, vi many]) rfl hmem hro hd ?_
  unfold halberdlaw19_SchedNexts at H
  refine TC_seq ?_
  refine TC_region ?_
  refine TL_v rfl rfl rfl (V_assign rfl) ?_
  refine TL_nil ?_
  refine TX_next ?_
  refine TC_seq ?_
  refine TC_seq ?_
  refine TC_region ?_
  obtain ⟨r_1, hr_1, H⟩ := bind_elim H
  refine TL_e rfl rfl rfl (E_call (Γ := Unit) (val := fun g => vb r_1) (mem := fun g => []) (vs := []) (Lin := []) (Ro := []) (is := []) rfl Try.call22 (F22_calls r_1 hr_1) rfl trivial) (fun g_1 => ?_)
  refine TL_v rfl rfl rfl (V_un rfl (fun w => notB w r_1)) ?_
  refine TL_nil ?_
  refine TX_next ?_
  refine TC_cond (b := (!r_1)) rfl (fun hc => ?_) (fun hc => ?_)
  · replace H := ite_t hc H
    refine TC_seq ?_
    refine TC_region ?_
    refine TL_v rfl rfl rfl (V_assign rfl) ?_
    refine TL_nil ?_
    refine TX_next ?_
    refine TC_ret ?_
    refine TX_then_ret ?_
    have hrv := Option.some.inj H
    subst hrv
    exact TX_ret (rs := [.tmp 6]) (vs := [vb false]) rfl ⟨rfl, trivial⟩ (fun w' hs' => ⟨(), rfl, Step.left (Step.pulled (is := []) (A := []) hs' rfl)⟩)
  · replace H := ite_f (Bool.eq_false_iff.1 hc) H
    refine TC_skip ?_
    refine TX_next ?_
    refine TC_seq ?_
    refine TC_region ?_
    refine TL_v rfl rfl rfl (V_move rfl) ?_
    refine TL_v rfl rfl rfl (V_conv rfl (fun w => cvI64 w _ _ Try.underlying42 (TryI.und3) .i64 which)) ?_
    refine TL_v rfl rfl rfl (V_bin rfl rfl (fun w => rem64 w (BitVec.ofInt 64 which) 3#64 (by decide))) ?_
    refine TL_v rfl rfl rfl (V_conv rfl (fun w => cv64toI w _ _ Try.underlying3 (TryI.und42) ((BitVec.ofInt 64 which) % 3#64))) ?_
    refine TL_v rfl rfl rfl (V_bin rfl rfl (fun w => addI w 4865 (w64 (((BitVec.ofInt 64 which) % 3#64).toNat : Int)))) ?_
    refine TL_v rfl rfl rfl (V_assign rfl) ?_
    obtain ⟨w_1, hw_1, H⟩ := ltt_elim H
    refine TL_re (d := 7) (v := vi (w64 (4865 + (w64 (((BitVec.ofInt 64 which) % 3#64).toNat : Int))))) (v' := vi w_1) rfl (congrArg vi hw_1) ?_
    refine TL_nil ?_
    refine TX_next ?_
    refine TC_seq ?_
    refine TC_region ?_
    refine TL_v rfl rfl rfl (V_move rfl) ?_
    obtain ⟨r_2, hr_2, H⟩ := bind_elim H
    refine TL_e rfl rfl rfl (E_call (Γ := Unit) (val := fun g => Value.tuple [vi r_2.1, vi r_2.2].toArray) (mem := fun g => []) (vs := [vi w_1]) (Lin := []) (Ro := []) (is := []) rfl Try.call9 (F9_calls w_1 r_2 hr_2) rfl trivial) (fun g_2 => ?_)
    refine TL_v rfl rfl rfl (V_move rfl) ?_
    refine TL_v rfl rfl rfl (V_extract (vs := [vi r_2.1, vi r_2.2]) rfl rfl) ?_
    refine TL_v rfl rfl rfl (V_extract (vs := [vi r_2.1, vi r_2.2]) rfl rfl) ?_
    refine TL_v rfl rfl rfl (V_assign rfl) ?_
    refine TL_v rfl rfl rfl (V_assign rfl) ?_
    refine TL_nil ?_
    refine TX_next ?_
    refine TC_seq ?_
    refine TC_region ?_
    refine TL_v rfl rfl rfl (V_move rfl) ?_
    refine TL_v rfl rfl rfl (V_move rfl) ?_
    refine TL_v rfl rfl rfl (V_assign rfl) ?_
    refine TL_v rfl rfl rfl (V_assign rfl) ?_
    refine TL_nil ?_
    refine TX_next ?_
    refine TC_seq ?_
    refine TC_seq ?_
    refine TC_region ?_
    refine TL_v rfl rfl rfl (V_assign rfl) ?_
    refine TL_nil ?_
    refine TX_next ?_
    refine TC_block ?_
    obtain ⟨t_1, Hl, H⟩ := bind_elim H
    refine TC.sub (m' := [(2, vi many), (7, vi w_1), (8, vi r_2.1), (9, vi r_2.2), (10, vs secret), (11, vs secret), (12, vi 0)]) ⟨rfl, rfl, rfl, rfl, rfl, rfl, rfl, trivial⟩ ?_
    refine TC.pull (is := []) (L' := []) rfl ?_
    refine TC_loopR (id := 0) (body := (halberdlaw19_SchedNexts.b0 many w_1 r_2)) (σ := Str × Str × Int) (Γ := Unit) (Γx := Unit) (fun s0 g0_ => [(2, vi many), (7, vi w_1), (8, vi r_2.1), (9, vi r_2.2), (10, vs s0.1), (11, vs s0.2.1), (12, vi s0.2.2)]) (fun s0 g0_ => []) (fun t g => [(7, vi w_1), (9, vi r_2.2), (10, vs t)]) (fun t g => []) r ?_ BIG (secret, secret, 0) () t_1 Hl ?_
    · intro s0 g0_ r1 H K hK hE hR1
      unfold halberdlaw19_SchedNexts.b0 at H
      refine TC_seq ?_
      refine TC_seq ?_
      refine TC_region ?_
      refine TL_v rfl rfl rfl (V_move rfl) ?_
      refine TL_v rfl rfl rfl (V_move rfl) ?_
      refine TL_v rfl rfl rfl (V_bin rfl rfl (fun w => andI w many 7)) ?_
      refine TL_v rfl rfl rfl (V_bin rfl rfl (fun w => lssI w s0.2.2 (iop (· &&& ·) many 7))) ?_
      refine TL_nil ?_
      refine TX_next ?_
      refine TC_cond (b := (decide (s0.2.2 < (iop (· &&& ·) many 7)))) rfl (fun hc => ?_) (fun hc => ?_)
      · replace H := ite_t (of_decide_eq_true hc) H
        refine TC_skip ?_
        refine TX_next ?_
        refine TC_seq ?_
        refine TC_block ?_
        refine TC_seq ?_
        refine TC_region ?_
        refine TL_v rfl rfl rfl (V_move rfl) ?_
        refine TL_v rfl rfl rfl (V_move rfl) ?_
        obtain ⟨r_3, hr_3, H⟩ := bind_elim H
        refine TL_e rfl rfl rfl (E_call (Γ := Unit) (val := fun g => Value.tuple [vs r_3.1, vi r_3.2].toArray) (mem := fun g => []) (vs := [vi w_1, vs s0.1]) (Lin := []) (Ro := []) (is := []) rfl Try.call19 (F19_calls w_1 s0.1 r_3 hr_3) rfl trivial) (fun g_3 => ?_)
        refine TL_v rfl rfl rfl (V_move rfl) ?_
        refine TL_v rfl rfl rfl (V_extract (vs := [vs r_3.1, vi r_3.2]) rfl rfl) ?_
        refine TL_v rfl rfl rfl (V_extract (vs := [vs r_3.1, vi r_3.2]) rfl rfl) ?_
        refine TL_v rfl rfl rfl (V_assign rfl) ?_
        refine TL_v rfl rfl rfl (V_assign rfl) ?_
        refine TL_nil ?_
        refine TX_next ?_
        refine TC_seq ?_
        refine TC_region ?_
        refine TL_v rfl rfl rfl (V_move rfl) ?_
        refine TL_v rfl rfl rfl (V_move rfl) ?_
        refine TL_v rfl rfl rfl (V_move rfl) ?_
        refine TL_v rfl rfl rfl (V_bin rfl rfl (fun w => quoI w r_2.1 8 (by decide))) ?_
        obtain ⟨r_4, hr_4, H⟩ := bind_elim H
        refine TL_e rfl rfl rfl (E_call (Γ := Unit) (val := fun g => Value.tuple [vs r_4.1, vi r_4.2].toArray) (mem := fun g => []) (vs := [vi r_2.1, vs s0.2.1, vs ([116#8, 114#8, 97#8, 102#8, 102#8, 105#8, 99#8, 32#8, 117#8, 112#8, 100#8] : Str), vs ([] : Str), vi (w64 (r_2.1.tdiv 8))]) (Lin := []) (Ro := []) (is := []) rfl Try.call23 (F23_calls r_2.1 s0.2.1 ([116#8, 114#8, 97#8, 102#8, 102#8, 105#8, 99#8, 32#8, 117#8, 112#8, 100#8] : Str) ([] : Str) (w64 (r_2.1.tdiv 8)) r_4 hr_4) rfl trivial) (fun g_4 => ?_)
        refine TL_v rfl rfl rfl (V_move rfl) ?_
        refine TL_v rfl rfl rfl (V_extract (vs := [vs r_4.1, vi r_4.2]) rfl rfl) ?_
        refine TL_v rfl rfl rfl (V_extract (vs := [vs r_4.1, vi r_4.2]) rfl rfl) ?_
        refine TL_v rfl rfl rfl (V_assign rfl) ?_
        refine TL_v rfl rfl rfl (V_assign rfl) ?_
        refine TL_nil ?_
        refine TX_next ?_
        refine TC_seq ?_
        refine TC_seq ?_
        refine TC_region ?_
        refine TL_v rfl rfl rfl (V_move rfl) ?_
        obtain ⟨r_5, hr_5, H⟩ := bind_elim H
        refine TL_e rfl rfl rfl (E_call (Γ := Unit) (val := fun g => vi r_5) (mem := fun g => []) (vs := [vi r_3.2]) (Lin := []) (Ro := []) (is := []) rfl Try.call21 (F21_calls r_3.2 r_5 hr_5) rfl trivial) (fun g_5 => ?_)
        refine TL_v rfl rfl rfl (V_bin rfl rfl (fun w => neqI w r_5 0)) ?_
        refine TL_v rfl rfl rfl (V_move rfl) ?_
        obtain ⟨j1, Hj, H⟩ := bind_elim H
        refine TL_join (Γ := Unit) (fun gj1 => [(2, vi many), (7, vi w_1), (8, vi r_2.1), (9, vi r_2.2), (12, vi s0.2.2), (13, vs r_3.1), (15, vs r_4.1), (69, vb j1)]) (fun gj1 => []) ?_ ?_
        · intro gj1
          refine TX_next ?_
          refine TC_cond (b := j1) rfl (fun hc => ?_) (fun hc => ?_)
          · replace H := ite_t hc H
            refine TC_seq ?_
            refine TC_region ?_
            refine TL_v rfl rfl rfl (V_assign rfl) ?_
            refine TL_nil ?_
            refine TX_next ?_
            refine TC_ret ?_
            refine TX_then_ret ?_
            refine TX_block_ret ?_
            refine TX_then_ret ?_
            refine TX_then_ret ?_
            refine TX_block_ret ?_
            refine TX_then_ret ?_
            have hrv := (hR1 _ (Option.some.inj H).symm)
            subst hrv
            exact TX_ret (rs := [.tmp 6]) (vs := [vb false]) rfl ⟨rfl, trivial⟩ (fun w' hs' => ⟨(), rfl, Step.left (Step.pulled (is := []) (A := []) hs' rfl)⟩)
          · replace H := ite_f (Bool.eq_false_iff.1 hc) H
            refine TC_skip ?_
            refine TX_next ?_
            refine TC_seq ?_
            refine TC_region ?_
            refine TL_v rfl rfl rfl (V_move rfl) ?_
            refine TL_v rfl rfl rfl (V_assign rfl) ?_
            refine TL_nil ?_
            refine TX_next ?_
            refine TC_region ?_
            refine TL_v rfl rfl rfl (V_move rfl) ?_
            refine TL_v rfl rfl rfl (V_assign rfl) ?_
            refine TL_nil ?_
            refine TX_block_normal ?_
            refine TX_next ?_
            refine TC_region ?_
            refine TL_v rfl rfl rfl (V_move rfl) ?_
            refine TL_v rfl rfl rfl (V_bin rfl rfl (fun w => addI w s0.2.2 1)) ?_
            refine TL_v rfl rfl rfl (V_assign rfl) ?_
            obtain ⟨i1, hi1, H⟩ := ltt_elim H
            refine TL_re (d := 12) (v := vi (w64 (s0.2.2 + 1))) (v' := vi i1) rfl (congrArg vi hi1) ?_
            refine TL_nil ?_
            refine TX.sub (m' := [(2, vi many), (7, vi w_1), (8, vi r_2.1), (9, vi r_2.2), (10, vs r_3.1), (11, vs r_4.1), (12, vi i1)]) ⟨rfl, rfl, rfl, rfl, rfl, rfl, rfl, trivial⟩ ?_
            refine TX.pull (is := []) (L' := []) rfl ?_
            obtain rfl := Option.some.inj H
            exact fun a w hs => hK (r_3.1, r_4.1, i1) rfl () a w hs
        · intro hJ
          replace H := Hj
          refine TL_fork (d := 58) (b := (decide (r_5 ≠ 0))) rfl (fun hc => ?_) (fun hc => ?_)
          · replace H := ite_t (of_decide_eq_true hc) H
            refine TL_skip rfl rfl rfl rfl rfl rfl rfl ?_
            refine TL_skip rfl rfl rfl rfl rfl rfl rfl ?_
            refine TL_skip rfl rfl rfl rfl rfl rfl rfl ?_
            refine TL_v rfl rfl rfl (V_pick (b := true) rfl rfl) ?_
            refine TL_v rfl rfl rfl (V_move rfl) ?_
            refine TL_skip rfl rfl rfl rfl rfl rfl rfl ?_
            refine TL_skip rfl rfl rfl rfl rfl rfl rfl ?_
            refine TL_skip rfl rfl rfl rfl rfl rfl rfl ?_
            refine TL_skip rfl rfl rfl rfl rfl rfl rfl ?_
            refine TL_skip rfl rfl rfl rfl rfl rfl rfl ?_
            refine TL_v rfl rfl rfl (V_pick (b := true) rfl rfl) ?_
            refine TL_nil ?_
            refine TX.sub (m' := [(2, vi many), (7, vi w_1), (8, vi r_2.1), (9, vi r_2.2), (12, vi s0.2.2), (13, vs r_3.1), (15, vs r_4.1), (69, vb true)]) ⟨rfl, rfl, rfl, rfl, rfl, rfl, rfl, rfl, trivial⟩ ?_
            refine TX.pull (is := []) (L' := []) rfl ?_
            obtain rfl := Option.some.inj H
            exact hJ ()
          · replace H := ite_f (of_decide_eq_false hc) H
            refine TL_want rfl rfl rfl rfl rfl rfl (V_move rfl) ?_
            refine TL_want rfl rfl rfl rfl rfl rfl (V_move rfl) ?_
            refine TL_want rfl rfl rfl rfl rfl rfl (V_bin rfl rfl (fun w => neqS w r_3.1 r_4.1)) ?_
            refine TL_v rfl rfl rfl (V_pick (b := false) rfl rfl) ?_
            refine TL_v rfl rfl rfl (V_move rfl) ?_
            refine TL_fork (d := 63) (b := (decide (r_3.1 ≠ r_4.1))) rfl (fun hc => ?_) (fun hc => ?_)
            · replace H := ite_t (of_decide_eq_true hc) H
              refine TL_skip rfl rfl rfl rfl rfl rfl rfl ?_
              refine TL_skip rfl rfl rfl rfl rfl rfl rfl ?_
              refine TL_skip rfl rfl rfl rfl rfl rfl rfl ?_
              refine TL_skip rfl rfl rfl rfl rfl rfl rfl ?_
              refine TL_skip rfl rfl rfl rfl rfl rfl rfl ?_
              refine TL_v rfl rfl rfl (V_pick (b := true) rfl rfl) ?_
              refine TL_nil ?_
              refine TX.sub (m' := [(2, vi many), (7, vi w_1), (8, vi r_2.1), (9, vi r_2.2), (12, vi s0.2.2), (13, vs r_3.1), (15, vs r_4.1), (69, vb true)]) ⟨rfl, rfl, rfl, rfl, rfl, rfl, rfl, rfl, trivial⟩ ?_
              refine TX.pull (is := []) (L' := []) rfl ?_
              obtain rfl := Option.some.inj H
              exact hJ ()
            · replace H := ite_f (of_decide_eq_false hc) H
              refine TL_want rfl rfl rfl rfl rfl rfl (V_move rfl) ?_
              refine TL_want rfl rfl rfl rfl rfl rfl (V_len_str rfl Try.underlying9) ?_
              refine TL_want rfl rfl rfl rfl rfl rfl (V_move rfl) ?_
              refine TL_want rfl rfl rfl rfl rfl rfl (V_bin rfl rfl (fun w => quoI w r_2.1 8 (by decide))) ?_
              refine TL_want rfl rfl rfl rfl rfl rfl (V_bin rfl rfl (fun w => neqI w ((r_3.1).length : Int) (w64 (r_2.1.tdiv 8)))) ?_
              refine TL_v rfl rfl rfl (V_pick (b := false) rfl rfl) ?_
              refine TL_nil ?_
              refine TX.sub (m' := [(2, vi many), (7, vi w_1), (8, vi r_2.1), (9, vi r_2.2), (12, vi s0.2.2), (13, vs r_3.1), (15, vs r_4.1), (69, vb (decide (((r_3.1).length : Int) ≠ (w64 (r_2.1.tdiv 8)))))]) ⟨rfl, rfl, rfl, rfl, rfl, rfl, rfl, rfl, trivial⟩ ?_
              refine TX.pull (is := []) (L' := []) rfl ?_
              obtain rfl := Option.some.inj H
              exact hJ ()
      · replace H := ite_f (of_decide_eq_false hc) H
        refine TC_exit ?_
        refine TX_then_exit ?_
        refine TX_then_exit ?_
        refine TX.sub (m' := [(7, vi w_1), (9, vi r_2.2), (10, vs s0.1)]) ⟨rfl, rfl, rfl, trivial⟩ ?_
        refine TX.pull (is := []) (L' := []) rfl ?_
        obtain rfl := Option.some.inj H
        exact hE s0.1 rfl ()
    · rcases t_1 with t_1 | rv
      · intro gx1
        dsimp only at H
        refine TX_block_exit ?_
        refine TX_next ?_
        refine TC_seq ?_
        refine TC_region ?_
        refine TL_v rfl rfl rfl (V_move rfl) ?_
        refine TL_v rfl rfl rfl (V_move rfl) ?_
        obtain ⟨r_6, hr_6, H⟩ := bind_elim H
        refine TL_e rfl rfl rfl (E_call (Γ := Unit) (val := fun g => Value.tuple [vs r_6.1, vs r_6.2.1, vi r_6.2.2].toArray) (mem := fun g => []) (vs := [vi w_1, vs t_1]) (Lin := []) (Ro := []) (is := []) rfl Try.call17 (F17_calls w_1 t_1 r_6 hr_6) rfl trivial) (fun g_6 => ?_)
        refine TL_v rfl rfl rfl (V_move rfl) ?_
        refine TL_v rfl rfl rfl (V_extract (vs := [vs r_6.1, vs r_6.2.1, vi r_6.2.2]) rfl rfl) ?_
        refine TL_v rfl rfl rfl (V_extract (vs := [vs r_6.1, vs r_6.2.1, vi r_6.2.2]) rfl rfl) ?_
        refine TL_v rfl rfl rfl (V_extract (vs := [vs r_6.1, vs r_6.2.1, vi r_6.2.2]) rfl rfl) ?_
        refine TL_v rfl rfl rfl (V_assign rfl) ?_
        refine TL_v rfl rfl rfl (V_assign rfl) ?_
        refine TL_v rfl rfl rfl (V_assign rfl) ?_
        refine TL_nil ?_
        refine TX_next ?_
        refine TC_seq ?_
        refine TC_region ?_
        refine TL_v rfl rfl rfl (V_assign rfl) ?_
        refine TL_nil ?_
        refine TX_next ?_
        refine TC_seq ?_
        refine TC_seq ?_
        refine TC_region ?_
        refine TL_v rfl rfl rfl (V_move rfl) ?_
        refine TL_v rfl rfl rfl (V_bin rfl rfl (fun w => eqlI w w_1 4865)) ?_
        refine TL_nil ?_
        refine TX_next ?_
        obtain ⟨j2, Hj, H⟩ := bind_elim H
        refine TC_join (Γ := Unit) (fun gj2 => [(9, vi r_2.2), (17, vs r_6.1), (18, vs r_6.2.1), (19, vi r_6.2.2), (20, vi j2)]) (fun gj2 => []) ?_ ?_
        · intro gj2
          refine TX_next ?_
          refine TC_seq ?_
          refine TC_region ?_
          refine TL_v rfl rfl rfl (V_move rfl) ?_
          obtain ⟨r_7, hr_7, H⟩ := bind_elim H
          refine TL_e rfl rfl rfl (E_call (Γ := Unit) (val := fun g => vi r_7) (mem := fun g => []) (vs := [vi r_2.2]) (Lin := []) (Ro := []) (is := []) rfl Try.call21 (F21_calls r_2.2 r_7 hr_7) rfl trivial) (fun g_7 => ?_)
          refine TL_v rfl rfl rfl (V_bin rfl rfl (fun w => eqlI w r_7 0)) ?_
          refine TL_v rfl rfl rfl (V_move rfl) ?_
          refine TL_fork (d := 84) (b := (decide (r_7 = 0))) rfl (fun hc => ?_) (fun hc => ?_)
          · replace H := ite_t (of_decide_eq_true hc) H
            refine TL_want rfl rfl rfl rfl rfl rfl (V_move rfl) ?_
            obtain ⟨r_8, hr_8, H⟩ := bind_elim H
            refine TL_wantE rfl rfl rfl rfl rfl rfl (E_call (Γ := Unit) (val := fun g => vi r_8) (mem := fun g => []) (vs := [vi r_6.2.2]) (Lin := []) (Ro := []) (is := []) rfl Try.call21 (F21_calls r_6.2.2 r_8 hr_8) rfl trivial) (fun g_8 => ?_)
            refine TL_want rfl rfl rfl rfl rfl rfl (V_bin rfl rfl (fun w => eqlI w r_8 0)) ?_
            refine TL_v rfl rfl rfl (V_pick (b := true) rfl rfl) ?_
            refine TL_v rfl rfl rfl (V_move rfl) ?_
            refine TL_fork (d := 89) (b := (decide (r_8 = 0))) rfl (fun hc => ?_) (fun hc => ?_)
            · replace H := ite_t (of_decide_eq_true hc) H
              refine TL_want rfl rfl rfl rfl rfl rfl (V_move rfl) ?_
              refine TL_want rfl rfl rfl rfl rfl rfl (V_len_str rfl Try.underlying9) ?_
              refine TL_want rfl rfl rfl rfl rfl rfl (V_move rfl) ?_
              refine TL_want rfl rfl rfl rfl rfl rfl (V_bin rfl rfl (fun w => eqlI w ((r_6.1).length : Int) j2)) ?_
              refine TL_v rfl rfl rfl (V_pick (b := true) rfl rfl) ?_
              refine TL_v rfl rfl rfl (V_move rfl) ?_
              refine TL_fork (d := 95) (b := (decide (((r_6.1).length : Int) = j2))) rfl (fun hc => ?_) (fun hc => ?_)
              · replace H := ite_t (of_decide_eq_true hc) H
                refine TL_want rfl rfl rfl rfl rfl rfl (V_move rfl) ?_
                refine TL_want rfl rfl rfl rfl rfl rfl (V_len_str rfl Try.underlying9) ?_
                refine TL_want rfl rfl rfl rfl rfl rfl (V_bin rfl rfl (fun w => eqlI w ((r_6.2.1).length : Int) 12)) ?_
                refine TL_v rfl rfl rfl (V_pick (b := true) rfl rfl) ?_
                refine TL_v rfl rfl rfl (V_assign rfl) ?_
                obtain ⟨x1, hx1, H⟩ := ltt_elim H
                refine TL_re (d := 6) (v := vb (decide (((r_6.2.1).length : Int) = 12))) (v' := vb x1) rfl (congrArg vb hx1) ?_
                refine TL_nil ?_
                refine TX_next ?_
                refine TC_ret ?_
                have hrv := Option.some.inj H
                subst hrv
                exact TX_ret (rs := [.tmp 6]) (vs := [vb x1]) rfl ⟨rfl, trivial⟩ (fun w' hs' => ⟨(), rfl, Step.left (Step.pulled (is := []) (A := []) hs' rfl)⟩)
              · replace H := ite_f (of_decide_eq_false hc) H
                refine TL_skip rfl rfl rfl rfl rfl rfl rfl ?_
                refine TL_skip rfl rfl rfl rfl rfl rfl rfl ?_
                refine TL_skip rfl rfl rfl rfl rfl rfl rfl ?_
                refine TL_v rfl rfl rfl (V_pick (b := false) rfl rfl) ?_
                refine TL_v rfl rfl rfl (V_assign rfl) ?_
                refine TL_nil ?_
                refine TX_next ?_
                refine TC_ret ?_
                have hrv := Option.some.inj H
                subst hrv
                exact TX_ret (rs := [.tmp 6]) (vs := [vb false]) rfl ⟨rfl, trivial⟩ (fun w' hs' => ⟨(), rfl, Step.left (Step.pulled (is := []) (A := []) hs' rfl)⟩)
            · replace H := ite_f (of_decide_eq_false hc) H
              refine TL_skip rfl rfl rfl rfl rfl rfl rfl ?_
              refine TL_skip rfl rfl rfl rfl rfl rfl rfl ?_
              refine TL_skip rfl rfl rfl rfl rfl rfl rfl ?_
              refine TL_skip rfl rfl rfl rfl rfl rfl rfl ?_
              refine TL_v rfl rfl rfl (V_pick (b := false) rfl rfl) ?_
              refine TL_v rfl rfl rfl (V_move rfl) ?_
              refine TL_skip rfl rfl rfl rfl rfl rfl rfl ?_
              refine TL_skip rfl rfl rfl rfl rfl rfl rfl ?_
              refine TL_skip rfl rfl rfl rfl rfl rfl rfl ?_
              refine TL_v rfl rfl rfl (V_pick (b := false) rfl rfl) ?_
              refine TL_v rfl rfl rfl (V_assign rfl) ?_
              refine TL_nil ?_
              refine TX_next ?_
              refine TC_ret ?_
              have hrv := Option.some.inj H
              subst hrv
              exact TX_ret (rs := [.tmp 6]) (vs := [vb false]) rfl ⟨rfl, trivial⟩ (fun w' hs' => ⟨(), rfl, Step.left (Step.pulled (is := []) (A := []) hs' rfl)⟩)
          · replace H := ite_f (of_decide_eq_false hc) H
            refine TL_skip rfl rfl rfl rfl rfl rfl rfl ?_
            refine TL_skip rfl rfl rfl rfl rfl rfl rfl ?_
            refine TL_skip rfl rfl rfl rfl rfl rfl rfl ?_
            refine TL_v rfl rfl rfl (V_pick (b := false) rfl rfl) ?_
            refine TL_v rfl rfl rfl (V_move rfl) ?_
            refine TL_skip rfl rfl rfl rfl rfl rfl rfl ?_
            refine TL_skip rfl rfl rfl rfl rfl rfl rfl ?_
            refine TL_skip rfl rfl rfl rfl rfl rfl rfl ?_
            refine TL_skip rfl rfl rfl rfl rfl rfl rfl ?_
            refine TL_v rfl rfl rfl (V_pick (b := false) rfl rfl) ?_
            refine TL_v rfl rfl rfl (V_move rfl) ?_
            refine TL_skip rfl rfl rfl rfl rfl rfl rfl ?_
            refine TL_skip rfl rfl rfl rfl rfl rfl rfl ?_
            refine TL_skip rfl rfl rfl rfl rfl rfl rfl ?_
            refine TL_v rfl rfl rfl (V_pick (b := false) rfl rfl) ?_
            refine TL_v rfl rfl rfl (V_assign rfl) ?_
            refine TL_nil ?_
            refine TX_next ?_
            refine TC_ret ?_
            have hrv := Option.some.inj H
            subst hrv
            exact TX_ret (rs := [.tmp 6]) (vs := [vb false]) rfl ⟨rfl, trivial⟩ (fun w' hs' => ⟨(), rfl, Step.left (Step.pulled (is := []) (A := []) hs' rfl)⟩)
        · intro hJ
          replace H := Hj
          refine TC_cond (b := (decide (w_1 = 4865))) rfl (fun hc => ?_) (fun hc => ?_)
          · replace H := ite_t (of_decide_eq_true hc) H
            refine TC_region ?_
            refine TL_v rfl rfl rfl (V_assign rfl) ?_
            refine TL_nil ?_
            refine TX.sub (m' := [(9, vi r_2.2), (17, vs r_6.1), (18, vs r_6.2.1), (19, vi r_6.2.2), (20, vi 16)]) ⟨rfl, rfl, rfl, rfl, rfl, trivial⟩ ?_
            refine TX.pull (is := []) (L' := []) rfl ?_
            obtain rfl := Option.some.inj H
            exact hJ ()
          · replace H := ite_f (of_decide_eq_false hc) H
            refine TC_skip ?_
            refine TX.sub (m' := [(9, vi r_2.2), (17, vs r_6.1), (18, vs r_6.2.1), (19, vi r_6.2.2), (20, vi 32)]) ⟨rfl, rfl, rfl, rfl, rfl, trivial⟩ ?_
            refine TX.pull (is := []) (L' := []) rfl ?_
            obtain rfl := Option.some.inj H
            exact hJ ()
      · exact (Option.some.inj H)

end Go.Proofs
end

section
/-
  The law SchedNexts of the key schedule.
-/
namespace Go.Proofs
open Go Go.Kx
set_option linter.unusedVariables false
set_option linter.unusedSimpArgs false
theorem SchedNexts_true (which : Int) (secret : Str) (many : Int) (h1 : secret.length ≤ 140737488351232) : halberdlaw19_SchedNexts which secret many = some true := by
  unfold halberdlaw19_SchedNexts
  refine bind_i awake19 (if_n (by decide) (ltt_i fun w hw => ?_))
  obtain ⟨w', hw', ok⟩ := which3 which
  rw [hw'] at hw; subst hw
  have hq := hS_or w
  have hk := kN_le w
  refine bind_i (Bits_ok w ok) ?_
  have i7 : iop (· &&& ·) many 7 = many % 8 := and_mask many 3 (by decide)
  obtain ⟨m, hm, hml⟩ : ∃ m : Nat, many % 8 = (m : Int) ∧ m ≤ 7 := ⟨(many % 8).toNat, by omega, by omega⟩
  have key : ∃ t : Str, t.length ≤ 140737488351232 ∧ loop (halberdlaw19_SchedNexts.b0 many w (bS w, 0)) BIG (secret, secret, 0) = some (.inl t) := by
    refine loop_ex (fun o : Option (Str ⊕ Bool) => ∃ t : Str, t.length ≤ 140737488351232 ∧ o = some (.inl t)) m BIG (fun d (st : Str × Str × Int) => ∃ t : Str, t.length ≤ 140737488351232 ∧ d ≤ m ∧ st = (t, t, ((m - d : Nat) : Int))) _ ⟨secret, h1, Nat.le_refl _, by rw [Nat.sub_self]; rfl⟩ (by unfold BIG; omega) ?_ ?_
    · rintro d st ⟨t, ht, hd, rfl⟩
      refine .inl ⟨(dvT w t lNext [], dvT w t lNext [], ((m - d : Nat) : Int)), ?_, dvT w t lNext [], by rw [dvT_length]; omega, by omega, rfl⟩
      unfold halberdlaw19_SchedNexts.b0
      rw [i7, hm]
      have ne := Next_eq w t (by omega)
      rw [dvE_ok w ok _ _ _ (by decide) (by decide)] at ne
      refine if_i (by simp; omega) (bind_i ne ?_)
      dsimp only
      rw [w_bS]
      refine bind_i (lab_ok w ok t lNext [] (hS w) (by decide) (by decide) (by omega) (by omega)) (bind_i (num_eq _) ?_)
      refine bind_i (v := false) (if_n (fun c => c rfl) (if_n (fun c => c rfl) (congrArg some (decide_eq_false (fun c => c (congrArg Nat.cast (dvT_length w t lNext []))))))) (if_n (by decide) (ltt_i fun i hi => ?_))
      rw [hi]
      have : w64 (((m - (d + 1) : Nat) : Int) + 1) = ((m - d : Nat) : Int) := by
        rw [w64_id (by omega) (by omega)]; omega
      rw [this]; rfl
    · rintro st ⟨t, ht, -, rfl⟩
      refine ⟨.inl t, ?_, t, ht, rfl⟩
      unfold halberdlaw19_SchedNexts.b0
      rw [i7, hm]
      exact if_n (by simp) rfl
  obtain ⟨t, ht, hl⟩ := key
  refine bind_i hl ?_
  have ky : kyE w t = (lbT w t lKey [] (kN w), lbT w t lIv [] 12, 0) := if_pos ok
  have ke := Keys_eq w t (by omega)
  rw [ky] at ke
  refine bind_i ke ?_
  have hj : (if w = 4865 then some 16 else some 32) = some (kN w : Int) := by
    unfold kN kS
    split <;> rfl
  refine bind_i hj (bind_i (num_eq _) (if_i rfl (bind_i (num_eq _) (if_i rfl (if_i (congrArg Nat.cast (lbT_length w t lKey [] (kN w))) (ltt_i fun x hx => ?_))))))
  rw [hx]
  exact congrArg some (decide_eq_true (congrArg Nat.cast (lbT_length w t lIv [] 12)))
end Go.Proofs
end

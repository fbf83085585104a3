/-
  Part KN2 of the proofs of this seat: F79, F81, F80, F78, F82, F83, F48, F49, F47, F46, F92, F52, F91, F66, F67, F51, F45.
-/
import Derived.Test.YtiofnmmggblcgaaK2
set_option linter.unusedVariables false
set_option linter.unusedSimpArgs false
section
namespace Go.Proofs
open Go Go.Kx
def halberdref9_modulus (which : Int) : Option (Vx 32 8) :=
 ltt (decide (which = 0)) fun (x1 : Bool) => (if x1 = true then (ltt ((#v[4294967295#32, 4294967295#32, 4294967295#32, 0#32, 0#32, 0#32, 1#32, 4294967295#32] : Vx 32 8)) fun (m_1 : Vx 32 8) => (some m_1)) else (ltt (decide (which = 1)) fun (x2 : Bool) => (if x2 = true then (ltt ((#v[4234356049#32, 4089039554#32, 2803342980#32, 3169254061#32, 4294967295#32, 4294967295#32, 0#32, 4294967295#32] : Vx 32 8)) fun (m_2 : Vx 32 8) => (some m_2)) else (ltt ((#v[4294967277#32, 4294967295#32, 4294967295#32, 4294967295#32, 4294967295#32, 4294967295#32, 4294967295#32, 2147483647#32] : Vx 32 8)) fun (m_3 : Vx 32 8) => (some m_3)))))
set_option maxHeartbeats 4000000 in
set_option maxRecDepth 20000 in
theorem F79_calls (which : Int) (r : Vx 32 8) (H : halberdref9_modulus which = some r) :
  Does Try.prog 79 [vi which] [] [] (Γ := Unit) (fun g => aG [(8, e32 r.toList)]) (fun g => []) := by
 intro w hmem hro hd
 refine calls_of (N := 11) (m0 := [(0, vi which)]) Try.func79 rfl Try.ntmps79 (argM_ok [vi which]) rfl hmem hro hd ?_
 unfold halberdref9_modulus at H
 refine TC_seq ?_
 refine TC_region ?_
 refine TLe (E_al32 8 TryI.inf31 TryI.zer31) (fun b1 => ?_)
 refine TL_nil ?_
 refine TX_next ?_
 refine TC_seq ?_
 refine TC_seq ?_
 refine TC_region ?_
 refine TLv (V_move rfl) ?_
 refine TL_nil ?_
 refine TX_next ?_
 refine TC_block ?_
 refine TC_seq ?_
 refine TC_region ?_
 refine TLv (V_bin rfl rfl (fun w => eqlI w which 0)) ?_
 refine TLv (V_assign rfl) ?_
 obtain ⟨x1, hx1, H⟩ := ltt_elim H
 refine TL_re (d := 4) (v := vb (decide (which = 0))) (v' := vb x1) rfl (congrArg vb hx1) ?_
 refine TL_nil ?_
 refine TX_next ?_
 refine TC_cond (b := x1) rfl (fun hc => ?_) (fun hc => ?_)
 ·replace H := ite_t hc H
  refine TC_seq ?_
  refine TC_region ?_
  refine TLv (V_buildArr (pv := [(0, v32 4294967295#32), (1, v32 4294967295#32), (2, v32 4294967295#32), (3, v32 0#32), (4, v32 0#32), (5, v32 0#32), (6, v32 1#32), (7, v32 4294967295#32)]) rfl rfl Try.underlying31 TryI.inf31 TryI.inf29 rfl TryI.zer31 (cs := e32 ((#v[4294967295#32, 4294967295#32, 4294967295#32, 0#32, 0#32, 0#32, 1#32, 4294967295#32] : Vx 32 8).toList)) (by kernel_rfl)) ?_
  refine TLn (E_sv 0 TryI.inf31) (fun _ => ?_)
  obtain ⟨m_1, hm_1, H⟩ := ltt_elim H
  refine TL_reE (j := 0) (A := some (b1, 0)) (cs := e32 ((#v[4294967295#32, 4294967295#32, 4294967295#32, 0#32, 0#32, 0#32, 1#32, 4294967295#32] : Vx 32 8).toList)) (cs' := e32 m_1.toList) rfl (congrArg (fun z : Vx 32 8 => e32 (Vector.toList z)) hm_1) ?_
  refine TL_nil ?_
  refine TX_next ?_
  refine TC_ret ?_
  refine TX_block_ret ?_
  refine TX_then_ret ?_
  have hrv := Option.some.inj H
  subst hrv
  exact TX_ret (rs := [.cell 2 31]) (vs := [aG [(8, e32 m_1.toList)]]) rfl ⟨(Res_agg (n := 8) rfl (by simp) (.o 0) Try.isAgg31 TryI.inf31 rfl (lenV (f := v32) m_1)), trivial⟩ (fun w' hs' => ⟨(), rfl, Step.left (Step.pulled (is := []) (A := []) hs' rfl)⟩)
 ·replace H := ite_f (Bool.eq_false_iff.1 hc) H
  refine TC_seq ?_
  refine TC_region ?_
  refine TLv (V_bin rfl rfl (fun w => eqlI w which 1)) ?_
  refine TLv (V_assign rfl) ?_
  obtain ⟨x2, hx2, H⟩ := ltt_elim H
  refine TL_re (d := 7) (v := vb (decide (which = 1))) (v' := vb x2) rfl (congrArg vb hx2) ?_
  refine TL_nil ?_
  refine TX_next ?_
  refine TC_cond (b := x2) rfl (fun hc => ?_) (fun hc => ?_)
  ·replace H := ite_t hc H
   refine TC_seq ?_
   refine TC_region ?_
   refine TLv (V_buildArr (pv := [(0, v32 4234356049#32), (1, v32 4089039554#32), (2, v32 2803342980#32), (3, v32 3169254061#32), (4, v32 4294967295#32), (5, v32 4294967295#32), (6, v32 0#32), (7, v32 4294967295#32)]) rfl rfl Try.underlying31 TryI.inf31 TryI.inf29 rfl TryI.zer31 (cs := e32 ((#v[4234356049#32, 4089039554#32, 2803342980#32, 3169254061#32, 4294967295#32, 4294967295#32, 0#32, 4294967295#32] : Vx 32 8).toList)) (by kernel_rfl)) ?_
   refine TLn (E_sv 0 TryI.inf31) (fun _ => ?_)
   obtain ⟨m_2, hm_2, H⟩ := ltt_elim H
   refine TL_reE (j := 0) (A := some (b1, 0)) (cs := e32 ((#v[4234356049#32, 4089039554#32, 2803342980#32, 3169254061#32, 4294967295#32, 4294967295#32, 0#32, 4294967295#32] : Vx 32 8).toList)) (cs' := e32 m_2.toList) rfl (congrArg (fun z : Vx 32 8 => e32 (Vector.toList z)) hm_2) ?_
   refine TL_nil ?_
   refine TX_next ?_
   refine TC_ret ?_
   refine TX_block_ret ?_
   refine TX_then_ret ?_
   have hrv := Option.some.inj H
   subst hrv
   exact TX_ret (rs := [.cell 2 31]) (vs := [aG [(8, e32 m_2.toList)]]) rfl ⟨(Res_agg (n := 8) rfl (by simp) (.o 0) Try.isAgg31 TryI.inf31 rfl (lenV (f := v32) m_2)), trivial⟩ (fun w' hs' => ⟨(), rfl, Step.left (Step.pulled (is := []) (A := []) hs' rfl)⟩)
  ·replace H := ite_f (Bool.eq_false_iff.1 hc) H
   refine TC_skip ?_
   refine TX_block_normal ?_
   refine TX_next ?_
   refine TC_seq ?_
   refine TC_region ?_
   refine TLv (V_buildArr (pv := [(0, v32 4294967277#32), (1, v32 4294967295#32), (2, v32 4294967295#32), (3, v32 4294967295#32), (4, v32 4294967295#32), (5, v32 4294967295#32), (6, v32 4294967295#32), (7, v32 2147483647#32)]) rfl rfl Try.underlying31 TryI.inf31 TryI.inf29 rfl TryI.zer31 (cs := e32 ((#v[4294967277#32, 4294967295#32, 4294967295#32, 4294967295#32, 4294967295#32, 4294967295#32, 4294967295#32, 2147483647#32] : Vx 32 8).toList)) (by kernel_rfl)) ?_
   refine TLn (E_sv 0 TryI.inf31) (fun _ => ?_)
   obtain ⟨m_3, hm_3, H⟩ := ltt_elim H
   refine TL_reE (j := 0) (A := some (b1, 0)) (cs := e32 ((#v[4294967277#32, 4294967295#32, 4294967295#32, 4294967295#32, 4294967295#32, 4294967295#32, 4294967295#32, 2147483647#32] : Vx 32 8).toList)) (cs' := e32 m_3.toList) rfl (congrArg (fun z : Vx 32 8 => e32 (Vector.toList z)) hm_3) ?_
   refine TL_nil ?_
   refine TX_next ?_
   refine TC_ret ?_
   have hrv := Option.some.inj H
   subst hrv
   exact TX_ret (rs := [.cell 2 31]) (vs := [aG [(8, e32 m_3.toList)]]) rfl ⟨(Res_agg (n := 8) rfl (by simp) (.o 0) Try.isAgg31 TryI.inf31 rfl (lenV (f := v32) m_3)), trivial⟩ (fun w' hs' => ⟨(), rfl, Step.left (Step.pulled (is := []) (A := []) hs' rfl)⟩)
end Go.Proofs
end

section
namespace Go.Proofs
open Go Go.Kx
def halberdref9_inverse (which : Int) : Option (BitVec 64) :=
 ltt (decide (which = 0)) fun (x1 : Bool) => (if x1 = true then (some 1#64) else (ltt (decide (which = 1)) fun (x2 : Bool) => (if x2 = true then (some 3993025615#64) else (some 678152731#64))))
set_option maxHeartbeats 4000000 in
set_option maxRecDepth 20000 in
theorem F81_calls (which : Int) (r : BitVec 64) (H : halberdref9_inverse which = some r) :
  Does Try.prog 81 [vi which] [] [] (Γ := Unit) (fun g => v64 r) (fun g => []) := by
 intro w hmem hro hd
 refine calls_of (N := 8) (m0 := [(0, vi which)]) Try.func81 rfl Try.ntmps81 (argM_ok [vi which]) rfl hmem hro hd ?_
 unfold halberdref9_inverse at H
 refine TC_seq ?_
 refine TC_region ?_
 refine TLv (V_assign rfl) ?_
 refine TL_nil ?_
 refine TX_next ?_
 refine TC_seq ?_
 refine TC_seq ?_
 refine TC_region ?_
 refine TLv (V_move rfl) ?_
 refine TL_nil ?_
 refine TX_next ?_
 refine TC_block ?_
 refine TC_seq ?_
 refine TC_region ?_
 refine TLv (V_bin rfl rfl (fun w => eqlI w which 0)) ?_
 refine TLv (V_assign rfl) ?_
 obtain ⟨x1, hx1, H⟩ := ltt_elim H
 refine TL_re (d := 4) (v := vb (decide (which = 0))) (v' := vb x1) rfl (congrArg vb hx1) ?_
 refine TL_nil ?_
 refine TX_next ?_
 refine TC_cond (b := x1) rfl (fun hc => ?_) (fun hc => ?_)
 ·replace H := ite_t hc H
  refine TC_seq ?_
  refine TC_region ?_
  refine TLv (V_assign rfl) ?_
  refine TL_nil ?_
  refine TX_next ?_
  refine TC_ret ?_
  refine TX_block_ret ?_
  refine TX_then_ret ?_
  have hrv := Option.some.inj H
  subst hrv
  exact TX_ret (rs := [.tmp 2]) (vs := [v64 1#64]) rfl ⟨rfl, trivial⟩ (fun w' hs' => ⟨(), rfl, Step.left (Step.pulled (is := []) (A := []) hs' rfl)⟩)
 ·replace H := ite_f (Bool.eq_false_iff.1 hc) H
  refine TC_seq ?_
  refine TC_region ?_
  refine TLv (V_bin rfl rfl (fun w => eqlI w which 1)) ?_
  refine TLv (V_assign rfl) ?_
  obtain ⟨x2, hx2, H⟩ := ltt_elim H
  refine TL_re (d := 6) (v := vb (decide (which = 1))) (v' := vb x2) rfl (congrArg vb hx2) ?_
  refine TL_nil ?_
  refine TX_next ?_
  refine TC_cond (b := x2) rfl (fun hc => ?_) (fun hc => ?_)
  ·replace H := ite_t hc H
   refine TC_seq ?_
   refine TC_region ?_
   refine TLv (V_assign rfl) ?_
   refine TL_nil ?_
   refine TX_next ?_
   refine TC_ret ?_
   refine TX_block_ret ?_
   refine TX_then_ret ?_
   have hrv := Option.some.inj H
   subst hrv
   exact TX_ret (rs := [.tmp 2]) (vs := [v64 3993025615#64]) rfl ⟨rfl, trivial⟩ (fun w' hs' => ⟨(), rfl, Step.left (Step.pulled (is := []) (A := []) hs' rfl)⟩)
  ·replace H := ite_f (Bool.eq_false_iff.1 hc) H
   refine TC_skip ?_
   refine TX_block_normal ?_
   refine TX_next ?_
   refine TC_seq ?_
   refine TC_region ?_
   refine TLv (V_assign rfl) ?_
   refine TL_nil ?_
   refine TX_next ?_
   refine TC_ret ?_
   have hrv := Option.some.inj H
   subst hrv
   exact TX_ret (rs := [.tmp 2]) (vs := [v64 678152731#64]) rfl ⟨rfl, trivial⟩ (fun w' hs' => ⟨(), rfl, Step.left (Step.pulled (is := []) (A := []) hs' rfl)⟩)
end Go.Proofs
end

section
namespace Go.Proofs
open Go Go.Kx
def halberdref9_square (which : Int) : Option (Vx 32 8) :=
 ltt (decide (which = 0)) fun (x1 : Bool) => (if x1 = true then (ltt ((#v[3#32, 0#32, 4294967295#32, 4294967291#32, 4294967294#32, 4294967295#32, 4294967293#32, 4#32] : Vx 32 8)) fun (m_1 : Vx 32 8) => (some m_1)) else (ltt (decide (which = 1)) fun (x2 : Bool) => (if x2 = true then (ltt ((#v[3195661986#32, 2200194197#32, 1237151654#32, 1184463260#32, 728493145#32, 675656249#32, 4091106848#32, 1726033300#32] : Vx 32 8)) fun (m_2 : Vx 32 8) => (some m_2)) else (ltt ((#v[1444#32, 0#32, 0#32, 0#32, 0#32, 0#32, 0#32, 0#32] : Vx 32 8)) fun (m_3 : Vx 32 8) => (some m_3)))))
set_option maxHeartbeats 4000000 in
set_option maxRecDepth 20000 in
theorem F80_calls (which : Int) (r : Vx 32 8) (H : halberdref9_square which = some r) :
  Does Try.prog 80 [vi which] [] [] (Γ := Unit) (fun g => aG [(8, e32 r.toList)]) (fun g => []) := by
 intro w hmem hro hd
 refine calls_of (N := 11) (m0 := [(0, vi which)]) Try.func80 rfl Try.ntmps80 (argM_ok [vi which]) rfl hmem hro hd ?_
 unfold halberdref9_square at H
 refine TC_seq ?_
 refine TC_region ?_
 refine TLe (E_al32 8 TryI.inf31 TryI.zer31) (fun b1 => ?_)
 refine TL_nil ?_
 refine TX_next ?_
 refine TC_seq ?_
 refine TC_seq ?_
 refine TC_region ?_
 refine TLv (V_move rfl) ?_
 refine TL_nil ?_
 refine TX_next ?_
 refine TC_block ?_
 refine TC_seq ?_
 refine TC_region ?_
 refine TLv (V_bin rfl rfl (fun w => eqlI w which 0)) ?_
 refine TLv (V_assign rfl) ?_
 obtain ⟨x1, hx1, H⟩ := ltt_elim H
 refine TL_re (d := 4) (v := vb (decide (which = 0))) (v' := vb x1) rfl (congrArg vb hx1) ?_
 refine TL_nil ?_
 refine TX_next ?_
 refine TC_cond (b := x1) rfl (fun hc => ?_) (fun hc => ?_)
 ·replace H := ite_t hc H
  refine TC_seq ?_
  refine TC_region ?_
  refine TLv (V_buildArr (pv := [(0, v32 3#32), (1, v32 0#32), (2, v32 4294967295#32), (3, v32 4294967291#32), (4, v32 4294967294#32), (5, v32 4294967295#32), (6, v32 4294967293#32), (7, v32 4#32)]) rfl rfl Try.underlying31 TryI.inf31 TryI.inf29 rfl TryI.zer31 (cs := e32 ((#v[3#32, 0#32, 4294967295#32, 4294967291#32, 4294967294#32, 4294967295#32, 4294967293#32, 4#32] : Vx 32 8).toList)) (by kernel_rfl)) ?_
  refine TLn (E_sv 0 TryI.inf31) (fun _ => ?_)
  obtain ⟨m_1, hm_1, H⟩ := ltt_elim H
  refine TL_reE (j := 0) (A := some (b1, 0)) (cs := e32 ((#v[3#32, 0#32, 4294967295#32, 4294967291#32, 4294967294#32, 4294967295#32, 4294967293#32, 4#32] : Vx 32 8).toList)) (cs' := e32 m_1.toList) rfl (congrArg (fun z : Vx 32 8 => e32 (Vector.toList z)) hm_1) ?_
  refine TL_nil ?_
  refine TX_next ?_
  refine TC_ret ?_
  refine TX_block_ret ?_
  refine TX_then_ret ?_
  have hrv := Option.some.inj H
  subst hrv
  exact TX_ret (rs := [.cell 2 31]) (vs := [aG [(8, e32 m_1.toList)]]) rfl ⟨(Res_agg (n := 8) rfl (by simp) (.o 0) Try.isAgg31 TryI.inf31 rfl (lenV (f := v32) m_1)), trivial⟩ (fun w' hs' => ⟨(), rfl, Step.left (Step.pulled (is := []) (A := []) hs' rfl)⟩)
 ·replace H := ite_f (Bool.eq_false_iff.1 hc) H
  refine TC_seq ?_
  refine TC_region ?_
  refine TLv (V_bin rfl rfl (fun w => eqlI w which 1)) ?_
  refine TLv (V_assign rfl) ?_
  obtain ⟨x2, hx2, H⟩ := ltt_elim H
  refine TL_re (d := 7) (v := vb (decide (which = 1))) (v' := vb x2) rfl (congrArg vb hx2) ?_
  refine TL_nil ?_
  refine TX_next ?_
  refine TC_cond (b := x2) rfl (fun hc => ?_) (fun hc => ?_)
  ·replace H := ite_t hc H
   refine TC_seq ?_
   refine TC_region ?_
   refine TLv (V_buildArr (pv := [(0, v32 3195661986#32), (1, v32 2200194197#32), (2, v32 1237151654#32), (3, v32 1184463260#32), (4, v32 728493145#32), (5, v32 675656249#32), (6, v32 4091106848#32), (7, v32 1726033300#32)]) rfl rfl Try.underlying31 TryI.inf31 TryI.inf29 rfl TryI.zer31 (cs := e32 ((#v[3195661986#32, 2200194197#32, 1237151654#32, 1184463260#32, 728493145#32, 675656249#32, 4091106848#32, 1726033300#32] : Vx 32 8).toList)) (by kernel_rfl)) ?_
   refine TLn (E_sv 0 TryI.inf31) (fun _ => ?_)
   obtain ⟨m_2, hm_2, H⟩ := ltt_elim H
   refine TL_reE (j := 0) (A := some (b1, 0)) (cs := e32 ((#v[3195661986#32, 2200194197#32, 1237151654#32, 1184463260#32, 728493145#32, 675656249#32, 4091106848#32, 1726033300#32] : Vx 32 8).toList)) (cs' := e32 m_2.toList) rfl (congrArg (fun z : Vx 32 8 => e32 (Vector.toList z)) hm_2) ?_
   refine TL_nil ?_
   refine TX_next ?_
   refine TC_ret ?_
   refine TX_block_ret ?_
   refine TX_then_ret ?_
   have hrv := Option.some.inj H
   subst hrv
   exact TX_ret (rs := [.cell 2 31]) (vs := [aG [(8, e32 m_2.toList)]]) rfl ⟨(Res_agg (n := 8) rfl (by simp) (.o 0) Try.isAgg31 TryI.inf31 rfl (lenV (f := v32) m_2)), trivial⟩ (fun w' hs' => ⟨(), rfl, Step.left (Step.pulled (is := []) (A := []) hs' rfl)⟩)
  ·replace H := ite_f (Bool.eq_false_iff.1 hc) H
   refine TC_skip ?_
   refine TX_block_normal ?_
   refine TX_next ?_
   refine TC_seq ?_
   refine TC_region ?_
   refine TLv (V_buildArr (pv := [(0, v32 1444#32), (1, v32 0#32), (2, v32 0#32), (3, v32 0#32), (4, v32 0#32), (5, v32 0#32), (6, v32 0#32), (7, v32 0#32)]) rfl rfl Try.underlying31 TryI.inf31 TryI.inf29 rfl TryI.zer31 (cs := e32 ((#v[1444#32, 0#32, 0#32, 0#32, 0#32, 0#32, 0#32, 0#32] : Vx 32 8).toList)) (by kernel_rfl)) ?_
   refine TLn (E_sv 0 TryI.inf31) (fun _ => ?_)
   obtain ⟨m_3, hm_3, H⟩ := ltt_elim H
   refine TL_reE (j := 0) (A := some (b1, 0)) (cs := e32 ((#v[1444#32, 0#32, 0#32, 0#32, 0#32, 0#32, 0#32, 0#32] : Vx 32 8).toList)) (cs' := e32 m_3.toList) rfl (congrArg (fun z : Vx 32 8 => e32 (Vector.toList z)) hm_3) ?_
   refine TL_nil ?_
   refine TX_next ?_
   refine TC_ret ?_
   have hrv := Option.some.inj H
   subst hrv
   exact TX_ret (rs := [.cell 2 31]) (vs := [aG [(8, e32 m_3.toList)]]) rfl ⟨(Res_agg (n := 8) rfl (by simp) (.o 0) Try.isAgg31 TryI.inf31 rfl (lenV (f := v32) m_3)), trivial⟩ (fun w' hs' => ⟨(), rfl, Step.left (Step.pulled (is := []) (A := []) hs' rfl)⟩)
end Go.Proofs
end

section
namespace Go.Proofs
open Go Go.Kx
def halberdref9_less.b0 (a_ : Vx 32 8) (b : Vx 32 8) (s0 : Int) : Option ((Int) ⊕ ((Unit) ⊕ (Bool))) :=
 if 0 ≤ s0 then (if 0 ≤ s0 ∧ s0 < (8 : Int) then (if 0 ≤ s0 ∧ s0 < (8 : Int) then (if (vg a_ ((s0).toNat)) ≠ (vg b ((s0).toNat)) then (if 0 ≤ s0 ∧ s0 < (8 : Int) then (if 0 ≤ s0 ∧ s0 < (8 : Int) then (ltt (decide (((vg a_ ((s0).toNat))).toNat < ((vg b ((s0).toNat))).toNat)) fun (x1 : Bool) => (some (.inr (.inr x1)))) else none) else none) else (some (.inl (w64 (s0 - 1))))) else none) else none) else (some (.inr (.inl ())))
def halberdref9_less (a_ : Vx 32 8) (b : Vx 32 8) : Option (Bool) :=
 (loop (halberdref9_less.b0 a_ b) BIG 7).bind fun (t_1 : (Unit) ⊕ (Bool)) => (match t_1 with | .inl t_1 => (some false) | .inr rv => some rv)
set_option maxHeartbeats 4000000 in
set_option maxRecDepth 20000 in
theorem F78_calls (a_ : Vx 32 8) (b : Vx 32 8) (r : Bool) (H : halberdref9_less a_ b = some r) :
  Does Try.prog 78 [aG [(8, e32 a_.toList)], aG [(8, e32 b.toList)]] [] [] (Γ := Unit) (fun g => vb r) (fun g => []) := by
 intro w hmem hro hd
 refine calls_of (N := 24) (m0 := [(0, aG [(8, e32 a_.toList)]), (1, aG [(8, e32 b.toList)])]) Try.func78 rfl Try.ntmps78 (argM_ok [aG [(8, e32 a_.toList)], aG [(8, e32 b.toList)]]) rfl hmem hro hd ?_
 unfold halberdref9_less at H
 refine TC_seq ?_
 refine TC_region ?_
 refine TLe (E_boxP [(8, e32 a_.toList)] rfl rfl ⟨(lenV (f := v32) a_), trivial⟩) (fun b1 => ?_)
 refine TLe (E_boxP [(8, e32 b.toList)] rfl rfl ⟨(lenV (f := v32) b), trivial⟩) (fun b2 => ?_)
 refine TLv (V_assign rfl) ?_
 refine TL_nil ?_
 refine TX_next ?_
 refine TC_seq ?_
 refine TC_seq ?_
 refine TC_region ?_
 refine TLv (V_assign rfl) ?_
 refine TL_nil ?_
 refine TX_next ?_
 refine TC_block ?_
 obtain ⟨t_1, Hl, H⟩ := bind_elim H
 refine TC.sub (m' := [(2, ptr (some (b1, 0)) 0), (3, ptr (some (b2, 0)) 0), (5, vi 7)]) ⟨rfl, rfl, rfl, trivial⟩ ?_
 refine TC.pull (is := [1, 0]) (L' := [⟨some (b1, 0), e32 a_.toList⟩, ⟨some (b2, 0), e32 b.toList⟩]) rfl ?_
 refine TC_loopR (id := 0) (body := (halberdref9_less.b0 a_ b)) (σ := Int) (Γ := Unit) (Γx := Unit) (fun s0 g0_ => [(2, ptr (some (b1, 0)) 0), (3, ptr (some (b2, 0)) 0), (5, vi s0)]) (fun s0 g0_ => [⟨some (b1, 0), e32 a_.toList⟩, ⟨some (b2, 0), e32 b.toList⟩]) (fun t g => []) (fun t g => []) r ?_ BIG 7 () t_1 Hl ?_
 ·intro s0 g0_ r1 H K hK hE hR1
  unfold halberdref9_less.b0 at H
  refine TC_seq ?_
  refine TC_seq ?_
  refine TC_region ?_
  refine TLv (V_move rfl) ?_
  refine TLv (V_bin rfl rfl (fun w => geqI w s0 0)) ?_
  refine TL_nil ?_
  refine TX_next ?_
  refine TC_cond (b := (decide (0 ≤ s0))) rfl (fun hc => ?_) (fun hc => ?_)
  ·replace H := ite_t (of_decide_eq_true hc) H
   refine TC_skip ?_
   refine TX_next ?_
   refine TC_seq ?_
   refine TC_block ?_
   refine TC_seq ?_
   obtain ⟨h1, H⟩ := if_elim H
   obtain ⟨h2, H⟩ := if_elim H
   refine TA_begin [] 7 (by kernel_rfl) (N := 7) rfl ?_
   refine TA_mix (is := []) (done' := dn 7 127) [itV 0 10 (vi s0) [], itV 1 11 (ptr (some (b1, 0)) ((s0).toNat)) [0], itV 2 12 (v32 (vg a_ ((s0).toNat))) [1], itV 3 13 (vi s0) [], itV 4 14 (ptr (some (b2, 0)) ((s0).toNat)) [3], itV 5 15 (v32 (vg b ((s0).toNat))) [4], itV 6 16 (vb (decide ((vg a_ ((s0).toNat)) ≠ (vg b ((s0).toNat))))) [2, 5]] [] 0 (by kernel_rfl) (QP.then (QP.block (QP.then (QP.then (QP.block (QP.then QP.body)))))) (by kernel_rfl) rfl (.v rfl (V_move rfl) (.v rfl (V_idxArr (i := s0) rfl rfl Try.underlying31 TryI.inf29 rfl h1.1 h1.2 (k := (s0).toNat) (k01 _)) (.v rfl (V_load rfl (.o 0) (get_vec (f := v32) (V := a_) (toNat_lt h1.1 h1.2)) Try.isAgg29) (.v rfl (V_move rfl) (.v rfl (V_idxArr (i := s0) rfl rfl Try.underlying31 TryI.inf29 rfl h2.1 h2.2 (k := (s0).toNat) (k01 _)) (.v rfl (V_load rfl (.o 1) (get_vec (f := v32) (V := b) (toNat_lt h2.1 h2.2)) Try.isAgg29) (.v rfl (V_bin rfl rfl (fun w => neq32 w (vg a_ ((s0).toNat)) (vg b ((s0).toNat)))) .nil))))))) .nil (by kernel_rfl) rfl (fun γ => ?_)
   refine TA_cut [(16, vb (decide ((vg a_ ((s0).toNat)) ≠ (vg b ((s0).toNat))))), (2, ptr (some (b1, 0)) 0), (3, ptr (some (b2, 0)) 0), (5, vi s0)] [⟨some (b1, 0), e32 a_.toList⟩, ⟨some (b2, 0), e32 b.toList⟩] ⟨rfl, rfl, rfl, rfl, trivial⟩ rfl ?_
   refine TA_done (by kernel_rfl) ?_ 0
   refine TX_next ?_
   refine TC_cond (b := (decide ((vg a_ ((s0).toNat)) ≠ (vg b ((s0).toNat))))) rfl (fun hc => ?_) (fun hc => ?_)
   ·replace H := ite_t (of_decide_eq_true hc) H
    refine TC_seq ?_
    obtain ⟨h3, H⟩ := if_elim H
    obtain ⟨h4, H⟩ := if_elim H
    obtain ⟨x1, hx1, H⟩ := ltt_elim H
    refine TA_begin [] 8 (by kernel_rfl) (N := 8) rfl ?_
    refine TA_mix (is := []) (done' := dn 8 127) [itV 0 17 (vi s0) [], itV 1 18 (ptr (some (b1, 0)) ((s0).toNat)) [0], itV 2 19 (v32 (vg a_ ((s0).toNat))) [1], itV 3 20 (vi s0) [], itV 4 21 (ptr (some (b2, 0)) ((s0).toNat)) [3], itV 5 22 (v32 (vg b ((s0).toNat))) [4], itV 6 23 (vb (decide (((vg a_ ((s0).toNat))).toNat < ((vg b ((s0).toNat))).toNat))) [2, 5]] [] 1 (by kernel_rfl) (QP.then (QP.block (QP.then (QP.then (QP.block (QP.then QP.body)))))) (by kernel_rfl) rfl (.v rfl (V_move rfl) (.v rfl (V_idxArr (i := s0) rfl rfl Try.underlying31 TryI.inf29 rfl h3.1 h3.2 (k := (s0).toNat) (k01 _)) (.v rfl (V_load rfl (.o 0) (get_vec (f := v32) (V := a_) (toNat_lt h3.1 h3.2)) Try.isAgg29) (.v rfl (V_move rfl) (.v rfl (V_idxArr (i := s0) rfl rfl Try.underlying31 TryI.inf29 rfl h4.1 h4.2 (k := (s0).toNat) (k01 _)) (.v rfl (V_load rfl (.o 1) (get_vec (f := v32) (V := b) (toNat_lt h4.1 h4.2)) Try.isAgg29) (.v rfl (V_bin rfl rfl (fun w => lss32 w (vg a_ ((s0).toNat)) (vg b ((s0).toNat)))) .nil))))))) .nil (by kernel_rfl) rfl (fun γ => ?_)
    refine TA_cut [(23, vb (decide (((vg a_ ((s0).toNat))).toNat < ((vg b ((s0).toNat))).toNat)))] [⟨some (b1, 0), e32 a_.toList⟩, ⟨some (b2, 0), e32 b.toList⟩] ⟨rfl, trivial⟩ rfl ?_
    refine TA_all (rs := [7]) (by kernel_rfl) rfl ?_
    refine ⟨?_, trivial⟩
    refine TO_v (is := []) (done' := dn 8 255) rfl rfl rfl rfl (by kernel_rfl) (V_assign rfl) (fun _ => rfl) ?_
    refine TA_re (d := 4) (v := vb (decide (((vg a_ ((s0).toNat))).toNat < ((vg b ((s0).toNat))).toNat))) (v' := vb x1) rfl (congrArg vb hx1) ?_
    refine TA_done (by kernel_rfl) ?_ 0
    refine TX_next ?_
    refine TC_ret ?_
    refine TX_block_ret ?_
    refine TX_then_ret ?_
    refine TX_then_ret ?_
    refine TX_block_ret ?_
    refine TX_then_ret ?_
    have hrv := (hR1 _ (Option.some.inj H).symm)
    subst hrv
    exact TX_ret (rs := [.tmp 4]) (vs := [vb x1]) rfl ⟨rfl, trivial⟩ (fun w' hs' => ⟨(), rfl, Step.left (Step.pulled (is := []) (A := []) hs' rfl)⟩)
   ·replace H := ite_f (of_decide_eq_false hc) H
    refine TC_skip ?_
    refine TX_block_normal ?_
    refine TX_next ?_
    refine TC_region ?_
    refine TLv (V_move rfl) ?_
    refine TLv (V_bin rfl rfl (fun w => subI w s0 1)) ?_
    refine TLv (V_assign rfl) ?_
    refine TL_nil ?_
    refine TX.sub (m' := [(2, ptr (some (b1, 0)) 0), (3, ptr (some (b2, 0)) 0), (5, vi (w64 (s0 - 1)))]) ⟨rfl, rfl, rfl, trivial⟩ ?_
    refine TX.pull (is := [0, 0]) (L' := [⟨some (b1, 0), e32 a_.toList⟩, ⟨some (b2, 0), e32 b.toList⟩]) rfl ?_
    obtain rfl := Option.some.inj H
    exact fun a w hs => hK (w64 (s0 - 1)) rfl () a w hs
  ·replace H := ite_f (of_decide_eq_false hc) H
   refine TC_exit ?_
   refine TX_then_exit ?_
   refine TX_then_exit ?_
   refine TX.sub (m' := []) trivial ?_
   refine TX.pull (is := []) (L' := []) rfl ?_
   obtain rfl := Option.some.inj H
   exact hE () rfl ()
 ·rcases t_1 with t_1 | rv
  ·intro gx1
   dsimp only at H
   refine TX_block_exit ?_
   refine TX_next ?_
   refine TC_seq ?_
   refine TC_region ?_
   refine TLv (V_assign rfl) ?_
   refine TL_nil ?_
   refine TX_next ?_
   refine TC_ret ?_
   have hrv := Option.some.inj H
   subst hrv
   exact TX_ret (rs := [.tmp 4]) (vs := [vb false]) rfl ⟨rfl, trivial⟩ (fun w' hs' => ⟨(), rfl, Step.left (Step.pulled (is := []) (A := []) hs' rfl)⟩)
  ·exact (Option.some.inj H)
end Go.Proofs
end

section
namespace Go.Proofs
open Go Go.Kx
open Vector (replicate)
def halberdref9_minus.b0 (b : Vx 32 8) (s0 : BitVec 64 × Int × Vx 32 8) : Option ((BitVec 64 × Int × Vx 32 8) ⊕ (Vx 32 8)) :=
 if s0.2.1 < 8 then (if 0 ≤ s0.2.1 ∧ s0.2.1 < (8 : Int) then (if 0 ≤ s0.2.1 ∧ s0.2.1 < (8 : Int) then (ltt ((((vg s0.2.2 ((s0.2.1).toNat)).setWidth 64) - ((vg b ((s0.2.1).toNat)).setWidth 64)) - s0.1) fun (d1 : BitVec 64) => (if 0 ≤ s0.2.1 ∧ s0.2.1 < (8 : Int) then (ltt (vp s0.2.2 ((s0.2.1).toNat) ((d1 &&& 4294967295#64).setWidth 32)) fun (m_1 : Vx 32 8) => (ltt (w64 (s0.2.1 + 1)) fun (i1 : Int) => (some (.inl (d1 >>> 63, i1, m_1))))) else none)) else none) else none) else (some (.inr s0.2.2))
def halberdref9_minus (a_ : Vx 32 8) (b : Vx 32 8) : Option (Vx 32 8) :=
 (loop (halberdref9_minus.b0 b) BIG (0#64, 0, a_)).bind fun (t_1 : Vx 32 8) => (some t_1)
set_option maxHeartbeats 4000000 in
set_option maxRecDepth 20000 in
theorem F82_calls (a_ : Vx 32 8) (b : Vx 32 8) (r : Vx 32 8) (H : halberdref9_minus a_ b = some r) :
  Does Try.prog 82 [aG [(8, e32 a_.toList)], aG [(8, e32 b.toList)]] [] [] (Γ := Unit) (fun g => aG [(8, e32 r.toList)]) (fun g => []) := by
 intro w hmem hro hd
 refine calls_of (N := 31) (m0 := [(0, aG [(8, e32 a_.toList)]), (1, aG [(8, e32 b.toList)])]) Try.func82 rfl Try.ntmps82 (argM_ok [aG [(8, e32 a_.toList)], aG [(8, e32 b.toList)]]) rfl hmem hro hd ?_
 unfold halberdref9_minus at H
 refine TC_seq ?_
 refine TC_region ?_
 refine TLe (E_boxP [(8, e32 a_.toList)] rfl rfl ⟨(lenV (f := v32) a_), trivial⟩) (fun b1 => ?_)
 refine TLe (E_boxP [(8, e32 b.toList)] rfl rfl ⟨(lenV (f := v32) b), trivial⟩) (fun b2 => ?_)
 refine TLe (E_al32 8 TryI.inf31 TryI.zer31) (fun b3 => ?_)
 refine TL_nil ?_
 refine TX_next ?_
 refine TC_seq ?_
 refine TC_region ?_
 refine TLv (V_assign rfl) ?_
 refine TL_nil ?_
 refine TX_next ?_
 refine TC_seq ?_
 refine TC_seq ?_
 refine TC_region ?_
 refine TLv (V_assign rfl) ?_
 refine TL_nil ?_
 refine TX_next ?_
 refine TC_block ?_
 obtain ⟨t_1, Hl, H⟩ := bind_elim H
 refine TC.sub (m' := [(2, ptr (some (b1, 0)) 0), (3, ptr (some (b2, 0)) 0), (4, ptr (some (b3, 0)) 0), (5, v64 0#64), (6, vi 0)]) ⟨rfl, rfl, rfl, rfl, rfl, trivial⟩ ?_
 refine TC.pull (is := [2, 1, 0]) (L' := [⟨some (b1, 0), e32 a_.toList⟩, ⟨some (b2, 0), e32 b.toList⟩, ⟨some (b3, 0), e32 ((replicate 8 0#32).toList)⟩]) rfl ?_
 refine TC_loopL (id := 0) (body := (halberdref9_minus.b0 b)) (σ := BitVec 64 × Int × Vx 32 8) (Γ := Unit) (Γx := Unit) (fun s0 g0_ => [(2, ptr (some (b1, 0)) 0), (3, ptr (some (b2, 0)) 0), (4, ptr (some (b3, 0)) 0), (5, v64 s0.1), (6, vi s0.2.1)]) (fun s0 g0_ => [⟨some (b1, 0), e32 s0.2.2.toList⟩, ⟨some (b2, 0), e32 b.toList⟩, ⟨some (b3, 0), e32 ((replicate 8 0#32).toList)⟩]) (fun t g => [(2, ptr (some (b1, 0)) 0), (4, ptr (some (b3, 0)) 0)]) (fun t g => [⟨some (b1, 0), e32 t.toList⟩, ⟨some (b3, 0), e32 ((replicate 8 0#32).toList)⟩]) ?_ BIG (0#64, 0, a_) () t_1 Hl ?_
 ·intro s0 g0_ r1 H K hK hE
  unfold halberdref9_minus.b0 at H
  refine TC_seq ?_
  refine TC_seq ?_
  refine TC_region ?_
  refine TLv (V_move rfl) ?_
  refine TLv (V_bin rfl rfl (fun w => lssI w s0.2.1 8)) ?_
  refine TL_nil ?_
  refine TX_next ?_
  refine TC_cond (b := (decide (s0.2.1 < 8))) rfl (fun hc => ?_) (fun hc => ?_)
  ·replace H := ite_t (of_decide_eq_true hc) H
   refine TC_skip ?_
   refine TX_next ?_
   refine TC_seq ?_
   refine TC_block ?_
   refine TC_seq ?_
   obtain ⟨h1, H⟩ := if_elim H
   obtain ⟨h2, H⟩ := if_elim H
   obtain ⟨d1, hd1, H⟩ := ltt_elim H
   refine TA_begin [] 12 (by kernel_rfl) (N := 12) rfl ?_
   refine TA_mix (is := []) (done' := dn 12 2047) [itV 0 12 (vi s0.2.1) [], itV 1 13 (ptr (some (b1, 0)) ((s0.2.1).toNat)) [0], itV 2 14 (v32 (vg s0.2.2 ((s0.2.1).toNat))) [1], itV 3 15 (v64 ((vg s0.2.2 ((s0.2.1).toNat)).setWidth 64)) [2], itV 4 16 (vi s0.2.1) [], itV 5 17 (ptr (some (b2, 0)) ((s0.2.1).toNat)) [4], itV 6 18 (v32 (vg b ((s0.2.1).toNat))) [5], itV 7 19 (v64 ((vg b ((s0.2.1).toNat)).setWidth 64)) [6], itV 8 20 (v64 (((vg s0.2.2 ((s0.2.1).toNat)).setWidth 64) - ((vg b ((s0.2.1).toNat)).setWidth 64))) [7, 3], itV 9 21 (v64 s0.1) [], itV 10 22 (v64 ((((vg s0.2.2 ((s0.2.1).toNat)).setWidth 64) - ((vg b ((s0.2.1).toNat)).setWidth 64)) - s0.1)) [8, 9]] [] 1 (by kernel_rfl) (QP.then (QP.block (QP.then (QP.then (QP.block (QP.then QP.body)))))) (by kernel_rfl) rfl (.v rfl (V_move rfl) (.v rfl (V_idxArr (i := s0.2.1) rfl rfl Try.underlying31 TryI.inf29 rfl h1.1 h1.2 (k := (s0.2.1).toNat) (k01 _)) (.v rfl (V_load rfl (.o 0) (get_vec (f := v32) (V := s0.2.2) (toNat_lt h1.1 h1.2)) Try.isAgg29) (.v rfl (V_conv rfl (fun w => cv32to64 w _ _ Try.underlying55 (TryI.und29) (vg s0.2.2 ((s0.2.1).toNat)))) (.v rfl (V_move rfl) (.v rfl (V_idxArr (i := s0.2.1) rfl rfl Try.underlying31 TryI.inf29 rfl h2.1 h2.2 (k := (s0.2.1).toNat) (k01 _)) (.v rfl (V_load rfl (.o 1) (get_vec (f := v32) (V := b) (toNat_lt h2.1 h2.2)) Try.isAgg29) (.v rfl (V_conv rfl (fun w => cv32to64 w _ _ Try.underlying55 (TryI.und29) (vg b ((s0.2.1).toNat)))) (.v rfl (V_bin rfl rfl (fun w => sub64 w ((vg s0.2.2 ((s0.2.1).toNat)).setWidth 64) ((vg b ((s0.2.1).toNat)).setWidth 64))) (.v rfl (V_move rfl) (.v rfl (V_bin rfl rfl (fun w => sub64 w (((vg s0.2.2 ((s0.2.1).toNat)).setWidth 64) - ((vg b ((s0.2.1).toNat)).setWidth 64)) s0.1)) .nil))))))))))) .nil (by kernel_rfl) rfl (fun γ => ?_)
   refine TA_cut [(22, v64 ((((vg s0.2.2 ((s0.2.1).toNat)).setWidth 64) - ((vg b ((s0.2.1).toNat)).setWidth 64)) - s0.1)), (2, ptr (some (b1, 0)) 0), (3, ptr (some (b2, 0)) 0), (4, ptr (some (b3, 0)) 0), (6, vi s0.2.1)] [⟨some (b1, 0), e32 s0.2.2.toList⟩, ⟨some (b2, 0), e32 b.toList⟩, ⟨some (b3, 0), e32 ((replicate 8 0#32).toList)⟩] ⟨rfl, rfl, rfl, rfl, rfl, trivial⟩ rfl ?_
   refine TA_all (rs := [11]) (by kernel_rfl) rfl ?_
   refine ⟨?_, trivial⟩
   refine TO_v (is := []) (done' := dn 12 4095) rfl rfl rfl rfl (by kernel_rfl) (V_assign rfl) (fun _ => rfl) ?_
   refine TA_re (d := 7) (v := v64 ((((vg s0.2.2 ((s0.2.1).toNat)).setWidth 64) - ((vg b ((s0.2.1).toNat)).setWidth 64)) - s0.1)) (v' := v64 d1) rfl (congrArg v64 hd1) ?_
   refine TA_done (by kernel_rfl) ?_ 0
   refine TX_next ?_
   refine TC_seq ?_
   refine TC_region ?_
   refine TLv (V_move rfl) ?_
   refine TLv (V_move rfl) ?_
   refine TLv (V_bin rfl rfl (fun w => and64 w d1 4294967295#64)) ?_
   refine TLv (V_conv rfl (fun w => cv64to32 w _ _ Try.underlying29 (TryI.und55) (d1 &&& 4294967295#64))) ?_
   obtain ⟨h3, H⟩ := if_elim H
   refine TLv (V_idxArr (i := s0.2.1) rfl rfl Try.underlying31 TryI.inf29 rfl h3.1 h3.2 (k := (s0.2.1).toNat) (k01 _)) ?_
   refine TLn (E_store (j := 0) rfl rfl TryI.inf29 rfl rfl rfl (by simpa using (toNat_lt h3.1 h3.2)) (cs' := e32 ((vp s0.2.2 ((s0.2.1).toNat) ((d1 &&& 4294967295#64).setWidth 32)).toList)) set_vec) (fun _ => ?_)
   obtain ⟨m_1, hm_1, H⟩ := ltt_elim H
   refine TL_reE (j := 0) (A := some (b1, 0)) (cs := e32 ((vp s0.2.2 ((s0.2.1).toNat) ((d1 &&& 4294967295#64).setWidth 32)).toList)) (cs' := e32 m_1.toList) rfl (congrArg (fun z : Vx 32 8 => e32 (Vector.toList z)) hm_1) ?_
   refine TL_nil ?_
   refine TX_next ?_
   refine TC_region ?_
   refine TLv (V_move rfl) ?_
   refine TLv (V_bin rfl rfl (fun w => shr64 w d1 .u64 63 (by decide))) ?_
   refine TLv (V_assign rfl) ?_
   refine TL_nil ?_
   refine TX_block_normal ?_
   refine TX_next ?_
   refine TC_region ?_
   refine TLv (V_move rfl) ?_
   refine TLv (V_bin rfl rfl (fun w => addI w s0.2.1 1)) ?_
   refine TLv (V_assign rfl) ?_
   obtain ⟨i1, hi1, H⟩ := ltt_elim H
   refine TL_re (d := 6) (v := vi (w64 (s0.2.1 + 1))) (v' := vi i1) rfl (congrArg vi hi1) ?_
   refine TL_nil ?_
   refine TX.sub (m' := [(2, ptr (some (b1, 0)) 0), (3, ptr (some (b2, 0)) 0), (4, ptr (some (b3, 0)) 0), (5, v64 (d1 >>> 63)), (6, vi i1)]) ⟨rfl, rfl, rfl, rfl, rfl, trivial⟩ ?_
   refine TX.pull (is := [0, 0, 0]) (L' := [⟨some (b1, 0), e32 m_1.toList⟩, ⟨some (b2, 0), e32 b.toList⟩, ⟨some (b3, 0), e32 ((replicate 8 0#32).toList)⟩]) rfl ?_
   obtain rfl := Option.some.inj H
   exact fun a w hs => hK (d1 >>> 63, i1, m_1) rfl () a w hs
  ·replace H := ite_f (of_decide_eq_false hc) H
   refine TC_exit ?_
   refine TX_then_exit ?_
   refine TX_then_exit ?_
   refine TX.sub (m' := [(2, ptr (some (b1, 0)) 0), (4, ptr (some (b3, 0)) 0)]) ⟨rfl, rfl, trivial⟩ ?_
   refine TX.pull (is := [0, 1]) (L' := [⟨some (b1, 0), e32 s0.2.2.toList⟩, ⟨some (b3, 0), e32 ((replicate 8 0#32).toList)⟩]) rfl ?_
   obtain rfl := Option.some.inj H
   exact hE s0.2.2 rfl ()
 ·intro g
  refine TX_block_exit ?_
  refine TX_next ?_
  refine TC_seq ?_
  refine TC_region ?_
  refine TLv (V_lag (.o 0) Try.isAgg31 TryI.inf31) ?_
  refine TLn (E_sv (vs := e32 t_1.toList) 1 TryI.inf31) (fun _ => ?_)
  refine TL_nil ?_
  refine TX_next ?_
  refine TC_ret ?_
  have hrv := Option.some.inj H
  subst hrv
  exact TX_ret (rs := [.cell 4 31]) (vs := [aG [(8, e32 t_1.toList)]]) rfl ⟨(Res_agg (n := 8) rfl (by simp) (.o 1) Try.isAgg31 TryI.inf31 rfl (lenV (f := v32) t_1)), trivial⟩ (fun w' hs' => ⟨(), rfl, Step.left (Step.pulled (is := []) (A := []) hs' rfl)⟩)
end Go.Proofs
end

section
namespace Go.Proofs
open Go Go.Kx
open Vector (replicate)
def halberdref9_plus.b0 (b : Vx 32 8) (s0 : BitVec 64 × Int × Vx 32 8) : Option ((BitVec 64 × Int × Vx 32 8) ⊕ (BitVec 64 × Vx 32 8)) :=
 if s0.2.1 < 8 then (if 0 ≤ s0.2.1 ∧ s0.2.1 < (8 : Int) then (if 0 ≤ s0.2.1 ∧ s0.2.1 < (8 : Int) then (ltt ((((vg s0.2.2 ((s0.2.1).toNat)).setWidth 64) + ((vg b ((s0.2.1).toNat)).setWidth 64)) + s0.1) fun (s_1 : BitVec 64) => (if 0 ≤ s0.2.1 ∧ s0.2.1 < (8 : Int) then (ltt (vp s0.2.2 ((s0.2.1).toNat) ((s_1 &&& 4294967295#64).setWidth 32)) fun (m_1 : Vx 32 8) => (ltt (w64 (s0.2.1 + 1)) fun (i1 : Int) => (some (.inl (s_1 >>> 32, i1, m_1))))) else none)) else none) else none) else (some (.inr (s0.1, s0.2.2)))
def halberdref9_plus (a_ : Vx 32 8) (b : Vx 32 8) : Option (Vx 32 8 × BitVec 64) :=
 (loop (halberdref9_plus.b0 b) BIG (0#64, 0, a_)).bind fun (t_1 : BitVec 64 × Vx 32 8) => (some (t_1.2, t_1.1))
set_option maxHeartbeats 4000000 in
set_option maxRecDepth 20000 in
theorem F83_calls (a_ : Vx 32 8) (b : Vx 32 8) (r : Vx 32 8 × BitVec 64) (H : halberdref9_plus a_ b = some r) :
  Does Try.prog 83 [aG [(8, e32 a_.toList)], aG [(8, e32 b.toList)]] [] [] (Γ := Unit) (fun g => Value.tuple [aG [(8, e32 r.1.toList)], v64 r.2].toArray) (fun g => []) := by
 intro w hmem hro hd
 refine calls_of (N := 33) (m0 := [(0, aG [(8, e32 a_.toList)]), (1, aG [(8, e32 b.toList)])]) Try.func83 rfl Try.ntmps83 (argM_ok [aG [(8, e32 a_.toList)], aG [(8, e32 b.toList)]]) rfl hmem hro hd ?_
 unfold halberdref9_plus at H
 refine TC_seq ?_
 refine TC_region ?_
 refine TLe (E_boxP [(8, e32 a_.toList)] rfl rfl ⟨(lenV (f := v32) a_), trivial⟩) (fun b1 => ?_)
 refine TLe (E_boxP [(8, e32 b.toList)] rfl rfl ⟨(lenV (f := v32) b), trivial⟩) (fun b2 => ?_)
 refine TLe (E_al32 8 TryI.inf31 TryI.zer31) (fun b3 => ?_)
 refine TLv (V_assign rfl) ?_
 refine TL_nil ?_
 refine TX_next ?_
 refine TC_seq ?_
 refine TC_region ?_
 refine TLv (V_assign rfl) ?_
 refine TL_nil ?_
 refine TX_next ?_
 refine TC_seq ?_
 refine TC_seq ?_
 refine TC_region ?_
 refine TLv (V_assign rfl) ?_
 refine TL_nil ?_
 refine TX_next ?_
 refine TC_block ?_
 obtain ⟨t_1, Hl, H⟩ := bind_elim H
 refine TC.sub (m' := [(2, ptr (some (b1, 0)) 0), (3, ptr (some (b2, 0)) 0), (4, ptr (some (b3, 0)) 0), (6, v64 0#64), (7, vi 0)]) ⟨rfl, rfl, rfl, rfl, rfl, trivial⟩ ?_
 refine TC.pull (is := [2, 1, 0]) (L' := [⟨some (b1, 0), e32 a_.toList⟩, ⟨some (b2, 0), e32 b.toList⟩, ⟨some (b3, 0), e32 ((replicate 8 0#32).toList)⟩]) rfl ?_
 refine TC_loopL (id := 0) (body := (halberdref9_plus.b0 b)) (σ := BitVec 64 × Int × Vx 32 8) (Γ := Unit) (Γx := Unit) (fun s0 g0_ => [(2, ptr (some (b1, 0)) 0), (3, ptr (some (b2, 0)) 0), (4, ptr (some (b3, 0)) 0), (6, v64 s0.1), (7, vi s0.2.1)]) (fun s0 g0_ => [⟨some (b1, 0), e32 s0.2.2.toList⟩, ⟨some (b2, 0), e32 b.toList⟩, ⟨some (b3, 0), e32 ((replicate 8 0#32).toList)⟩]) (fun t g => [(2, ptr (some (b1, 0)) 0), (4, ptr (some (b3, 0)) 0), (6, v64 t.1)]) (fun t g => [⟨some (b1, 0), e32 t.2.toList⟩, ⟨some (b3, 0), e32 ((replicate 8 0#32).toList)⟩]) ?_ BIG (0#64, 0, a_) () t_1 Hl ?_
 ·intro s0 g0_ r1 H K hK hE
  unfold halberdref9_plus.b0 at H
  refine TC_seq ?_
  refine TC_seq ?_
  refine TC_region ?_
  refine TLv (V_move rfl) ?_
  refine TLv (V_bin rfl rfl (fun w => lssI w s0.2.1 8)) ?_
  refine TL_nil ?_
  refine TX_next ?_
  refine TC_cond (b := (decide (s0.2.1 < 8))) rfl (fun hc => ?_) (fun hc => ?_)
  ·replace H := ite_t (of_decide_eq_true hc) H
   refine TC_skip ?_
   refine TX_next ?_
   refine TC_seq ?_
   refine TC_block ?_
   refine TC_seq ?_
   obtain ⟨h1, H⟩ := if_elim H
   obtain ⟨h2, H⟩ := if_elim H
   obtain ⟨s_1, hs_1, H⟩ := ltt_elim H
   refine TA_begin [] 12 (by kernel_rfl) (N := 12) rfl ?_
   refine TA_mix (is := []) (done' := dn 12 2047) [itV 0 13 (vi s0.2.1) [], itV 1 14 (ptr (some (b1, 0)) ((s0.2.1).toNat)) [0], itV 2 15 (v32 (vg s0.2.2 ((s0.2.1).toNat))) [1], itV 3 16 (v64 ((vg s0.2.2 ((s0.2.1).toNat)).setWidth 64)) [2], itV 4 17 (vi s0.2.1) [], itV 5 18 (ptr (some (b2, 0)) ((s0.2.1).toNat)) [4], itV 6 19 (v32 (vg b ((s0.2.1).toNat))) [5], itV 7 20 (v64 ((vg b ((s0.2.1).toNat)).setWidth 64)) [6], itV 8 21 (v64 (((vg s0.2.2 ((s0.2.1).toNat)).setWidth 64) + ((vg b ((s0.2.1).toNat)).setWidth 64))) [3, 7], itV 9 22 (v64 s0.1) [], itV 10 23 (v64 ((((vg s0.2.2 ((s0.2.1).toNat)).setWidth 64) + ((vg b ((s0.2.1).toNat)).setWidth 64)) + s0.1)) [8, 9]] [] 1 (by kernel_rfl) (QP.then (QP.block (QP.then (QP.then (QP.block (QP.then QP.body)))))) (by kernel_rfl) rfl (.v rfl (V_move rfl) (.v rfl (V_idxArr (i := s0.2.1) rfl rfl Try.underlying31 TryI.inf29 rfl h1.1 h1.2 (k := (s0.2.1).toNat) (k01 _)) (.v rfl (V_load rfl (.o 0) (get_vec (f := v32) (V := s0.2.2) (toNat_lt h1.1 h1.2)) Try.isAgg29) (.v rfl (V_conv rfl (fun w => cv32to64 w _ _ Try.underlying55 (TryI.und29) (vg s0.2.2 ((s0.2.1).toNat)))) (.v rfl (V_move rfl) (.v rfl (V_idxArr (i := s0.2.1) rfl rfl Try.underlying31 TryI.inf29 rfl h2.1 h2.2 (k := (s0.2.1).toNat) (k01 _)) (.v rfl (V_load rfl (.o 1) (get_vec (f := v32) (V := b) (toNat_lt h2.1 h2.2)) Try.isAgg29) (.v rfl (V_conv rfl (fun w => cv32to64 w _ _ Try.underlying55 (TryI.und29) (vg b ((s0.2.1).toNat)))) (.v rfl (V_bin rfl rfl (fun w => add64 w ((vg s0.2.2 ((s0.2.1).toNat)).setWidth 64) ((vg b ((s0.2.1).toNat)).setWidth 64))) (.v rfl (V_move rfl) (.v rfl (V_bin rfl rfl (fun w => add64 w (((vg s0.2.2 ((s0.2.1).toNat)).setWidth 64) + ((vg b ((s0.2.1).toNat)).setWidth 64)) s0.1)) .nil))))))))))) .nil (by kernel_rfl) rfl (fun γ => ?_)
   refine TA_cut [(23, v64 ((((vg s0.2.2 ((s0.2.1).toNat)).setWidth 64) + ((vg b ((s0.2.1).toNat)).setWidth 64)) + s0.1)), (2, ptr (some (b1, 0)) 0), (3, ptr (some (b2, 0)) 0), (4, ptr (some (b3, 0)) 0), (7, vi s0.2.1)] [⟨some (b1, 0), e32 s0.2.2.toList⟩, ⟨some (b2, 0), e32 b.toList⟩, ⟨some (b3, 0), e32 ((replicate 8 0#32).toList)⟩] ⟨rfl, rfl, rfl, rfl, rfl, trivial⟩ rfl ?_
   refine TA_all (rs := [11]) (by kernel_rfl) rfl ?_
   refine ⟨?_, trivial⟩
   refine TO_v (is := []) (done' := dn 12 4095) rfl rfl rfl rfl (by kernel_rfl) (V_assign rfl) (fun _ => rfl) ?_
   refine TA_re (d := 8) (v := v64 ((((vg s0.2.2 ((s0.2.1).toNat)).setWidth 64) + ((vg b ((s0.2.1).toNat)).setWidth 64)) + s0.1)) (v' := v64 s_1) rfl (congrArg v64 hs_1) ?_
   refine TA_done (by kernel_rfl) ?_ 0
   refine TX_next ?_
   refine TC_seq ?_
   refine TC_region ?_
   refine TLv (V_move rfl) ?_
   refine TLv (V_move rfl) ?_
   refine TLv (V_bin rfl rfl (fun w => and64 w s_1 4294967295#64)) ?_
   refine TLv (V_conv rfl (fun w => cv64to32 w _ _ Try.underlying29 (TryI.und55) (s_1 &&& 4294967295#64))) ?_
   obtain ⟨h3, H⟩ := if_elim H
   refine TLv (V_idxArr (i := s0.2.1) rfl rfl Try.underlying31 TryI.inf29 rfl h3.1 h3.2 (k := (s0.2.1).toNat) (k01 _)) ?_
   refine TLn (E_store (j := 0) rfl rfl TryI.inf29 rfl rfl rfl (by simpa using (toNat_lt h3.1 h3.2)) (cs' := e32 ((vp s0.2.2 ((s0.2.1).toNat) ((s_1 &&& 4294967295#64).setWidth 32)).toList)) set_vec) (fun _ => ?_)
   obtain ⟨m_1, hm_1, H⟩ := ltt_elim H
   refine TL_reE (j := 0) (A := some (b1, 0)) (cs := e32 ((vp s0.2.2 ((s0.2.1).toNat) ((s_1 &&& 4294967295#64).setWidth 32)).toList)) (cs' := e32 m_1.toList) rfl (congrArg (fun z : Vx 32 8 => e32 (Vector.toList z)) hm_1) ?_
   refine TL_nil ?_
   refine TX_next ?_
   refine TC_region ?_
   refine TLv (V_move rfl) ?_
   refine TLv (V_bin rfl rfl (fun w => shr64 w s_1 .u64 32 (by decide))) ?_
   refine TLv (V_assign rfl) ?_
   refine TL_nil ?_
   refine TX_block_normal ?_
   refine TX_next ?_
   refine TC_region ?_
   refine TLv (V_move rfl) ?_
   refine TLv (V_bin rfl rfl (fun w => addI w s0.2.1 1)) ?_
   refine TLv (V_assign rfl) ?_
   obtain ⟨i1, hi1, H⟩ := ltt_elim H
   refine TL_re (d := 7) (v := vi (w64 (s0.2.1 + 1))) (v' := vi i1) rfl (congrArg vi hi1) ?_
   refine TL_nil ?_
   refine TX.sub (m' := [(2, ptr (some (b1, 0)) 0), (3, ptr (some (b2, 0)) 0), (4, ptr (some (b3, 0)) 0), (6, v64 (s_1 >>> 32)), (7, vi i1)]) ⟨rfl, rfl, rfl, rfl, rfl, trivial⟩ ?_
   refine TX.pull (is := [0, 0, 0]) (L' := [⟨some (b1, 0), e32 m_1.toList⟩, ⟨some (b2, 0), e32 b.toList⟩, ⟨some (b3, 0), e32 ((replicate 8 0#32).toList)⟩]) rfl ?_
   obtain rfl := Option.some.inj H
   exact fun a w hs => hK (s_1 >>> 32, i1, m_1) rfl () a w hs
  ·replace H := ite_f (of_decide_eq_false hc) H
   refine TC_exit ?_
   refine TX_then_exit ?_
   refine TX_then_exit ?_
   refine TX.sub (m' := [(2, ptr (some (b1, 0)) 0), (4, ptr (some (b3, 0)) 0), (6, v64 s0.1)]) ⟨rfl, rfl, rfl, trivial⟩ ?_
   refine TX.pull (is := [0, 1]) (L' := [⟨some (b1, 0), e32 s0.2.2.toList⟩, ⟨some (b3, 0), e32 ((replicate 8 0#32).toList)⟩]) rfl ?_
   obtain rfl := Option.some.inj H
   exact hE (s0.1, s0.2.2) rfl ()
 ·intro g
  refine TX_block_exit ?_
  refine TX_next ?_
  refine TC_seq ?_
  refine TC_region ?_
  refine TLv (V_lag (.o 0) Try.isAgg31 TryI.inf31) ?_
  refine TLv (V_move rfl) ?_
  refine TLn (E_sv (vs := e32 t_1.2.toList) 1 TryI.inf31) (fun _ => ?_)
  refine TLv (V_assign rfl) ?_
  refine TL_nil ?_
  refine TX_next ?_
  refine TC_ret ?_
  have hrv := Option.some.inj H
  subst hrv
  exact TX_ret (rs := [.cell 4 31, .tmp 5]) (vs := [aG [(8, e32 t_1.2.toList)], v64 t_1.1]) rfl ⟨(Res_agg (n := 8) rfl (by simp) (.o 1) Try.isAgg31 TryI.inf31 rfl (lenV (f := v32) t_1.2)), rfl, trivial⟩ (fun w' hs' => ⟨(), rfl, Step.left (Step.pulled (is := []) (A := []) hs' rfl)⟩)
end Go.Proofs
end

section
namespace Go.Proofs
open Go Go.Kx
open Vector (replicate)
def halberdref9_add (which : Int) (a_ : Vx 32 8) (b : Vx 32 8) : Option (Vx 32 8) :=
 (halberdref9_modulus which).bind fun (r_1 : Vx 32 8) => ((halberdref9_plus a_ b).bind fun (r_2 : Vx 32 8 × BitVec 64) => ((if r_2.2 = 1#64 then (some true) else ((halberdref9_less r_2.1 r_1).bind fun (r_4 : Bool) => (some (!r_4)))).bind fun (j1 : Bool) => (if j1 = true then ((halberdref9_minus r_2.1 r_1).bind fun (r_3 : Vx 32 8) => (some r_3)) else (some r_2.1))))
set_option maxHeartbeats 4000000 in
set_option maxRecDepth 20000 in
theorem F48_calls (which : Int) (a_ : Vx 32 8) (b : Vx 32 8) (r : Vx 32 8) (H : halberdref9_add which a_ b = some r) :
  Does Try.prog 48 [vi which, aG [(8, e32 a_.toList)], aG [(8, e32 b.toList)]] [] [] (Γ := Unit) (fun g => aG [(8, e32 r.toList)]) (fun g => []) := by
 intro w hmem hro hd
 refine calls_of (N := 30) (m0 := [(0, vi which), (1, aG [(8, e32 a_.toList)]), (2, aG [(8, e32 b.toList)])]) Try.func48 rfl Try.ntmps48 (argM_ok [vi which, aG [(8, e32 a_.toList)], aG [(8, e32 b.toList)]]) rfl hmem hro hd ?_
 unfold halberdref9_add at H
 refine TC_seq ?_
 refine TC_region ?_
 refine TLe (E_boxP [(8, e32 a_.toList)] rfl rfl ⟨(lenV (f := v32) a_), trivial⟩) (fun b1 => ?_)
 refine TLe (E_boxP [(8, e32 b.toList)] rfl rfl ⟨(lenV (f := v32) b), trivial⟩) (fun b2 => ?_)
 refine TLe (E_al32 8 TryI.inf31 TryI.zer31) (fun b3 => ?_)
 refine TL_nil ?_
 refine TX_next ?_
 refine TC_seq ?_
 refine TC_region ?_
 refine TLv (V_move rfl) ?_
 obtain ⟨r_1, hr_1, H⟩ := bind_elim H
 refine TLe (E_c0 (F79_calls which r_1 hr_1) Try.call79 .z) (fun g_1 => ?_)
 refine TLe (E_al32 8 TryI.inf31 TryI.zer31) (fun b4 => ?_)
 refine TLn (E_sv (vs := e32 r_1.toList) 0 TryI.inf31) (fun _ => ?_)
 refine TL_nil ?_
 refine TX_next ?_
 refine TC_seq ?_
 refine TC_region ?_
 refine TLv (V_lag (.o 3) Try.isAgg31 TryI.inf31) ?_
 refine TLv (V_lag (.o 2) Try.isAgg31 TryI.inf31) ?_
 obtain ⟨r_2, hr_2, H⟩ := bind_elim H
 refine TLe (E_c0 (F83_calls a_ b r_2 hr_2) Try.call83 .z) (fun g_2 => ?_)
 refine TLv (V_move rfl) ?_
 refine TLv V_ex ?_
 refine TLv V_ex ?_
 refine TLe (E_al32 8 TryI.inf31 TryI.zer31) (fun b5 => ?_)
 refine TLn (E_sv (vs := e32 r_2.1.toList) 0 TryI.inf31) (fun _ => ?_)
 refine TLv (V_assign rfl) ?_
 refine TL_nil ?_
 refine TX_next ?_
 refine TC_seq ?_
 refine TC_seq ?_
 refine TC_region ?_
 refine TLv (V_move rfl) ?_
 refine TLv (V_bin rfl rfl (fun w => eql64 w r_2.2 1#64)) ?_
 refine TLv (V_move rfl) ?_
 obtain ⟨j1, Hj, H⟩ := bind_elim H
 refine TL_join (Γ := Unit) (fun gj1 => [(6, ptr (some (b3, 0)) 0), (7, ptr (some (b4, 0)) 0), (8, ptr (some (b5, 0)) 0), (25, vb j1)]) (fun gj1 => [⟨some (b3, 0), e32 ((replicate 8 0#32).toList)⟩, ⟨some (b4, 0), e32 r_1.toList⟩, ⟨some (b5, 0), e32 r_2.1.toList⟩]) ?_ ?_
 ·intro gj1
  refine TX_next ?_
  refine TC_cond (b := j1) rfl (fun hc => ?_) (fun hc => ?_)
  ·replace H := ite_t hc H
   refine TC_region ?_
   refine TLv (V_lag (.o 2) Try.isAgg31 TryI.inf31) ?_
   refine TLv (V_lag (.o 1) Try.isAgg31 TryI.inf31) ?_
   obtain ⟨r_3, hr_3, H⟩ := bind_elim H
   refine TLe (E_c0 (F82_calls r_2.1 r_1 r_3 hr_3) Try.call82 .z) (fun g_3 => ?_)
   refine TLn (E_sv (vs := e32 r_3.toList) 2 TryI.inf31) (fun _ => ?_)
   refine TL_nil ?_
   refine TX_next ?_
   refine TC_seq ?_
   refine TC_region ?_
   refine TLv (V_lag (.o 2) Try.isAgg31 TryI.inf31) ?_
   refine TLn (E_sv (vs := e32 r_3.toList) 0 TryI.inf31) (fun _ => ?_)
   refine TL_nil ?_
   refine TX_next ?_
   refine TC_ret ?_
   have hrv := Option.some.inj H
   subst hrv
   exact TX_ret (rs := [.cell 6 31]) (vs := [aG [(8, e32 r_3.toList)]]) rfl ⟨(Res_agg (n := 8) rfl (by simp) (.o 0) Try.isAgg31 TryI.inf31 rfl (lenV (f := v32) r_3)), trivial⟩ (fun w' hs' => ⟨(), rfl, Step.left (Step.pulled (is := []) (A := []) hs' rfl)⟩)
  ·replace H := ite_f (Bool.eq_false_iff.1 hc) H
   refine TC_skip ?_
   refine TX_next ?_
   refine TC_seq ?_
   refine TC_region ?_
   refine TLv (V_lag (.o 2) Try.isAgg31 TryI.inf31) ?_
   refine TLn (E_sv (vs := e32 r_2.1.toList) 0 TryI.inf31) (fun _ => ?_)
   refine TL_nil ?_
   refine TX_next ?_
   refine TC_ret ?_
   have hrv := Option.some.inj H
   subst hrv
   exact TX_ret (rs := [.cell 6 31]) (vs := [aG [(8, e32 r_2.1.toList)]]) rfl ⟨(Res_agg (n := 8) rfl (by simp) (.o 0) Try.isAgg31 TryI.inf31 rfl (lenV (f := v32) r_2.1)), trivial⟩ (fun w' hs' => ⟨(), rfl, Step.left (Step.pulled (is := []) (A := []) hs' rfl)⟩)
 ·intro hJ
  replace H := Hj
  refine TL_fork (d := 20) (b := (decide (r_2.2 = 1#64))) rfl (fun hc => ?_) (fun hc => ?_)
  ·replace H := ite_t (of_decide_eq_true hc) H
   refine TL_skip rfl rfl rfl rfl rfl rfl rfl ?_
   refine TL_skip rfl rfl rfl rfl rfl rfl rfl ?_
   refine TL_skip rfl rfl rfl rfl rfl rfl rfl ?_
   refine TL_skip rfl rfl rfl rfl rfl rfl rfl ?_
   refine TLv (V_pick (b := true) rfl rfl) ?_
   refine TL_nil ?_
   refine TX.sub (m' := [(6, ptr (some (b3, 0)) 0), (7, ptr (some (b4, 0)) 0), (8, ptr (some (b5, 0)) 0), (25, vb true)]) ⟨rfl, rfl, rfl, rfl, trivial⟩ ?_
   refine TX.pull (is := [2, 1, 0]) (L' := [⟨some (b3, 0), e32 ((replicate 8 0#32).toList)⟩, ⟨some (b4, 0), e32 r_1.toList⟩, ⟨some (b5, 0), e32 r_2.1.toList⟩]) rfl ?_
   obtain rfl := Option.some.inj H
   exact hJ ()
  ·replace H := ite_f (of_decide_eq_false hc) H
   refine TL_want rfl rfl rfl rfl rfl rfl (V_lag (.o 0) Try.isAgg31 TryI.inf31) ?_
   refine TL_want rfl rfl rfl rfl rfl rfl (V_lag (.o 1) Try.isAgg31 TryI.inf31) ?_
   obtain ⟨r_4, hr_4, H⟩ := bind_elim H
   refine TL_wantE rfl rfl rfl rfl rfl rfl (E_c0 (F78_calls r_2.1 r_1 r_4 hr_4) Try.call78 .z) (fun g_4 => ?_)
   refine TL_want rfl rfl rfl rfl rfl rfl (V_un rfl (fun w => notB w r_4)) ?_
   refine TLv (V_pick (b := false) rfl rfl) ?_
   refine TL_nil ?_
   refine TX.sub (m' := [(6, ptr (some (b3, 0)) 0), (7, ptr (some (b4, 0)) 0), (8, ptr (some (b5, 0)) 0), (25, vb (!r_4))]) ⟨rfl, rfl, rfl, rfl, trivial⟩ ?_
   refine TX.pull (is := [2, 1, 0]) (L' := [⟨some (b3, 0), e32 ((replicate 8 0#32).toList)⟩, ⟨some (b4, 0), e32 r_1.toList⟩, ⟨some (b5, 0), e32 r_2.1.toList⟩]) rfl ?_
   obtain rfl := Option.some.inj H
   exact hJ ()
end Go.Proofs
end

section
namespace Go.Proofs
open Go Go.Kx
open Vector (replicate)
def halberdref9_sub (which : Int) (a_ : Vx 32 8) (b : Vx 32 8) : Option (Vx 32 8) :=
 (halberdref9_less a_ b).bind fun (r_1 : Bool) => (if r_1 = true then ((halberdref9_modulus which).bind fun (r_2 : Vx 32 8) => ((halberdref9_plus a_ r_2).bind fun (r_3 : Vx 32 8 × BitVec 64) => ((halberdref9_minus r_3.1 b).bind fun (r_4 : Vx 32 8) => (some r_4)))) else ((halberdref9_minus a_ b).bind fun (r_5 : Vx 32 8) => (some r_5)))
set_option maxHeartbeats 4000000 in
set_option maxRecDepth 20000 in
theorem F49_calls (which : Int) (a_ : Vx 32 8) (b : Vx 32 8) (r : Vx 32 8) (H : halberdref9_sub which a_ b = some r) :
  Does Try.prog 49 [vi which, aG [(8, e32 a_.toList)], aG [(8, e32 b.toList)]] [] [] (Γ := Unit) (fun g => aG [(8, e32 r.toList)]) (fun g => []) := by
 intro w hmem hro hd
 refine calls_of (N := 23) (m0 := [(0, vi which), (1, aG [(8, e32 a_.toList)]), (2, aG [(8, e32 b.toList)])]) Try.func49 rfl Try.ntmps49 (argM_ok [vi which, aG [(8, e32 a_.toList)], aG [(8, e32 b.toList)]]) rfl hmem hro hd ?_
 unfold halberdref9_sub at H
 refine TC_seq ?_
 refine TC_region ?_
 refine TLe (E_boxP [(8, e32 a_.toList)] rfl rfl ⟨(lenV (f := v32) a_), trivial⟩) (fun b1 => ?_)
 refine TLe (E_boxP [(8, e32 b.toList)] rfl rfl ⟨(lenV (f := v32) b), trivial⟩) (fun b2 => ?_)
 refine TLe (E_al32 8 TryI.inf31 TryI.zer31) (fun b3 => ?_)
 refine TL_nil ?_
 refine TX_next ?_
 refine TC_seq ?_
 refine TC_seq ?_
 refine TC_region ?_
 refine TLv (V_lag (.o 2) Try.isAgg31 TryI.inf31) ?_
 refine TLv (V_lag (.o 1) Try.isAgg31 TryI.inf31) ?_
 obtain ⟨r_1, hr_1, H⟩ := bind_elim H
 refine TLe (E_c0 (F78_calls a_ b r_1 hr_1) Try.call78 .z) (fun g_1 => ?_)
 refine TL_nil ?_
 refine TX_next ?_
 refine TC_cond (b := r_1) rfl (fun hc => ?_) (fun hc => ?_)
 ·replace H := ite_t hc H
  refine TC_seq ?_
  obtain ⟨r_2, hr_2, H⟩ := bind_elim H
  obtain ⟨r_3, hr_3, H⟩ := bind_elim H
  refine TA_begin [⟨some (b3, 0), e32 ((replicate 8 0#32).toList)⟩, ⟨some (b2, 0), e32 b.toList⟩, ⟨some (b1, 0), e32 a_.toList⟩] 9 (by kernel_rfl) (N := 10) rfl ?_
  refine TA_tk 0 [0, 0, 0] (dn 10 1) rfl rfl (V_lag (.o 2) Try.isAgg31 TryI.inf31) ?_
  refine TA_tk 1 [0, 0, 0] (dn 10 3) rfl rfl (V_move rfl) ?_
  refine TA_mix (is := [0, 0, 0]) (done' := dn 10 255) [itV 2 15 (aG [(8, e32 r_2.toList)]) [], itV 3 16 (Value.tuple [aG [(8, e32 r_3.1.toList)], v64 r_3.2].toArray) [2], itV 4 12 (Value.tuple [aG [(8, e32 r_3.1.toList)], v64 r_3.2].toArray) [3], itV 5 17 (aG [(8, e32 r_3.1.toList)]) [4], itA32 7 7 8] [itV 6 18 (v64 r_3.2) [4]] 2 (by kernel_rfl) (QP.then (QP.then QP.body)) (by kernel_rfl) rfl (.e rfl (E_cu (F79_calls which r_2 hr_2) Try.call79 .z) (.e rfl (E_cu (F83_calls a_ r_2 r_3 hr_3) Try.call83 .z) (.v rfl (V_move rfl) (.v rfl V_ex (.c rfl (fun _ _ => (E_al32 8 TryI.inf31 TryI.zer31)) .nil))))) (.c rfl (fun _ => V_ex) .nil) (by kernel_rfl) rfl (fun γ => ?_)
  refine TA_cut [(18, v64 r_3.2), (7, ptr (some ((γ 7), 0)) 0), (17, aG [(8, e32 r_3.1.toList)]), (6, ptr (some (b3, 0)) 0), (5, ptr (some (b2, 0)) 0), (4, ptr (some (b1, 0)) 0)] [⟨some ((γ 7), 0), e32 ((replicate 8 0#32).toList)⟩, ⟨some (b3, 0), e32 ((replicate 8 0#32).toList)⟩, ⟨some (b2, 0), e32 b.toList⟩, ⟨some (b1, 0), e32 a_.toList⟩] ⟨rfl, rfl, rfl, rfl, rfl, rfl, trivial⟩ rfl ?_
  generalize γ 7 = b4
  refine TA_all (rs := [8]) (by kernel_rfl) rfl ?_
  refine ⟨?_, trivial⟩
  refine TO_n (is := [1, 1, 1]) (done' := dn 10 511) rfl rfl rfl (by kernel_rfl) (E_sv (vs := e32 r_3.1.toList) 0 TryI.inf31) (fun _ _ => rfl) (fun _ => ?_)
  refine TA_all (rs := [9]) (by kernel_rfl) rfl ?_
  refine ⟨?_, trivial⟩
  refine TO_v (is := []) (R := []) (done' := dn 10 1023) rfl rfl rfl rfl (by kernel_rfl) (V_assign rfl) (fun h => by cases h) ?_
  refine TA_done (by kernel_rfl) ?_ 0
  refine TX_next ?_
  refine TC_region ?_
  refine TLv (V_lag (.o 0) Try.isAgg31 TryI.inf31) ?_
  refine TLn (E_sv (vs := e32 r_3.1.toList) 3 TryI.inf31) (fun _ => ?_)
  refine TL_nil ?_
  refine TX_next ?_
  refine TC_seq ?_
  refine TC_region ?_
  refine TLv (V_lag (.o 3) Try.isAgg31 TryI.inf31) ?_
  refine TLv (V_lag (.o 2) Try.isAgg31 TryI.inf31) ?_
  obtain ⟨r_4, hr_4, H⟩ := bind_elim H
  refine TLe (E_c0 (F82_calls r_3.1 b r_4 hr_4) Try.call82 .z) (fun g_4 => ?_)
  refine TLn (E_sv (vs := e32 r_4.toList) 1 TryI.inf31) (fun _ => ?_)
  refine TL_nil ?_
  refine TX_next ?_
  refine TC_ret ?_
  have hrv := Option.some.inj H
  subst hrv
  exact TX_ret (rs := [.cell 6 31]) (vs := [aG [(8, e32 r_4.toList)]]) rfl ⟨(Res_agg (n := 8) rfl (by simp) (.o 1) Try.isAgg31 TryI.inf31 rfl (lenV (f := v32) r_4)), trivial⟩ (fun w' hs' => ⟨(), rfl, Step.left (Step.pulled (is := []) (A := []) hs' rfl)⟩)
 ·replace H := ite_f (Bool.eq_false_iff.1 hc) H
  refine TC_skip ?_
  refine TX_next ?_
  refine TC_seq ?_
  refine TC_region ?_
  refine TLv (V_lag (.o 2) Try.isAgg31 TryI.inf31) ?_
  refine TLv (V_lag (.o 1) Try.isAgg31 TryI.inf31) ?_
  obtain ⟨r_5, hr_5, H⟩ := bind_elim H
  refine TLe (E_c0 (F82_calls a_ b r_5 hr_5) Try.call82 .z) (fun g_5 => ?_)
  refine TLn (E_sv (vs := e32 r_5.toList) 0 TryI.inf31) (fun _ => ?_)
  refine TL_nil ?_
  refine TX_next ?_
  refine TC_ret ?_
  have hrv := Option.some.inj H
  subst hrv
  exact TX_ret (rs := [.cell 6 31]) (vs := [aG [(8, e32 r_5.toList)]]) rfl ⟨(Res_agg (n := 8) rfl (by simp) (.o 0) Try.isAgg31 TryI.inf31 rfl (lenV (f := v32) r_5)), trivial⟩ (fun w' hs' => ⟨(), rfl, Step.left (Step.pulled (is := []) (A := []) hs' rfl)⟩)
end Go.Proofs
end

section
namespace Go.Proofs
open Go Go.Kx
open Vector (replicate)
def halberdref9_mont.b1 (a_ : Vx 32 8) (b : Vx 32 8) (s0 : Int × Vx 64 10) (s1 : BitVec 64 × Int × Vx 64 10) : Option ((BitVec 64 × Int × Vx 64 10) ⊕ (BitVec 64 × Vx 64 10)) :=
 if s1.2.1 < 8 then (if 0 ≤ s1.2.1 ∧ s1.2.1 < (10 : Int) then (if 0 ≤ s1.2.1 ∧ s1.2.1 < (8 : Int) then (if 0 ≤ s0.1 ∧ s0.1 < (8 : Int) then (ltt (((vg s1.2.2 ((s1.2.1).toNat)) + (((vg a_ ((s1.2.1).toNat)).setWidth 64) * ((vg b ((s0.1).toNat)).setWidth 64))) + s1.1) fun (s_1 : BitVec 64) => (if 0 ≤ s1.2.1 ∧ s1.2.1 < (10 : Int) then (ltt (vp s1.2.2 ((s1.2.1).toNat) (s_1 &&& 4294967295#64)) fun (m_1 : Vx 64 10) => (ltt (w64 (s1.2.1 + 1)) fun (j1 : Int) => (some (.inl (s_1 >>> 32, j1, m_1))))) else none)) else none) else none) else none) else (some (.inr (s1.1, s1.2.2)))
def halberdref9_mont.b2 (r_1 : Vx 32 8) (q1 : BitVec 64) (s2 : BitVec 64 × Int × Vx 64 10) : Option ((BitVec 64 × Int × Vx 64 10) ⊕ (BitVec 64 × Vx 64 10)) :=
 if s2.2.1 < 8 then (if 0 ≤ s2.2.1 ∧ s2.2.1 < (10 : Int) then (if 0 ≤ s2.2.1 ∧ s2.2.1 < (8 : Int) then (ltt (((vg s2.2.2 ((s2.2.1).toNat)) + (q1 * ((vg r_1 ((s2.2.1).toNat)).setWidth 64))) + s2.1) fun (s_3 : BitVec 64) => (if 0 ≤ w64 (s2.2.1 - 1) ∧ w64 (s2.2.1 - 1) < (10 : Int) then (ltt (vp s2.2.2 ((w64 (s2.2.1 - 1)).toNat) (s_3 &&& 4294967295#64)) fun (m_3 : Vx 64 10) => (ltt (w64 (s2.2.1 + 1)) fun (j2 : Int) => (some (.inl (s_3 >>> 32, j2, m_3))))) else none)) else none) else none) else (some (.inr (s2.1, s2.2.2)))
def halberdref9_mont.b0 (a_ : Vx 32 8) (b : Vx 32 8) (r_1 : Vx 32 8) (r_2 : BitVec 64) (s0 : Int × Vx 64 10) : Option ((Int × Vx 64 10) ⊕ (Vx 64 10)) :=
 if s0.1 < 8 then ((loop (halberdref9_mont.b1 a_ b s0) BIG (0#64, 0, s0.2)).bind fun (t_2 : BitVec 64 × Vx 64 10) => (ltt ((vg t_2.2 8) + t_2.1) fun (s_2 : BitVec 64) => (ltt (vp t_2.2 8 (s_2 &&& 4294967295#64)) fun (m_2 : Vx 64 10) => (ltt (((vg (vp m_2 9 (s_2 >>> 32)) 0) * r_2) &&& 4294967295#64) fun (q1 : BitVec 64) => (ltt (((vg (vp m_2 9 (s_2 >>> 32)) 0) + (q1 * ((vg r_1 0).setWidth 64))) >>> 32) fun (c1 : BitVec 64) => ((loop (halberdref9_mont.b2 r_1 q1) BIG (c1, 1, vp m_2 9 (s_2 >>> 32))).bind fun (t_3 : BitVec 64 × Vx 64 10) => (ltt ((vg t_3.2 8) + t_3.1) fun (s_4 : BitVec 64) => (ltt (vp t_3.2 7 (s_4 &&& 4294967295#64)) fun (m_4 : Vx 64 10) => (ltt (vp m_4 8 ((vg m_4 9) + (s_4 >>> 32))) fun (m_5 : Vx 64 10) => (ltt (w64 (s0.1 + 1)) fun (i1 : Int) => (some (.inl (i1, vp m_5 9 0#64))))))))))))) else (some (.inr s0.2))
def halberdref9_mont.b3 (t_1 : Vx 64 10) (s3 : Int × Vx 32 8) : Option ((Int × Vx 32 8) ⊕ (Vx 32 8)) :=
 if s3.1 < 8 then (if 0 ≤ s3.1 ∧ s3.1 < (10 : Int) then (if 0 ≤ s3.1 ∧ s3.1 < (8 : Int) then (ltt (vp s3.2 ((s3.1).toNat) ((vg t_1 ((s3.1).toNat)).setWidth 32)) fun (m_6 : Vx 32 8) => (ltt (w64 (s3.1 + 1)) fun (i2 : Int) => (some (.inl (i2, m_6))))) else none) else none) else (some (.inr s3.2))
def halberdref9_mont (which : Int) (a_ : Vx 32 8) (b : Vx 32 8) : Option (Vx 32 8) :=
 (halberdref9_modulus which).bind fun (r_1 : Vx 32 8) => ((halberdref9_inverse which).bind fun (r_2 : BitVec 64) => ((loop (halberdref9_mont.b0 a_ b r_1 r_2) BIG (0, replicate 10 0#64)).bind fun (t_1 : Vx 64 10) => ((loop (halberdref9_mont.b3 t_1) BIG (0, replicate 8 0#32)).bind fun (t_4 : Vx 32 8) => ((if (0#64).toNat < ((vg t_1 8)).toNat then (some true) else ((halberdref9_less t_4 r_1).bind fun (r_4 : Bool) => (some (!r_4)))).bind fun (j3 : Bool) => (if j3 = true then ((halberdref9_minus t_4 r_1).bind fun (r_3 : Vx 32 8) => (some r_3)) else (some t_4))))))
set_option maxHeartbeats 4000000 in
set_option maxRecDepth 20000 in
theorem F47_calls (which : Int) (a_ : Vx 32 8) (b : Vx 32 8) (r : Vx 32 8) (H : halberdref9_mont which a_ b = some r) :
  Does Try.prog 47 [vi which, aG [(8, e32 a_.toList)], aG [(8, e32 b.toList)]] [] [] (Γ := Unit) (fun g => aG [(8, e32 r.toList)]) (fun g => []) := by
 intro w hmem hro hd
 refine calls_of (N := 137) (m0 := [(0, vi which), (1, aG [(8, e32 a_.toList)]), (2, aG [(8, e32 b.toList)])]) Try.func47 rfl Try.ntmps47 (argM_ok [vi which, aG [(8, e32 a_.toList)], aG [(8, e32 b.toList)]]) rfl hmem hro hd ?_
 unfold halberdref9_mont at H
 refine TC_seq ?_
 refine TC_region ?_
 refine TLe (E_boxP [(8, e32 a_.toList)] rfl rfl ⟨(lenV (f := v32) a_), trivial⟩) (fun b1 => ?_)
 refine TLe (E_boxP [(8, e32 b.toList)] rfl rfl ⟨(lenV (f := v32) b), trivial⟩) (fun b2 => ?_)
 refine TLe (E_al32 8 TryI.inf31 TryI.zer31) (fun b3 => ?_)
 refine TL_nil ?_
 refine TX_next ?_
 refine TC_seq ?_
 refine TC_region ?_
 refine TLv (V_move rfl) ?_
 obtain ⟨r_1, hr_1, H⟩ := bind_elim H
 refine TLe (E_c0 (F79_calls which r_1 hr_1) Try.call79 .z) (fun g_1 => ?_)
 refine TLv (V_move rfl) ?_
 obtain ⟨r_2, hr_2, H⟩ := bind_elim H
 refine TLe (E_c0 (F81_calls which r_2 hr_2) Try.call81 .z) (fun g_2 => ?_)
 refine TLe (E_al32 8 TryI.inf31 TryI.zer31) (fun b4 => ?_)
 refine TLn (E_sv (vs := e32 r_1.toList) 0 TryI.inf31) (fun _ => ?_)
 refine TLv (V_assign rfl) ?_
 refine TL_nil ?_
 refine TX_next ?_
 refine TC_seq ?_
 refine TC_region ?_
 refine TLe (E_al64 10 TryI.inf107 TryI.zer107) (fun b5 => ?_)
 refine TL_nil ?_
 refine TX_next ?_
 refine TC_seq ?_
 refine TC_seq ?_
 refine TC_region ?_
 refine TLv (V_assign rfl) ?_
 refine TL_nil ?_
 refine TX_next ?_
 refine TC_block ?_
 obtain ⟨t_1, Hl, H⟩ := bind_elim H
 refine TC.sub (m' := [(4, ptr (some (b1, 0)) 0), (5, ptr (some (b2, 0)) 0), (6, ptr (some (b3, 0)) 0), (7, ptr (some (b4, 0)) 0), (8, v64 r_2), (9, ptr (some (b5, 0)) 0), (10, vi 0)]) ⟨rfl, rfl, rfl, rfl, rfl, rfl, rfl, trivial⟩ ?_
 refine TC.pull (is := [4, 3, 2, 1, 0]) (L' := [⟨some (b1, 0), e32 a_.toList⟩, ⟨some (b2, 0), e32 b.toList⟩, ⟨some (b3, 0), e32 ((replicate 8 0#32).toList)⟩, ⟨some (b4, 0), e32 r_1.toList⟩, ⟨some (b5, 0), e64 ((replicate 10 0#64).toList)⟩]) rfl ?_
 refine TC_loopL (id := 0) (body := (halberdref9_mont.b0 a_ b r_1 r_2)) (σ := Int × Vx 64 10) (Γ := Unit) (Γx := Unit) (fun s0 g0_ => [(4, ptr (some (b1, 0)) 0), (5, ptr (some (b2, 0)) 0), (6, ptr (some (b3, 0)) 0), (7, ptr (some (b4, 0)) 0), (8, v64 r_2), (9, ptr (some (b5, 0)) 0), (10, vi s0.1)]) (fun s0 g0_ => [⟨some (b1, 0), e32 a_.toList⟩, ⟨some (b2, 0), e32 b.toList⟩, ⟨some (b3, 0), e32 ((replicate 8 0#32).toList)⟩, ⟨some (b4, 0), e32 r_1.toList⟩, ⟨some (b5, 0), e64 s0.2.toList⟩]) (fun t g => [(6, ptr (some (b3, 0)) 0), (7, ptr (some (b4, 0)) 0), (9, ptr (some (b5, 0)) 0)]) (fun t g => [⟨some (b3, 0), e32 ((replicate 8 0#32).toList)⟩, ⟨some (b4, 0), e32 r_1.toList⟩, ⟨some (b5, 0), e64 t.toList⟩]) ?_ BIG (0, replicate 10 0#64) () t_1 Hl ?_
 ·intro s0 g0_ r1 H K hK hE
  unfold halberdref9_mont.b0 at H
  refine TC_seq ?_
  refine TC_seq ?_
  refine TC_region ?_
  refine TLv (V_move rfl) ?_
  refine TLv (V_bin rfl rfl (fun w => lssI w s0.1 8)) ?_
  refine TL_nil ?_
  refine TX_next ?_
  refine TC_cond (b := (decide (s0.1 < 8))) rfl (fun hc => ?_) (fun hc => ?_)
  ·replace H := ite_t (of_decide_eq_true hc) H
   refine TC_skip ?_
   refine TX_next ?_
   refine TC_seq ?_
   refine TC_block ?_
   refine TC_seq ?_
   refine TC_region ?_
   refine TLv (V_assign rfl) ?_
   refine TL_nil ?_
   refine TX_next ?_
   refine TC_seq ?_
   refine TC_seq ?_
   refine TC_region ?_
   refine TLv (V_assign rfl) ?_
   refine TL_nil ?_
   refine TX_next ?_
   refine TC_block ?_
   obtain ⟨t_2, Hl, H⟩ := bind_elim H
   refine TC.sub (m' := [(4, ptr (some (b1, 0)) 0), (5, ptr (some (b2, 0)) 0), (6, ptr (some (b3, 0)) 0), (7, ptr (some (b4, 0)) 0), (8, v64 r_2), (9, ptr (some (b5, 0)) 0), (10, vi s0.1), (11, v64 0#64), (12, vi 0)]) ⟨rfl, rfl, rfl, rfl, rfl, rfl, rfl, rfl, rfl, trivial⟩ ?_
   refine TC.pull (is := [0, 0, 0, 0, 0]) (L' := [⟨some (b1, 0), e32 a_.toList⟩, ⟨some (b2, 0), e32 b.toList⟩, ⟨some (b3, 0), e32 ((replicate 8 0#32).toList)⟩, ⟨some (b4, 0), e32 r_1.toList⟩, ⟨some (b5, 0), e64 s0.2.toList⟩]) rfl ?_
   refine TC_loopL (id := 2) (body := (halberdref9_mont.b1 a_ b s0)) (σ := BitVec 64 × Int × Vx 64 10) (Γ := Unit) (Γx := Unit) (fun s1 g1_ => [(4, ptr (some (b1, 0)) 0), (5, ptr (some (b2, 0)) 0), (6, ptr (some (b3, 0)) 0), (7, ptr (some (b4, 0)) 0), (8, v64 r_2), (9, ptr (some (b5, 0)) 0), (10, vi s0.1), (11, v64 s1.1), (12, vi s1.2.1)]) (fun s1 g1_ => [⟨some (b1, 0), e32 a_.toList⟩, ⟨some (b2, 0), e32 b.toList⟩, ⟨some (b3, 0), e32 ((replicate 8 0#32).toList)⟩, ⟨some (b4, 0), e32 r_1.toList⟩, ⟨some (b5, 0), e64 s1.2.2.toList⟩]) (fun t g => [(4, ptr (some (b1, 0)) 0), (5, ptr (some (b2, 0)) 0), (6, ptr (some (b3, 0)) 0), (7, ptr (some (b4, 0)) 0), (8, v64 r_2), (9, ptr (some (b5, 0)) 0), (10, vi s0.1), (11, v64 t.1)]) (fun t g => [⟨some (b1, 0), e32 a_.toList⟩, ⟨some (b2, 0), e32 b.toList⟩, ⟨some (b3, 0), e32 ((replicate 8 0#32).toList)⟩, ⟨some (b4, 0), e32 r_1.toList⟩, ⟨some (b5, 0), e64 t.2.toList⟩]) ?_ BIG (0#64, 0, s0.2) () t_2 Hl ?_
   ·intro s1 g1_ r1 H K hK hE
    unfold halberdref9_mont.b1 at H
    refine TC_seq ?_
    refine TC_seq ?_
    refine TC_region ?_
    refine TLv (V_move rfl) ?_
    refine TLv (V_bin rfl rfl (fun w => lssI w s1.2.1 8)) ?_
    refine TL_nil ?_
    refine TX_next ?_
    refine TC_cond (b := (decide (s1.2.1 < 8))) rfl (fun hc => ?_) (fun hc => ?_)
    ·replace H := ite_t (of_decide_eq_true hc) H
     refine TC_skip ?_
     refine TX_next ?_
     refine TC_seq ?_
     refine TC_block ?_
     refine TC_seq ?_
     obtain ⟨h1, H⟩ := if_elim H
     obtain ⟨h2, H⟩ := if_elim H
     obtain ⟨h3, H⟩ := if_elim H
     obtain ⟨s_1, hs_1, H⟩ := ltt_elim H
     refine TA_begin [] 16 (by kernel_rfl) (N := 16) rfl ?_
     refine TA_mix (is := []) (done' := dn 16 32767) [itV 0 32 (vi s1.2.1) [], itV 1 33 (ptr (some (b5, 0)) ((s1.2.1).toNat)) [0], itV 2 34 (v64 (vg s1.2.2 ((s1.2.1).toNat))) [1], itV 3 35 (vi s1.2.1) [], itV 4 36 (ptr (some (b1, 0)) ((s1.2.1).toNat)) [3], itV 5 37 (v32 (vg a_ ((s1.2.1).toNat))) [4], itV 6 38 (v64 ((vg a_ ((s1.2.1).toNat)).setWidth 64)) [5], itV 7 39 (vi s0.1) [], itV 8 40 (ptr (some (b2, 0)) ((s0.1).toNat)) [7], itV 9 41 (v32 (vg b ((s0.1).toNat))) [8], itV 10 42 (v64 ((vg b ((s0.1).toNat)).setWidth 64)) [9], itV 11 43 (v64 (((vg a_ ((s1.2.1).toNat)).setWidth 64) * ((vg b ((s0.1).toNat)).setWidth 64))) [10, 6], itV 12 44 (v64 ((vg s1.2.2 ((s1.2.1).toNat)) + (((vg a_ ((s1.2.1).toNat)).setWidth 64) * ((vg b ((s0.1).toNat)).setWidth 64)))) [2, 11], itV 13 45 (v64 s1.1) [], itV 14 46 (v64 (((vg s1.2.2 ((s1.2.1).toNat)) + (((vg a_ ((s1.2.1).toNat)).setWidth 64) * ((vg b ((s0.1).toNat)).setWidth 64))) + s1.1)) [12, 13]] [] 1 (by kernel_rfl) (QP.then (QP.block (QP.then (QP.then (QP.block (QP.then (QP.block (QP.then (QP.then (QP.block (QP.then QP.body))))))))))) (by kernel_rfl) rfl (.v rfl (V_move rfl) (.v rfl (V_idxArr (i := s1.2.1) rfl rfl Try.underlying107 TryI.inf55 rfl h1.1 h1.2 (k := (s1.2.1).toNat) (k01 _)) (.v rfl (V_load rfl (.o 4) (get_vec (f := v64) (V := s1.2.2) (toNat_lt h1.1 h1.2)) Try.isAgg55) (.v rfl (V_move rfl) (.v rfl (V_idxArr (i := s1.2.1) rfl rfl Try.underlying31 TryI.inf29 rfl h2.1 h2.2 (k := (s1.2.1).toNat) (k01 _)) (.v rfl (V_load rfl (.o 0) (get_vec (f := v32) (V := a_) (toNat_lt h2.1 h2.2)) Try.isAgg29) (.v rfl (V_conv rfl (fun w => cv32to64 w _ _ Try.underlying55 (TryI.und29) (vg a_ ((s1.2.1).toNat)))) (.v rfl (V_move rfl) (.v rfl (V_idxArr (i := s0.1) rfl rfl Try.underlying31 TryI.inf29 rfl h3.1 h3.2 (k := (s0.1).toNat) (k01 _)) (.v rfl (V_load rfl (.o 1) (get_vec (f := v32) (V := b) (toNat_lt h3.1 h3.2)) Try.isAgg29) (.v rfl (V_conv rfl (fun w => cv32to64 w _ _ Try.underlying55 (TryI.und29) (vg b ((s0.1).toNat)))) (.v rfl (V_bin rfl rfl (fun w => mul64 w ((vg a_ ((s1.2.1).toNat)).setWidth 64) ((vg b ((s0.1).toNat)).setWidth 64))) (.v rfl (V_bin rfl rfl (fun w => add64 w (vg s1.2.2 ((s1.2.1).toNat)) (((vg a_ ((s1.2.1).toNat)).setWidth 64) * ((vg b ((s0.1).toNat)).setWidth 64)))) (.v rfl (V_move rfl) (.v rfl (V_bin rfl rfl (fun w => add64 w ((vg s1.2.2 ((s1.2.1).toNat)) + (((vg a_ ((s1.2.1).toNat)).setWidth 64) * ((vg b ((s0.1).toNat)).setWidth 64))) s1.1)) .nil))))))))))))))) .nil (by kernel_rfl) rfl (fun γ => ?_)
     refine TA_cut [(46, v64 (((vg s1.2.2 ((s1.2.1).toNat)) + (((vg a_ ((s1.2.1).toNat)).setWidth 64) * ((vg b ((s0.1).toNat)).setWidth 64))) + s1.1)), (4, ptr (some (b1, 0)) 0), (5, ptr (some (b2, 0)) 0), (6, ptr (some (b3, 0)) 0), (7, ptr (some (b4, 0)) 0), (8, v64 r_2), (9, ptr (some (b5, 0)) 0), (10, vi s0.1), (12, vi s1.2.1)] [⟨some (b1, 0), e32 a_.toList⟩, ⟨some (b2, 0), e32 b.toList⟩, ⟨some (b3, 0), e32 ((replicate 8 0#32).toList)⟩, ⟨some (b4, 0), e32 r_1.toList⟩, ⟨some (b5, 0), e64 s1.2.2.toList⟩] ⟨rfl, rfl, rfl, rfl, rfl, rfl, rfl, rfl, rfl, trivial⟩ rfl ?_
     refine TA_all (rs := [15]) (by kernel_rfl) rfl ?_
     refine ⟨?_, trivial⟩
     refine TO_v (is := []) (done' := dn 16 65535) rfl rfl rfl rfl (by kernel_rfl) (V_assign rfl) (fun _ => rfl) ?_
     refine TA_re (d := 13) (v := v64 (((vg s1.2.2 ((s1.2.1).toNat)) + (((vg a_ ((s1.2.1).toNat)).setWidth 64) * ((vg b ((s0.1).toNat)).setWidth 64))) + s1.1)) (v' := v64 s_1) rfl (congrArg v64 hs_1) ?_
     refine TA_done (by kernel_rfl) ?_ 0
     refine TX_next ?_
     refine TC_seq ?_
     refine TC_region ?_
     refine TLv (V_move rfl) ?_
     refine TLv (V_move rfl) ?_
     refine TLv (V_bin rfl rfl (fun w => and64 w s_1 4294967295#64)) ?_
     obtain ⟨h4, H⟩ := if_elim H
     refine TLv (V_idxArr (i := s1.2.1) rfl rfl Try.underlying107 TryI.inf55 rfl h4.1 h4.2 (k := (s1.2.1).toNat) (k01 _)) ?_
     refine TLn (E_store (j := 4) rfl rfl TryI.inf55 rfl rfl rfl (by simpa using (toNat_lt h4.1 h4.2)) (cs' := e64 ((vp s1.2.2 ((s1.2.1).toNat) (s_1 &&& 4294967295#64)).toList)) set_vec) (fun _ => ?_)
     obtain ⟨m_1, hm_1, H⟩ := ltt_elim H
     refine TL_reE (j := 4) (A := some (b5, 0)) (cs := e64 ((vp s1.2.2 ((s1.2.1).toNat) (s_1 &&& 4294967295#64)).toList)) (cs' := e64 m_1.toList) rfl (congrArg (fun z : Vx 64 10 => e64 (Vector.toList z)) hm_1) ?_
     refine TL_nil ?_
     refine TX_next ?_
     refine TC_region ?_
     refine TLv (V_move rfl) ?_
     refine TLv (V_bin rfl rfl (fun w => shr64 w s_1 .u64 32 (by decide))) ?_
     refine TLv (V_assign rfl) ?_
     refine TL_nil ?_
     refine TX_block_normal ?_
     refine TX_next ?_
     refine TC_region ?_
     refine TLv (V_move rfl) ?_
     refine TLv (V_bin rfl rfl (fun w => addI w s1.2.1 1)) ?_
     refine TLv (V_assign rfl) ?_
     obtain ⟨j1, hj1, H⟩ := ltt_elim H
     refine TL_re (d := 12) (v := vi (w64 (s1.2.1 + 1))) (v' := vi j1) rfl (congrArg vi hj1) ?_
     refine TL_nil ?_
     refine TX.sub (m' := [(4, ptr (some (b1, 0)) 0), (5, ptr (some (b2, 0)) 0), (6, ptr (some (b3, 0)) 0), (7, ptr (some (b4, 0)) 0), (8, v64 r_2), (9, ptr (some (b5, 0)) 0), (10, vi s0.1), (11, v64 (s_1 >>> 32)), (12, vi j1)]) ⟨rfl, rfl, rfl, rfl, rfl, rfl, rfl, rfl, rfl, trivial⟩ ?_
     refine TX.pull (is := [0, 0, 0, 0, 0]) (L' := [⟨some (b1, 0), e32 a_.toList⟩, ⟨some (b2, 0), e32 b.toList⟩, ⟨some (b3, 0), e32 ((replicate 8 0#32).toList)⟩, ⟨some (b4, 0), e32 r_1.toList⟩, ⟨some (b5, 0), e64 m_1.toList⟩]) rfl ?_
     obtain rfl := Option.some.inj H
     exact fun a w hs => hK (s_1 >>> 32, j1, m_1) rfl () a w hs
    ·replace H := ite_f (of_decide_eq_false hc) H
     refine TC_exit ?_
     refine TX_then_exit ?_
     refine TX_then_exit ?_
     refine TX.sub (m' := [(4, ptr (some (b1, 0)) 0), (5, ptr (some (b2, 0)) 0), (6, ptr (some (b3, 0)) 0), (7, ptr (some (b4, 0)) 0), (8, v64 r_2), (9, ptr (some (b5, 0)) 0), (10, vi s0.1), (11, v64 s1.1)]) ⟨rfl, rfl, rfl, rfl, rfl, rfl, rfl, rfl, trivial⟩ ?_
     refine TX.pull (is := [0, 0, 0, 0, 0]) (L' := [⟨some (b1, 0), e32 a_.toList⟩, ⟨some (b2, 0), e32 b.toList⟩, ⟨some (b3, 0), e32 ((replicate 8 0#32).toList)⟩, ⟨some (b4, 0), e32 r_1.toList⟩, ⟨some (b5, 0), e64 s1.2.2.toList⟩]) rfl ?_
     obtain rfl := Option.some.inj H
     exact hE (s1.1, s1.2.2) rfl ()
   ·intro g
    refine TX_block_exit ?_
    refine TX_next ?_
    refine TC_seq ?_
    refine TC_region ?_
    refine TLv (V_idxArr (i := 8) rfl rfl Try.underlying107 TryI.inf55 rfl (by decide) (by decide) (k := 8) (k01 _)) ?_
    refine TLv (V_load rfl (.o 4) (get_vec (f := v64) (V := t_2.2) (by decide : 8 < 10)) Try.isAgg55) ?_
    refine TLv (V_move rfl) ?_
    refine TLv (V_bin rfl rfl (fun w => add64 w (vg t_2.2 8) t_2.1)) ?_
    refine TLv (V_assign rfl) ?_
    obtain ⟨s_2, hs_2, H⟩ := ltt_elim H
    refine TL_re (d := 14) (v := v64 ((vg t_2.2 8) + t_2.1)) (v' := v64 s_2) rfl (congrArg v64 hs_2) ?_
    refine TL_nil ?_
    refine TX_next ?_
    refine TC_seq ?_
    refine TC_region ?_
    refine TLv (V_move rfl) ?_
    refine TLv (V_bin rfl rfl (fun w => and64 w s_2 4294967295#64)) ?_
    refine TLv (V_idxArr (i := 8) rfl rfl Try.underlying107 TryI.inf55 rfl (by decide) (by decide) (k := 8) (k01 _)) ?_
    refine TLn (E_store (j := 4) rfl rfl TryI.inf55 rfl rfl rfl (by simp) (cs' := e64 ((vp t_2.2 8 (s_2 &&& 4294967295#64)).toList)) set_vec) (fun _ => ?_)
    obtain ⟨m_2, hm_2, H⟩ := ltt_elim H
    refine TL_reE (j := 4) (A := some (b5, 0)) (cs := e64 ((vp t_2.2 8 (s_2 &&& 4294967295#64)).toList)) (cs' := e64 m_2.toList) rfl (congrArg (fun z : Vx 64 10 => e64 (Vector.toList z)) hm_2) ?_
    refine TL_nil ?_
    refine TX_next ?_
    refine TC_seq ?_
    refine TC_region ?_
    refine TLv (V_move rfl) ?_
    refine TLv (V_bin rfl rfl (fun w => shr64 w s_2 .u64 32 (by decide))) ?_
    refine TLv (V_idxArr (i := 9) rfl rfl Try.underlying107 TryI.inf55 rfl (by decide) (by decide) (k := 9) (k01 _)) ?_
    refine TLn (E_store (j := 4) rfl rfl TryI.inf55 rfl rfl rfl (by simp) (cs' := e64 ((vp m_2 9 (s_2 >>> 32)).toList)) set_vec) (fun _ => ?_)
    refine TL_nil ?_
    refine TX_next ?_
    refine TC_seq ?_
    refine TC_region ?_
    refine TLv (V_idxArr (i := 0) rfl rfl Try.underlying107 TryI.inf55 rfl (by decide) (by decide) (k := 0) (k01 _)) ?_
    refine TLv (V_load rfl (.o 4) (get_vec (f := v64) (V := (vp m_2 9 (s_2 >>> 32))) (by decide : 0 < 10)) Try.isAgg55) ?_
    refine TLv (V_move rfl) ?_
    refine TLv (V_bin rfl rfl (fun w => mul64 w (vg (vp m_2 9 (s_2 >>> 32)) 0) r_2)) ?_
    refine TLv (V_bin rfl rfl (fun w => and64 w ((vg (vp m_2 9 (s_2 >>> 32)) 0) * r_2) 4294967295#64)) ?_
    refine TLv (V_assign rfl) ?_
    obtain ⟨q1, hq1, H⟩ := ltt_elim H
    refine TL_re (d := 15) (v := v64 (((vg (vp m_2 9 (s_2 >>> 32)) 0) * r_2) &&& 4294967295#64)) (v' := v64 q1) rfl (congrArg v64 hq1) ?_
    refine TL_nil ?_
    refine TX_next ?_
    refine TC_seq ?_
    refine TC_region ?_
    refine TLv (V_idxArr (i := 0) rfl rfl Try.underlying107 TryI.inf55 rfl (by decide) (by decide) (k := 0) (k01 _)) ?_
    refine TLv (V_load rfl (.o 4) (get_vec (f := v64) (V := (vp m_2 9 (s_2 >>> 32))) (by decide : 0 < 10)) Try.isAgg55) ?_
    refine TLv (V_move rfl) ?_
    refine TLv (V_idxArr (i := 0) rfl rfl Try.underlying31 TryI.inf29 rfl (by decide) (by decide) (k := 0) (k01 _)) ?_
    refine TLv (V_load rfl (.o 3) (get_vec (f := v32) (V := r_1) (by decide : 0 < 8)) Try.isAgg29) ?_
    refine TLv (V_conv rfl (fun w => cv32to64 w _ _ Try.underlying55 (TryI.und29) (vg r_1 0))) ?_
    refine TLv (V_bin rfl rfl (fun w => mul64 w q1 ((vg r_1 0).setWidth 64))) ?_
    refine TLv (V_bin rfl rfl (fun w => add64 w (vg (vp m_2 9 (s_2 >>> 32)) 0) (q1 * ((vg r_1 0).setWidth 64)))) ?_
    refine TLv (V_bin rfl rfl (fun w => shr64 w ((vg (vp m_2 9 (s_2 >>> 32)) 0) + (q1 * ((vg r_1 0).setWidth 64))) .u64 32 (by decide))) ?_
    refine TLv (V_assign rfl) ?_
    obtain ⟨c1, hc1, H⟩ := ltt_elim H
    refine TL_re (d := 11) (v := v64 (((vg (vp m_2 9 (s_2 >>> 32)) 0) + (q1 * ((vg r_1 0).setWidth 64))) >>> 32)) (v' := v64 c1) rfl (congrArg v64 hc1) ?_
    refine TL_nil ?_
    refine TX_next ?_
    refine TC.sub (m' := [(4, ptr (some (b1, 0)) 0), (5, ptr (some (b2, 0)) 0), (6, ptr (some (b3, 0)) 0), (7, ptr (some (b4, 0)) 0), (8, v64 r_2), (9, ptr (some (b5, 0)) 0), (10, vi s0.1), (11, v64 c1), (15, v64 q1)]) ⟨rfl, rfl, rfl, rfl, rfl, rfl, rfl, rfl, rfl, trivial⟩ ?_
    refine TC.pull (is := [0, 0, 0, 0, 0]) (L' := [⟨some (b1, 0), e32 a_.toList⟩, ⟨some (b2, 0), e32 b.toList⟩, ⟨some (b3, 0), e32 ((replicate 8 0#32).toList)⟩, ⟨some (b4, 0), e32 r_1.toList⟩, ⟨some (b5, 0), e64 ((vp m_2 9 (s_2 >>> 32)).toList)⟩]) rfl ?_
    refine TC_seq ?_
    refine TC_seq ?_
    refine TC_region ?_
    refine TLv (V_assign rfl) ?_
    refine TL_nil ?_
    refine TX_next ?_
    refine TC_block ?_
    obtain ⟨t_3, Hl, H⟩ := bind_elim H
    refine TC.sub (m' := [(4, ptr (some (b1, 0)) 0), (5, ptr (some (b2, 0)) 0), (6, ptr (some (b3, 0)) 0), (7, ptr (some (b4, 0)) 0), (8, v64 r_2), (9, ptr (some (b5, 0)) 0), (10, vi s0.1), (11, v64 c1), (15, v64 q1), (16, vi 1)]) ⟨rfl, rfl, rfl, rfl, rfl, rfl, rfl, rfl, rfl, rfl, trivial⟩ ?_
    refine TC.pull (is := [0, 0, 0, 0, 0]) (L' := [⟨some (b1, 0), e32 a_.toList⟩, ⟨some (b2, 0), e32 b.toList⟩, ⟨some (b3, 0), e32 ((replicate 8 0#32).toList)⟩, ⟨some (b4, 0), e32 r_1.toList⟩, ⟨some (b5, 0), e64 ((vp m_2 9 (s_2 >>> 32)).toList)⟩]) rfl ?_
    refine TC_loopL (id := 4) (body := (halberdref9_mont.b2 r_1 q1)) (σ := BitVec 64 × Int × Vx 64 10) (Γ := Unit) (Γx := Unit) (fun s2 g2_ => [(4, ptr (some (b1, 0)) 0), (5, ptr (some (b2, 0)) 0), (6, ptr (some (b3, 0)) 0), (7, ptr (some (b4, 0)) 0), (8, v64 r_2), (9, ptr (some (b5, 0)) 0), (10, vi s0.1), (11, v64 s2.1), (15, v64 q1), (16, vi s2.2.1)]) (fun s2 g2_ => [⟨some (b1, 0), e32 a_.toList⟩, ⟨some (b2, 0), e32 b.toList⟩, ⟨some (b3, 0), e32 ((replicate 8 0#32).toList)⟩, ⟨some (b4, 0), e32 r_1.toList⟩, ⟨some (b5, 0), e64 s2.2.2.toList⟩]) (fun t g => [(4, ptr (some (b1, 0)) 0), (5, ptr (some (b2, 0)) 0), (6, ptr (some (b3, 0)) 0), (7, ptr (some (b4, 0)) 0), (8, v64 r_2), (9, ptr (some (b5, 0)) 0), (10, vi s0.1), (11, v64 t.1)]) (fun t g => [⟨some (b1, 0), e32 a_.toList⟩, ⟨some (b2, 0), e32 b.toList⟩, ⟨some (b3, 0), e32 ((replicate 8 0#32).toList)⟩, ⟨some (b4, 0), e32 r_1.toList⟩, ⟨some (b5, 0), e64 t.2.toList⟩]) ?_ BIG (c1, 1, vp m_2 9 (s_2 >>> 32)) () t_3 Hl ?_
    ·intro s2 g2_ r1 H K hK hE
     unfold halberdref9_mont.b2 at H
     refine TC_seq ?_
     refine TC_seq ?_
     refine TC_region ?_
     refine TLv (V_move rfl) ?_
     refine TLv (V_bin rfl rfl (fun w => lssI w s2.2.1 8)) ?_
     refine TL_nil ?_
     refine TX_next ?_
     refine TC_cond (b := (decide (s2.2.1 < 8))) rfl (fun hc => ?_) (fun hc => ?_)
     ·replace H := ite_t (of_decide_eq_true hc) H
      refine TC_skip ?_
      refine TX_next ?_
      refine TC_seq ?_
      refine TC_block ?_
      refine TC_seq ?_
      obtain ⟨h5, H⟩ := if_elim H
      obtain ⟨h6, H⟩ := if_elim H
      obtain ⟨s_3, hs_3, H⟩ := ltt_elim H
      refine TA_begin [] 13 (by kernel_rfl) (N := 13) rfl ?_
      refine TA_mix (is := []) (done' := dn 13 4095) [itV 0 81 (vi s2.2.1) [], itV 1 82 (ptr (some (b5, 0)) ((s2.2.1).toNat)) [0], itV 2 83 (v64 (vg s2.2.2 ((s2.2.1).toNat))) [1], itV 3 84 (v64 q1) [], itV 4 85 (vi s2.2.1) [], itV 5 86 (ptr (some (b4, 0)) ((s2.2.1).toNat)) [4], itV 6 87 (v32 (vg r_1 ((s2.2.1).toNat))) [5], itV 7 88 (v64 ((vg r_1 ((s2.2.1).toNat)).setWidth 64)) [6], itV 8 89 (v64 (q1 * ((vg r_1 ((s2.2.1).toNat)).setWidth 64))) [7, 3], itV 9 90 (v64 ((vg s2.2.2 ((s2.2.1).toNat)) + (q1 * ((vg r_1 ((s2.2.1).toNat)).setWidth 64)))) [8, 2], itV 10 91 (v64 s2.1) [], itV 11 92 (v64 (((vg s2.2.2 ((s2.2.1).toNat)) + (q1 * ((vg r_1 ((s2.2.1).toNat)).setWidth 64))) + s2.1)) [9, 10]] [] 1 (by kernel_rfl) (QP.then (QP.block (QP.then (QP.then (QP.block (QP.then (QP.block (QP.then (QP.then (QP.block (QP.then QP.body))))))))))) (by kernel_rfl) rfl (.v rfl (V_move rfl) (.v rfl (V_idxArr (i := s2.2.1) rfl rfl Try.underlying107 TryI.inf55 rfl h5.1 h5.2 (k := (s2.2.1).toNat) (k01 _)) (.v rfl (V_load rfl (.o 4) (get_vec (f := v64) (V := s2.2.2) (toNat_lt h5.1 h5.2)) Try.isAgg55) (.v rfl (V_move rfl) (.v rfl (V_move rfl) (.v rfl (V_idxArr (i := s2.2.1) rfl rfl Try.underlying31 TryI.inf29 rfl h6.1 h6.2 (k := (s2.2.1).toNat) (k01 _)) (.v rfl (V_load rfl (.o 3) (get_vec (f := v32) (V := r_1) (toNat_lt h6.1 h6.2)) Try.isAgg29) (.v rfl (V_conv rfl (fun w => cv32to64 w _ _ Try.underlying55 (TryI.und29) (vg r_1 ((s2.2.1).toNat)))) (.v rfl (V_bin rfl rfl (fun w => mul64 w q1 ((vg r_1 ((s2.2.1).toNat)).setWidth 64))) (.v rfl (V_bin rfl rfl (fun w => add64 w (vg s2.2.2 ((s2.2.1).toNat)) (q1 * ((vg r_1 ((s2.2.1).toNat)).setWidth 64)))) (.v rfl (V_move rfl) (.v rfl (V_bin rfl rfl (fun w => add64 w ((vg s2.2.2 ((s2.2.1).toNat)) + (q1 * ((vg r_1 ((s2.2.1).toNat)).setWidth 64))) s2.1)) .nil)))))))))))) .nil (by kernel_rfl) rfl (fun γ => ?_)
      refine TA_cut [(92, v64 (((vg s2.2.2 ((s2.2.1).toNat)) + (q1 * ((vg r_1 ((s2.2.1).toNat)).setWidth 64))) + s2.1)), (4, ptr (some (b1, 0)) 0), (5, ptr (some (b2, 0)) 0), (6, ptr (some (b3, 0)) 0), (7, ptr (some (b4, 0)) 0), (8, v64 r_2), (9, ptr (some (b5, 0)) 0), (10, vi s0.1), (15, v64 q1), (16, vi s2.2.1)] [⟨some (b1, 0), e32 a_.toList⟩, ⟨some (b2, 0), e32 b.toList⟩, ⟨some (b3, 0), e32 ((replicate 8 0#32).toList)⟩, ⟨some (b4, 0), e32 r_1.toList⟩, ⟨some (b5, 0), e64 s2.2.2.toList⟩] ⟨rfl, rfl, rfl, rfl, rfl, rfl, rfl, rfl, rfl, rfl, trivial⟩ rfl ?_
      refine TA_all (rs := [12]) (by kernel_rfl) rfl ?_
      refine ⟨?_, trivial⟩
      refine TO_v (is := []) (done' := dn 13 8191) rfl rfl rfl rfl (by kernel_rfl) (V_assign rfl) (fun _ => rfl) ?_
      refine TA_re (d := 17) (v := v64 (((vg s2.2.2 ((s2.2.1).toNat)) + (q1 * ((vg r_1 ((s2.2.1).toNat)).setWidth 64))) + s2.1)) (v' := v64 s_3) rfl (congrArg v64 hs_3) ?_
      refine TA_done (by kernel_rfl) ?_ 0
      refine TX_next ?_
      refine TC_seq ?_
      refine TC_region ?_
      refine TLv (V_move rfl) ?_
      refine TLv (V_bin rfl rfl (fun w => subI w s2.2.1 1)) ?_
      refine TLv (V_move rfl) ?_
      refine TLv (V_bin rfl rfl (fun w => and64 w s_3 4294967295#64)) ?_
      obtain ⟨h7, H⟩ := if_elim H
      refine TLv (V_idxArr (i := w64 (s2.2.1 - 1)) rfl rfl Try.underlying107 TryI.inf55 rfl h7.1 h7.2 (k := (w64 (s2.2.1 - 1)).toNat) (k01 _)) ?_
      refine TLn (E_store (j := 4) rfl rfl TryI.inf55 rfl rfl rfl (by simpa using (toNat_lt h7.1 h7.2)) (cs' := e64 ((vp s2.2.2 ((w64 (s2.2.1 - 1)).toNat) (s_3 &&& 4294967295#64)).toList)) set_vec) (fun _ => ?_)
      obtain ⟨m_3, hm_3, H⟩ := ltt_elim H
      refine TL_reE (j := 4) (A := some (b5, 0)) (cs := e64 ((vp s2.2.2 ((w64 (s2.2.1 - 1)).toNat) (s_3 &&& 4294967295#64)).toList)) (cs' := e64 m_3.toList) rfl (congrArg (fun z : Vx 64 10 => e64 (Vector.toList z)) hm_3) ?_
      refine TL_nil ?_
      refine TX_next ?_
      refine TC_region ?_
      refine TLv (V_move rfl) ?_
      refine TLv (V_bin rfl rfl (fun w => shr64 w s_3 .u64 32 (by decide))) ?_
      refine TLv (V_assign rfl) ?_
      refine TL_nil ?_
      refine TX_block_normal ?_
      refine TX_next ?_
      refine TC_region ?_
      refine TLv (V_move rfl) ?_
      refine TLv (V_bin rfl rfl (fun w => addI w s2.2.1 1)) ?_
      refine TLv (V_assign rfl) ?_
      obtain ⟨j2, hj2, H⟩ := ltt_elim H
      refine TL_re (d := 16) (v := vi (w64 (s2.2.1 + 1))) (v' := vi j2) rfl (congrArg vi hj2) ?_
      refine TL_nil ?_
      refine TX.sub (m' := [(4, ptr (some (b1, 0)) 0), (5, ptr (some (b2, 0)) 0), (6, ptr (some (b3, 0)) 0), (7, ptr (some (b4, 0)) 0), (8, v64 r_2), (9, ptr (some (b5, 0)) 0), (10, vi s0.1), (11, v64 (s_3 >>> 32)), (15, v64 q1), (16, vi j2)]) ⟨rfl, rfl, rfl, rfl, rfl, rfl, rfl, rfl, rfl, rfl, trivial⟩ ?_
      refine TX.pull (is := [0, 0, 0, 0, 0]) (L' := [⟨some (b1, 0), e32 a_.toList⟩, ⟨some (b2, 0), e32 b.toList⟩, ⟨some (b3, 0), e32 ((replicate 8 0#32).toList)⟩, ⟨some (b4, 0), e32 r_1.toList⟩, ⟨some (b5, 0), e64 m_3.toList⟩]) rfl ?_
      obtain rfl := Option.some.inj H
      exact fun a w hs => hK (s_3 >>> 32, j2, m_3) rfl () a w hs
     ·replace H := ite_f (of_decide_eq_false hc) H
      refine TC_exit ?_
      refine TX_then_exit ?_
      refine TX_then_exit ?_
      refine TX.sub (m' := [(4, ptr (some (b1, 0)) 0), (5, ptr (some (b2, 0)) 0), (6, ptr (some (b3, 0)) 0), (7, ptr (some (b4, 0)) 0), (8, v64 r_2), (9, ptr (some (b5, 0)) 0), (10, vi s0.1), (11, v64 s2.1)]) ⟨rfl, rfl, rfl, rfl, rfl, rfl, rfl, rfl, trivial⟩ ?_
      refine TX.pull (is := [0, 0, 0, 0, 0]) (L' := [⟨some (b1, 0), e32 a_.toList⟩, ⟨some (b2, 0), e32 b.toList⟩, ⟨some (b3, 0), e32 ((replicate 8 0#32).toList)⟩, ⟨some (b4, 0), e32 r_1.toList⟩, ⟨some (b5, 0), e64 s2.2.2.toList⟩]) rfl ?_
      obtain rfl := Option.some.inj H
      exact hE (s2.1, s2.2.2) rfl ()
    ·intro g
     refine TX_block_exit ?_
     refine TX_next ?_
     refine TC_seq ?_
     refine TC_region ?_
     refine TLv (V_idxArr (i := 8) rfl rfl Try.underlying107 TryI.inf55 rfl (by decide) (by decide) (k := 8) (k01 _)) ?_
     refine TLv (V_load rfl (.o 4) (get_vec (f := v64) (V := t_3.2) (by decide : 8 < 10)) Try.isAgg55) ?_
     refine TLv (V_move rfl) ?_
     refine TLv (V_bin rfl rfl (fun w => add64 w (vg t_3.2 8) t_3.1)) ?_
     refine TLv (V_assign rfl) ?_
     obtain ⟨s_4, hs_4, H⟩ := ltt_elim H
     refine TL_re (d := 14) (v := v64 ((vg t_3.2 8) + t_3.1)) (v' := v64 s_4) rfl (congrArg v64 hs_4) ?_
     refine TL_nil ?_
     refine TX_next ?_
     refine TC_seq ?_
     refine TC_region ?_
     refine TLv (V_move rfl) ?_
     refine TLv (V_bin rfl rfl (fun w => and64 w s_4 4294967295#64)) ?_
     refine TLv (V_idxArr (i := 7) rfl rfl Try.underlying107 TryI.inf55 rfl (by decide) (by decide) (k := 7) (k01 _)) ?_
     refine TLn (E_store (j := 4) rfl rfl TryI.inf55 rfl rfl rfl (by simp) (cs' := e64 ((vp t_3.2 7 (s_4 &&& 4294967295#64)).toList)) set_vec) (fun _ => ?_)
     obtain ⟨m_4, hm_4, H⟩ := ltt_elim H
     refine TL_reE (j := 4) (A := some (b5, 0)) (cs := e64 ((vp t_3.2 7 (s_4 &&& 4294967295#64)).toList)) (cs' := e64 m_4.toList) rfl (congrArg (fun z : Vx 64 10 => e64 (Vector.toList z)) hm_4) ?_
     refine TL_nil ?_
     refine TX_next ?_
     refine TC_seq ?_
     refine TC_region ?_
     refine TLv (V_idxArr (i := 9) rfl rfl Try.underlying107 TryI.inf55 rfl (by decide) (by decide) (k := 9) (k01 _)) ?_
     refine TLv (V_load rfl (.o 4) (get_vec (f := v64) (V := m_4) (by decide : 9 < 10)) Try.isAgg55) ?_
     refine TLv (V_move rfl) ?_
     refine TLv (V_bin rfl rfl (fun w => shr64 w s_4 .u64 32 (by decide))) ?_
     refine TLv (V_bin rfl rfl (fun w => add64 w (vg m_4 9) (s_4 >>> 32))) ?_
     refine TLv (V_idxArr (i := 8) rfl rfl Try.underlying107 TryI.inf55 rfl (by decide) (by decide) (k := 8) (k01 _)) ?_
     refine TLn (E_store (j := 4) rfl rfl TryI.inf55 rfl rfl rfl (by simp) (cs' := e64 ((vp m_4 8 ((vg m_4 9) + (s_4 >>> 32))).toList)) set_vec) (fun _ => ?_)
     obtain ⟨m_5, hm_5, H⟩ := ltt_elim H
     refine TL_reE (j := 4) (A := some (b5, 0)) (cs := e64 ((vp m_4 8 ((vg m_4 9) + (s_4 >>> 32))).toList)) (cs' := e64 m_5.toList) rfl (congrArg (fun z : Vx 64 10 => e64 (Vector.toList z)) hm_5) ?_
     refine TL_nil ?_
     refine TX_next ?_
     refine TC_region ?_
     refine TLv (V_idxArr (i := 9) rfl rfl Try.underlying107 TryI.inf55 rfl (by decide) (by decide) (k := 9) (k01 _)) ?_
     refine TLn (E_store (j := 4) rfl rfl TryI.inf55 rfl rfl rfl (by simp) (cs' := e64 ((vp m_5 9 0#64).toList)) (set_vec (f := v64) (V := m_5) (k := 9) (x := 0#64))) (fun _ => ?_)
     refine TL_nil ?_
     refine TX_block_normal ?_
     refine TX_next ?_
     refine TC_region ?_
     refine TLv (V_move rfl) ?_
     refine TLv (V_bin rfl rfl (fun w => addI w s0.1 1)) ?_
     refine TLv (V_assign rfl) ?_
     obtain ⟨i1, hi1, H⟩ := ltt_elim H
     refine TL_re (d := 10) (v := vi (w64 (s0.1 + 1))) (v' := vi i1) rfl (congrArg vi hi1) ?_
     refine TL_nil ?_
     refine TX.sub (m' := [(4, ptr (some (b1, 0)) 0), (5, ptr (some (b2, 0)) 0), (6, ptr (some (b3, 0)) 0), (7, ptr (some (b4, 0)) 0), (8, v64 r_2), (9, ptr (some (b5, 0)) 0), (10, vi i1)]) ⟨rfl, rfl, rfl, rfl, rfl, rfl, rfl, trivial⟩ ?_
     refine TX.pull (is := [0, 0, 0, 0, 0]) (L' := [⟨some (b1, 0), e32 a_.toList⟩, ⟨some (b2, 0), e32 b.toList⟩, ⟨some (b3, 0), e32 ((replicate 8 0#32).toList)⟩, ⟨some (b4, 0), e32 r_1.toList⟩, ⟨some (b5, 0), e64 ((vp m_5 9 0#64).toList)⟩]) rfl ?_
     obtain rfl := Option.some.inj H
     exact fun a w hs => hK (i1, vp m_5 9 0#64) rfl () a w hs
  ·replace H := ite_f (of_decide_eq_false hc) H
   refine TC_exit ?_
   refine TX_then_exit ?_
   refine TX_then_exit ?_
   refine TX.sub (m' := [(6, ptr (some (b3, 0)) 0), (7, ptr (some (b4, 0)) 0), (9, ptr (some (b5, 0)) 0)]) ⟨rfl, rfl, rfl, trivial⟩ ?_
   refine TX.pull (is := [2, 2, 2]) (L' := [⟨some (b3, 0), e32 ((replicate 8 0#32).toList)⟩, ⟨some (b4, 0), e32 r_1.toList⟩, ⟨some (b5, 0), e64 s0.2.toList⟩]) rfl ?_
   obtain rfl := Option.some.inj H
   exact hE s0.2 rfl ()
 ·intro g
  refine TX_block_exit ?_
  refine TX_next ?_
  refine TC_seq ?_
  refine TC_region ?_
  refine TLe (E_al32 8 TryI.inf31 TryI.zer31) (fun b6 => ?_)
  refine TL_nil ?_
  refine TX_next ?_
  refine TC_seq ?_
  refine TC_seq ?_
  refine TC_region ?_
  refine TLv (V_assign rfl) ?_
  refine TL_nil ?_
  refine TX_next ?_
  refine TC_block ?_
  obtain ⟨t_4, Hl, H⟩ := bind_elim H
  refine TC.sub (m' := [(6, ptr (some (b3, 0)) 0), (7, ptr (some (b4, 0)) 0), (9, ptr (some (b5, 0)) 0), (18, ptr (some (b6, 0)) 0), (19, vi 0)]) ⟨rfl, rfl, rfl, rfl, rfl, trivial⟩ ?_
  refine TC.pull (is := [1, 1, 1, 0]) (L' := [⟨some (b3, 0), e32 ((replicate 8 0#32).toList)⟩, ⟨some (b4, 0), e32 r_1.toList⟩, ⟨some (b5, 0), e64 t_1.toList⟩, ⟨some (b6, 0), e32 ((replicate 8 0#32).toList)⟩]) rfl ?_
  refine TC_loopL (id := 6) (body := (halberdref9_mont.b3 t_1)) (σ := Int × Vx 32 8) (Γ := Unit) (Γx := Unit) (fun s3 g3_ => [(6, ptr (some (b3, 0)) 0), (7, ptr (some (b4, 0)) 0), (9, ptr (some (b5, 0)) 0), (18, ptr (some (b6, 0)) 0), (19, vi s3.1)]) (fun s3 g3_ => [⟨some (b3, 0), e32 ((replicate 8 0#32).toList)⟩, ⟨some (b4, 0), e32 r_1.toList⟩, ⟨some (b5, 0), e64 t_1.toList⟩, ⟨some (b6, 0), e32 s3.2.toList⟩]) (fun t g => [(6, ptr (some (b3, 0)) 0), (7, ptr (some (b4, 0)) 0), (9, ptr (some (b5, 0)) 0), (18, ptr (some (b6, 0)) 0)]) (fun t g => [⟨some (b3, 0), e32 ((replicate 8 0#32).toList)⟩, ⟨some (b4, 0), e32 r_1.toList⟩, ⟨some (b5, 0), e64 t_1.toList⟩, ⟨some (b6, 0), e32 t.toList⟩]) ?_ BIG (0, replicate 8 0#32) () t_4 Hl ?_
  ·intro s3 g3_ r1 H K hK hE
   unfold halberdref9_mont.b3 at H
   refine TC_seq ?_
   refine TC_seq ?_
   refine TC_region ?_
   refine TLv (V_move rfl) ?_
   refine TLv (V_bin rfl rfl (fun w => lssI w s3.1 8)) ?_
   refine TL_nil ?_
   refine TX_next ?_
   refine TC_cond (b := (decide (s3.1 < 8))) rfl (fun hc => ?_) (fun hc => ?_)
   ·replace H := ite_t (of_decide_eq_true hc) H
    refine TC_skip ?_
    refine TX_next ?_
    refine TC_seq ?_
    refine TC_block ?_
    refine TC_region ?_
    refine TLv (V_move rfl) ?_
    refine TLv (V_move rfl) ?_
    obtain ⟨h8, H⟩ := if_elim H
    refine TLv (V_idxArr (i := s3.1) rfl rfl Try.underlying107 TryI.inf55 rfl h8.1 h8.2 (k := (s3.1).toNat) (k01 _)) ?_
    refine TLv (V_load rfl (.o 2) (get_vec (f := v64) (V := t_1) (toNat_lt h8.1 h8.2)) Try.isAgg55) ?_
    refine TLv (V_conv rfl (fun w => cv64to32 w _ _ Try.underlying29 (TryI.und55) (vg t_1 ((s3.1).toNat)))) ?_
    obtain ⟨h9, H⟩ := if_elim H
    refine TLv (V_idxArr (i := s3.1) rfl rfl Try.underlying31 TryI.inf29 rfl h9.1 h9.2 (k := (s3.1).toNat) (k01 _)) ?_
    refine TLn (E_store (j := 3) rfl rfl TryI.inf29 rfl rfl rfl (by simpa using (toNat_lt h9.1 h9.2)) (cs' := e32 ((vp s3.2 ((s3.1).toNat) ((vg t_1 ((s3.1).toNat)).setWidth 32)).toList)) set_vec) (fun _ => ?_)
    obtain ⟨m_6, hm_6, H⟩ := ltt_elim H
    refine TL_reE (j := 3) (A := some (b6, 0)) (cs := e32 ((vp s3.2 ((s3.1).toNat) ((vg t_1 ((s3.1).toNat)).setWidth 32)).toList)) (cs' := e32 m_6.toList) rfl (congrArg (fun z : Vx 32 8 => e32 (Vector.toList z)) hm_6) ?_
    refine TL_nil ?_
    refine TX_block_normal ?_
    refine TX_next ?_
    refine TC_region ?_
    refine TLv (V_move rfl) ?_
    refine TLv (V_bin rfl rfl (fun w => addI w s3.1 1)) ?_
    refine TLv (V_assign rfl) ?_
    obtain ⟨i2, hi2, H⟩ := ltt_elim H
    refine TL_re (d := 19) (v := vi (w64 (s3.1 + 1))) (v' := vi i2) rfl (congrArg vi hi2) ?_
    refine TL_nil ?_
    refine TX.sub (m' := [(6, ptr (some (b3, 0)) 0), (7, ptr (some (b4, 0)) 0), (9, ptr (some (b5, 0)) 0), (18, ptr (some (b6, 0)) 0), (19, vi i2)]) ⟨rfl, rfl, rfl, rfl, rfl, trivial⟩ ?_
    refine TX.pull (is := [0, 0, 0, 0]) (L' := [⟨some (b3, 0), e32 ((replicate 8 0#32).toList)⟩, ⟨some (b4, 0), e32 r_1.toList⟩, ⟨some (b5, 0), e64 t_1.toList⟩, ⟨some (b6, 0), e32 m_6.toList⟩]) rfl ?_
    obtain rfl := Option.some.inj H
    exact fun a w hs => hK (i2, m_6) rfl () a w hs
   ·replace H := ite_f (of_decide_eq_false hc) H
    refine TC_exit ?_
    refine TX_then_exit ?_
    refine TX_then_exit ?_
    refine TX.sub (m' := [(6, ptr (some (b3, 0)) 0), (7, ptr (some (b4, 0)) 0), (9, ptr (some (b5, 0)) 0), (18, ptr (some (b6, 0)) 0)]) ⟨rfl, rfl, rfl, rfl, trivial⟩ ?_
    refine TX.pull (is := [0, 0, 0, 0]) (L' := [⟨some (b3, 0), e32 ((replicate 8 0#32).toList)⟩, ⟨some (b4, 0), e32 r_1.toList⟩, ⟨some (b5, 0), e64 t_1.toList⟩, ⟨some (b6, 0), e32 s3.2.toList⟩]) rfl ?_
    obtain rfl := Option.some.inj H
    exact hE s3.2 rfl ()
  ·intro g
   refine TX_block_exit ?_
   refine TX_next ?_
   refine TC_seq ?_
   refine TC_seq ?_
   refine TC_region ?_
   refine TLv (V_idxArr (i := 8) rfl rfl Try.underlying107 TryI.inf55 rfl (by decide) (by decide) (k := 8) (k01 _)) ?_
   refine TLv (V_load rfl (.o 2) (get_vec (f := v64) (V := t_1) (by decide : 8 < 10)) Try.isAgg55) ?_
   refine TLv (V_bin rfl rfl (fun w => gtr64 w (vg t_1 8) 0#64)) ?_
   refine TLv (V_move rfl) ?_
   obtain ⟨j3, Hj, H⟩ := bind_elim H
   refine TL_join (Γ := Unit) (fun gj3 => [(6, ptr (some (b3, 0)) 0), (7, ptr (some (b4, 0)) 0), (18, ptr (some (b6, 0)) 0), (132, vb j3)]) (fun gj3 => [⟨some (b3, 0), e32 ((replicate 8 0#32).toList)⟩, ⟨some (b4, 0), e32 r_1.toList⟩, ⟨some (b6, 0), e32 t_4.toList⟩]) ?_ ?_
   ·intro gj3
    refine TX_next ?_
    refine TC_cond (b := j3) rfl (fun hc => ?_) (fun hc => ?_)
    ·replace H := ite_t hc H
     refine TC_region ?_
     refine TLv (V_lag (.o 2) Try.isAgg31 TryI.inf31) ?_
     refine TLv (V_lag (.o 1) Try.isAgg31 TryI.inf31) ?_
     obtain ⟨r_3, hr_3, H⟩ := bind_elim H
     refine TLe (E_c0 (F82_calls t_4 r_1 r_3 hr_3) Try.call82 .z) (fun g_3 => ?_)
     refine TLn (E_sv (vs := e32 r_3.toList) 2 TryI.inf31) (fun _ => ?_)
     refine TL_nil ?_
     refine TX_next ?_
     refine TC_seq ?_
     refine TC_region ?_
     refine TLv (V_lag (.o 2) Try.isAgg31 TryI.inf31) ?_
     refine TLn (E_sv (vs := e32 r_3.toList) 0 TryI.inf31) (fun _ => ?_)
     refine TL_nil ?_
     refine TX_next ?_
     refine TC_ret ?_
     have hrv := Option.some.inj H
     subst hrv
     exact TX_ret (rs := [.cell 6 31]) (vs := [aG [(8, e32 r_3.toList)]]) rfl ⟨(Res_agg (n := 8) rfl (by simp) (.o 0) Try.isAgg31 TryI.inf31 rfl (lenV (f := v32) r_3)), trivial⟩ (fun w' hs' => ⟨(), rfl, Step.left (Step.pulled (is := []) (A := []) hs' rfl)⟩)
    ·replace H := ite_f (Bool.eq_false_iff.1 hc) H
     refine TC_skip ?_
     refine TX_next ?_
     refine TC_seq ?_
     refine TC_region ?_
     refine TLv (V_lag (.o 2) Try.isAgg31 TryI.inf31) ?_
     refine TLn (E_sv (vs := e32 t_4.toList) 0 TryI.inf31) (fun _ => ?_)
     refine TL_nil ?_
     refine TX_next ?_
     refine TC_ret ?_
     have hrv := Option.some.inj H
     subst hrv
     exact TX_ret (rs := [.cell 6 31]) (vs := [aG [(8, e32 t_4.toList)]]) rfl ⟨(Res_agg (n := 8) rfl (by simp) (.o 0) Try.isAgg31 TryI.inf31 rfl (lenV (f := v32) t_4)), trivial⟩ (fun w' hs' => ⟨(), rfl, Step.left (Step.pulled (is := []) (A := []) hs' rfl)⟩)
   ·intro hJ
    replace H := Hj
    refine TL_fork (d := 127) (b := (decide ((0#64).toNat < ((vg t_1 8)).toNat))) rfl (fun hc => ?_) (fun hc => ?_)
    ·replace H := ite_t (of_decide_eq_true hc) H
     refine TL_skip rfl rfl rfl rfl rfl rfl rfl ?_
     refine TL_skip rfl rfl rfl rfl rfl rfl rfl ?_
     refine TL_skip rfl rfl rfl rfl rfl rfl rfl ?_
     refine TL_skip rfl rfl rfl rfl rfl rfl rfl ?_
     refine TLv (V_pick (b := true) rfl rfl) ?_
     refine TL_nil ?_
     refine TX.sub (m' := [(6, ptr (some (b3, 0)) 0), (7, ptr (some (b4, 0)) 0), (18, ptr (some (b6, 0)) 0), (132, vb true)]) ⟨rfl, rfl, rfl, rfl, trivial⟩ ?_
     refine TX.pull (is := [0, 0, 1]) (L' := [⟨some (b3, 0), e32 ((replicate 8 0#32).toList)⟩, ⟨some (b4, 0), e32 r_1.toList⟩, ⟨some (b6, 0), e32 t_4.toList⟩]) rfl ?_
     obtain rfl := Option.some.inj H
     exact hJ ()
    ·replace H := ite_f (of_decide_eq_false hc) H
     refine TL_want rfl rfl rfl rfl rfl rfl (V_lag (.o 3) Try.isAgg31 TryI.inf31) ?_
     refine TL_want rfl rfl rfl rfl rfl rfl (V_lag (.o 1) Try.isAgg31 TryI.inf31) ?_
     obtain ⟨r_4, hr_4, H⟩ := bind_elim H
     refine TL_wantE rfl rfl rfl rfl rfl rfl (E_c0 (F78_calls t_4 r_1 r_4 hr_4) Try.call78 .z) (fun g_4 => ?_)
     refine TL_want rfl rfl rfl rfl rfl rfl (V_un rfl (fun w => notB w r_4)) ?_
     refine TLv (V_pick (b := false) rfl rfl) ?_
     refine TL_nil ?_
     refine TX.sub (m' := [(6, ptr (some (b3, 0)) 0), (7, ptr (some (b4, 0)) 0), (18, ptr (some (b6, 0)) 0), (132, vb (!r_4))]) ⟨rfl, rfl, rfl, rfl, trivial⟩ ?_
     refine TX.pull (is := [0, 0, 1]) (L' := [⟨some (b3, 0), e32 ((replicate 8 0#32).toList)⟩, ⟨some (b4, 0), e32 r_1.toList⟩, ⟨some (b6, 0), e32 t_4.toList⟩]) rfl ?_
     obtain rfl := Option.some.inj H
     exact hJ ()
end Go.Proofs
end

section
namespace Go.Proofs
open Go Go.Kx
open Vector (replicate)
def halberdref9_into (which : Int) (a_ : Vx 32 8) : Option (Vx 32 8) :=
 (halberdref9_square which).bind fun (r_1 : Vx 32 8) => ((halberdref9_mont which a_ r_1).bind fun (r_2 : Vx 32 8) => (some r_2))
set_option maxHeartbeats 4000000 in
set_option maxRecDepth 20000 in
theorem F46_calls (which : Int) (a_ : Vx 32 8) (r : Vx 32 8) (H : halberdref9_into which a_ = some r) :
  Does Try.prog 46 [vi which, aG [(8, e32 a_.toList)]] [] [] (Γ := Unit) (fun g => aG [(8, e32 r.toList)]) (fun g => []) := by
 intro w hmem hro hd
 refine calls_of (N := 10) (m0 := [(0, vi which), (1, aG [(8, e32 a_.toList)])]) Try.func46 rfl Try.ntmps46 (argM_ok [vi which, aG [(8, e32 a_.toList)]]) rfl hmem hro hd ?_
 unfold halberdref9_into at H
 refine TC_seq ?_
 refine TC_region ?_
 refine TLe (E_boxP [(8, e32 a_.toList)] rfl rfl ⟨(lenV (f := v32) a_), trivial⟩) (fun b1 => ?_)
 refine TLe (E_al32 8 TryI.inf31 TryI.zer31) (fun b2 => ?_)
 refine TL_nil ?_
 refine TX_next ?_
 refine TC_seq ?_
 obtain ⟨r_1, hr_1, H⟩ := bind_elim H
 obtain ⟨r_2, hr_2, H⟩ := bind_elim H
 refine TA_begin [] 6 (by kernel_rfl) (N := 6) rfl ?_
 refine TA_mix (is := []) (done' := dn 6 31) [itV 0 5 (vi which) [], itV 1 6 (aG [(8, e32 a_.toList)]) [], itV 2 7 (vi which) [], itV 3 8 (aG [(8, e32 r_1.toList)]) [2], itV 4 9 (aG [(8, e32 r_2.toList)]) [3, 0, 1]] [] 1 (by kernel_rfl) (QP.then QP.body) (by kernel_rfl) rfl (.v rfl (V_move rfl) (.v rfl (V_lag (.o 1) Try.isAgg31 TryI.inf31) (.v rfl (V_move rfl) (.e rfl (E_cu (F80_calls which r_1 hr_1) Try.call80 .z) (.e rfl (E_cu (F47_calls which a_ r_1 r_2 hr_2) Try.call47 .z) .nil))))) .nil (by kernel_rfl) rfl (fun γ => ?_)
 refine TA_cut [(9, aG [(8, e32 r_2.toList)]), (4, ptr (some (b2, 0)) 0)] [⟨some (b2, 0), e32 ((replicate 8 0#32).toList)⟩, ⟨some (b1, 0), e32 a_.toList⟩] ⟨rfl, rfl, trivial⟩ rfl ?_
 refine TA_all (rs := [5]) (by kernel_rfl) rfl ?_
 refine ⟨?_, trivial⟩
 refine TO_n (is := []) (done' := dn 6 63) rfl rfl rfl (by kernel_rfl) (E_sv (vs := e32 r_2.toList) 0 TryI.inf31) (fun _ _ => rfl) (fun _ => ?_)
 refine TA_done (by kernel_rfl) ?_ 0
 refine TX_next ?_
 refine TC_ret ?_
 have hrv := Option.some.inj H
 subst hrv
 exact TX_ret (rs := [.cell 4 31]) (vs := [aG [(8, e32 r_2.toList)]]) rfl ⟨(Res_agg (n := 8) rfl (by simp) (.o 0) Try.isAgg31 TryI.inf31 rfl (lenV (f := v32) r_2)), trivial⟩ (fun w' hs' => ⟨(), rfl, Step.left (Step.pulled (is := []) (A := []) hs' rfl)⟩)
end Go.Proofs
end

section
namespace Go.Proofs
open Go Go.Kx
open Vector (replicate)
def halberdref9_out (which : Int) (a_ : Vx 32 8) : Option (Vx 32 8) :=
 (halberdref9_mont which a_ (vp (replicate 8 0#32) 0 1#32 : Vx 32 8)).bind fun (r_1 : Vx 32 8) => (some r_1)
set_option maxHeartbeats 4000000 in
set_option maxRecDepth 20000 in
theorem F92_calls (which : Int) (a_ : Vx 32 8) (r : Vx 32 8) (H : halberdref9_out which a_ = some r) :
  Does Try.prog 92 [vi which, aG [(8, e32 a_.toList)]] [] [] (Γ := Unit) (fun g => aG [(8, e32 r.toList)]) (fun g => []) := by
 intro w hmem hro hd
 refine calls_of (N := 9) (m0 := [(0, vi which), (1, aG [(8, e32 a_.toList)])]) Try.func92 rfl Try.ntmps92 (argM_ok [vi which, aG [(8, e32 a_.toList)]]) rfl hmem hro hd ?_
 unfold halberdref9_out at H
 refine TC_seq ?_
 refine TC_region ?_
 refine TLe (E_boxP [(8, e32 a_.toList)] rfl rfl ⟨(lenV (f := v32) a_), trivial⟩) (fun b1 => ?_)
 refine TLe (E_al32 8 TryI.inf31 TryI.zer31) (fun b2 => ?_)
 refine TL_nil ?_
 refine TX_next ?_
 refine TC_seq ?_
 refine TC_region ?_
 refine TLv (V_move rfl) ?_
 refine TLv (V_lag (.o 1) Try.isAgg31 TryI.inf31) ?_
 refine TLv (V_buildArr (pv := [(0, v32 1#32)]) rfl rfl Try.underlying31 TryI.inf31 TryI.inf29 rfl TryI.zer31 (cs := e32 ((vp (replicate 8 0#32) 0 1#32 : Vx 32 8).toList)) (by kernel_rfl)) ?_
 obtain ⟨r_1, hr_1, H⟩ := bind_elim H
 refine TLe (E_c0 (F47_calls which a_ (vp (replicate 8 0#32) 0 1#32 : Vx 32 8) r_1 hr_1) Try.call47 .z) (fun g_1 => ?_)
 refine TLn (E_sv (vs := e32 r_1.toList) 0 TryI.inf31) (fun _ => ?_)
 refine TL_nil ?_
 refine TX_next ?_
 refine TC_ret ?_
 have hrv := Option.some.inj H
 subst hrv
 exact TX_ret (rs := [.cell 4 31]) (vs := [aG [(8, e32 r_1.toList)]]) rfl ⟨(Res_agg (n := 8) rfl (by simp) (.o 0) Try.isAgg31 TryI.inf31 rfl (lenV (f := v32) r_1)), trivial⟩ (fun w' hs' => ⟨(), rfl, Step.left (Step.pulled (is := []) (A := []) hs' rfl)⟩)
end Go.Proofs
end

section
namespace Go.Proofs
open Go Go.Kx
open Vector (replicate)
def halberdref9_mul (which : Int) (a_ : Vx 32 8) (b : Vx 32 8) : Option (Vx 32 8) :=
 (halberdref9_into which a_).bind fun (r_1 : Vx 32 8) => ((halberdref9_mont which r_1 b).bind fun (r_2 : Vx 32 8) => (some r_2))
set_option maxHeartbeats 4000000 in
set_option maxRecDepth 20000 in
theorem F52_calls (which : Int) (a_ : Vx 32 8) (b : Vx 32 8) (r : Vx 32 8) (H : halberdref9_mul which a_ b = some r) :
  Does Try.prog 52 [vi which, aG [(8, e32 a_.toList)], aG [(8, e32 b.toList)]] [] [] (Γ := Unit) (fun g => aG [(8, e32 r.toList)]) (fun g => []) := by
 intro w hmem hro hd
 refine calls_of (N := 13) (m0 := [(0, vi which), (1, aG [(8, e32 a_.toList)]), (2, aG [(8, e32 b.toList)])]) Try.func52 rfl Try.ntmps52 (argM_ok [vi which, aG [(8, e32 a_.toList)], aG [(8, e32 b.toList)]]) rfl hmem hro hd ?_
 unfold halberdref9_mul at H
 refine TC_seq ?_
 refine TC_region ?_
 refine TLe (E_boxP [(8, e32 a_.toList)] rfl rfl ⟨(lenV (f := v32) a_), trivial⟩) (fun b1 => ?_)
 refine TLe (E_boxP [(8, e32 b.toList)] rfl rfl ⟨(lenV (f := v32) b), trivial⟩) (fun b2 => ?_)
 refine TLe (E_al32 8 TryI.inf31 TryI.zer31) (fun b3 => ?_)
 refine TL_nil ?_
 refine TX_next ?_
 refine TC_seq ?_
 obtain ⟨r_1, hr_1, H⟩ := bind_elim H
 obtain ⟨r_2, hr_2, H⟩ := bind_elim H
 refine TA_begin [] 7 (by kernel_rfl) (N := 7) rfl ?_
 refine TA_mix (is := []) (done' := dn 7 63) [itV 0 7 (vi which) [], itV 1 8 (vi which) [], itV 2 9 (aG [(8, e32 a_.toList)]) [], itV 3 10 (aG [(8, e32 r_1.toList)]) [1, 2], itV 4 11 (aG [(8, e32 b.toList)]) [], itV 5 12 (aG [(8, e32 r_2.toList)]) [3, 4, 0]] [] 1 (by kernel_rfl) (QP.then QP.body) (by kernel_rfl) rfl (.v rfl (V_move rfl) (.v rfl (V_move rfl) (.v rfl (V_lag (.o 2) Try.isAgg31 TryI.inf31) (.e rfl (E_cu (F46_calls which a_ r_1 hr_1) Try.call46 .z) (.v rfl (V_lag (.o 1) Try.isAgg31 TryI.inf31) (.e rfl (E_cu (F47_calls which r_1 b r_2 hr_2) Try.call47 .z) .nil)))))) .nil (by kernel_rfl) rfl (fun γ => ?_)
 refine TA_cut [(12, aG [(8, e32 r_2.toList)]), (6, ptr (some (b3, 0)) 0)] [⟨some (b3, 0), e32 ((replicate 8 0#32).toList)⟩, ⟨some (b2, 0), e32 b.toList⟩, ⟨some (b1, 0), e32 a_.toList⟩] ⟨rfl, rfl, trivial⟩ rfl ?_
 refine TA_all (rs := [6]) (by kernel_rfl) rfl ?_
 refine ⟨?_, trivial⟩
 refine TO_n (is := []) (done' := dn 7 127) rfl rfl rfl (by kernel_rfl) (E_sv (vs := e32 r_2.toList) 0 TryI.inf31) (fun _ _ => rfl) (fun _ => ?_)
 refine TA_done (by kernel_rfl) ?_ 0
 refine TX_next ?_
 refine TC_ret ?_
 have hrv := Option.some.inj H
 subst hrv
 exact TX_ret (rs := [.cell 6 31]) (vs := [aG [(8, e32 r_2.toList)]]) rfl ⟨(Res_agg (n := 8) rfl (by simp) (.o 0) Try.isAgg31 TryI.inf31 rfl (lenV (f := v32) r_2)), trivial⟩ (fun w' hs' => ⟨(), rfl, Step.left (Step.pulled (is := []) (A := []) hs' rfl)⟩)
end Go.Proofs
end

section
namespace Go.Proofs
open Go Go.Kx
open Vector (replicate)
def halberdref9_power.b0 (which : Int) (a_ : Vx 32 8) (r_2 : Vx 32 8) (s0 : Int × Vx 32 8) : Option ((Int × Vx 32 8) ⊕ (Vx 32 8)) :=
 if 0 ≤ s0.1 then ((halberdref9_mont which s0.2 s0.2).bind fun (r_4 : Vx 32 8) => (if 0 ≤ w64 (s0.1.tdiv 32) ∧ w64 (s0.1.tdiv 32) < (8 : Int) then (if 0 ≤ s0.1.tmod 32 then (if (((vg r_2 ((w64 (s0.1.tdiv 32)).toNat)) >>> (s0.1.tmod 32).toNat) &&& 1#32) = 1#32 then ((halberdref9_mont which r_4 a_).bind fun (r_5 : Vx 32 8) => (ltt (w64 (s0.1 - 1)) fun (i1 : Int) => (some (.inl (i1, r_5))))) else (ltt (w64 (s0.1 - 1)) fun (i2 : Int) => (some (.inl (i2, r_4))))) else none) else none)) else (some (.inr s0.2))
def halberdref9_power (which : Int) (a_ : Vx 32 8) : Option (Vx 32 8) :=
 (halberdref9_modulus which).bind fun (r_1 : Vx 32 8) => ((halberdref9_minus r_1 (vp (replicate 8 0#32) 0 2#32 : Vx 32 8)).bind fun (r_2 : Vx 32 8) => ((halberdref9_into which (vp (replicate 8 0#32) 0 1#32 : Vx 32 8)).bind fun (r_3 : Vx 32 8) => ((loop (halberdref9_power.b0 which a_ r_2) BIG (255, r_3)).bind fun (t_1 : Vx 32 8) => (some t_1))))
set_option maxHeartbeats 4000000 in
set_option maxRecDepth 20000 in
theorem F91_calls (which : Int) (a_ : Vx 32 8) (r : Vx 32 8) (H : halberdref9_power which a_ = some r) :
  Does Try.prog 91 [vi which, aG [(8, e32 a_.toList)]] [] [] (Γ := Unit) (fun g => aG [(8, e32 r.toList)]) (fun g => []) := by
 intro w hmem hro hd
 refine calls_of (N := 37) (m0 := [(0, vi which), (1, aG [(8, e32 a_.toList)])]) Try.func91 rfl Try.ntmps91 (argM_ok [vi which, aG [(8, e32 a_.toList)]]) rfl hmem hro hd ?_
 unfold halberdref9_power at H
 refine TC_seq ?_
 refine TC_region ?_
 refine TLe (E_boxP [(8, e32 a_.toList)] rfl rfl ⟨(lenV (f := v32) a_), trivial⟩) (fun b1 => ?_)
 refine TLe (E_al32 8 TryI.inf31 TryI.zer31) (fun b2 => ?_)
 refine TL_nil ?_
 refine TX_next ?_
 refine TC_seq ?_
 refine TC_region ?_
 refine TLv (V_move rfl) ?_
 obtain ⟨r_1, hr_1, H⟩ := bind_elim H
 refine TLe (E_c0 (F79_calls which r_1 hr_1) Try.call79 .z) (fun g_1 => ?_)
 refine TLv (V_buildArr (pv := [(0, v32 2#32)]) rfl rfl Try.underlying31 TryI.inf31 TryI.inf29 rfl TryI.zer31 (cs := e32 ((vp (replicate 8 0#32) 0 2#32 : Vx 32 8).toList)) (by kernel_rfl)) ?_
 obtain ⟨r_2, hr_2, H⟩ := bind_elim H
 refine TLe (E_c0 (F82_calls r_1 (vp (replicate 8 0#32) 0 2#32 : Vx 32 8) r_2 hr_2) Try.call82 .z) (fun g_2 => ?_)
 refine TLe (E_al32 8 TryI.inf31 TryI.zer31) (fun b3 => ?_)
 refine TLn (E_sv (vs := e32 r_2.toList) 0 TryI.inf31) (fun _ => ?_)
 refine TL_nil ?_
 refine TX_next ?_
 refine TC_seq ?_
 refine TC_region ?_
 refine TLv (V_move rfl) ?_
 refine TLv (V_buildArr (pv := [(0, v32 1#32)]) rfl rfl Try.underlying31 TryI.inf31 TryI.inf29 rfl TryI.zer31 (cs := e32 ((vp (replicate 8 0#32) 0 1#32 : Vx 32 8).toList)) (by kernel_rfl)) ?_
 obtain ⟨r_3, hr_3, H⟩ := bind_elim H
 refine TLe (E_c0 (F46_calls which (vp (replicate 8 0#32) 0 1#32 : Vx 32 8) r_3 hr_3) Try.call46 .z) (fun g_3 => ?_)
 refine TLe (E_al32 8 TryI.inf31 TryI.zer31) (fun b4 => ?_)
 refine TLn (E_sv (vs := e32 r_3.toList) 0 TryI.inf31) (fun _ => ?_)
 refine TL_nil ?_
 refine TX_next ?_
 refine TC_seq ?_
 refine TC_seq ?_
 refine TC_region ?_
 refine TLv (V_assign rfl) ?_
 refine TL_nil ?_
 refine TX_next ?_
 refine TC_block ?_
 obtain ⟨t_1, Hl, H⟩ := bind_elim H
 refine TC.sub (m' := [(0, vi which), (3, ptr (some (b1, 0)) 0), (4, ptr (some (b2, 0)) 0), (5, ptr (some (b3, 0)) 0), (6, ptr (some (b4, 0)) 0), (7, vi 255)]) ⟨rfl, rfl, rfl, rfl, rfl, rfl, trivial⟩ ?_
 refine TC.pull (is := [3, 2, 1, 0]) (L' := [⟨some (b1, 0), e32 a_.toList⟩, ⟨some (b2, 0), e32 ((replicate 8 0#32).toList)⟩, ⟨some (b3, 0), e32 r_2.toList⟩, ⟨some (b4, 0), e32 r_3.toList⟩]) rfl ?_
 refine TC_loopL (id := 0) (body := (halberdref9_power.b0 which a_ r_2)) (σ := Int × Vx 32 8) (Γ := Unit) (Γx := Unit) (fun s0 g0_ => [(0, vi which), (3, ptr (some (b1, 0)) 0), (4, ptr (some (b2, 0)) 0), (5, ptr (some (b3, 0)) 0), (6, ptr (some (b4, 0)) 0), (7, vi s0.1)]) (fun s0 g0_ => [⟨some (b1, 0), e32 a_.toList⟩, ⟨some (b2, 0), e32 ((replicate 8 0#32).toList)⟩, ⟨some (b3, 0), e32 r_2.toList⟩, ⟨some (b4, 0), e32 s0.2.toList⟩]) (fun t g => [(4, ptr (some (b2, 0)) 0), (6, ptr (some (b4, 0)) 0)]) (fun t g => [⟨some (b2, 0), e32 ((replicate 8 0#32).toList)⟩, ⟨some (b4, 0), e32 t.toList⟩]) ?_ BIG (255, r_3) () t_1 Hl ?_
 ·intro s0 g0_ r1 H K hK hE
  unfold halberdref9_power.b0 at H
  refine TC_seq ?_
  refine TC_seq ?_
  refine TC_region ?_
  refine TLv (V_move rfl) ?_
  refine TLv (V_bin rfl rfl (fun w => geqI w s0.1 0)) ?_
  refine TL_nil ?_
  refine TX_next ?_
  refine TC_cond (b := (decide (0 ≤ s0.1))) rfl (fun hc => ?_) (fun hc => ?_)
  ·replace H := ite_t (of_decide_eq_true hc) H
   refine TC_skip ?_
   refine TX_next ?_
   refine TC_seq ?_
   refine TC_block ?_
   refine TC_seq ?_
   refine TC_region ?_
   refine TLv (V_move rfl) ?_
   refine TLv (V_lag (.o 3) Try.isAgg31 TryI.inf31) ?_
   refine TLv (V_lag (.o 3) Try.isAgg31 TryI.inf31) ?_
   obtain ⟨r_4, hr_4, H⟩ := bind_elim H
   refine TLe (E_c0 (F47_calls which s0.2 s0.2 r_4 hr_4) Try.call47 .z) (fun g_4 => ?_)
   refine TLn (E_sv (vs := e32 r_4.toList) 3 TryI.inf31) (fun _ => ?_)
   refine TL_nil ?_
   refine TX_next ?_
   refine TC_seq ?_
   refine TC_region ?_
   refine TLv (V_move rfl) ?_
   refine TLv (V_bin rfl rfl (fun w => quoI w s0.1 32 (by decide))) ?_
   obtain ⟨h1, H⟩ := if_elim H
   refine TLv (V_idxArr (i := w64 (s0.1.tdiv 32)) rfl rfl Try.underlying31 TryI.inf29 rfl h1.1 h1.2 (k := (w64 (s0.1.tdiv 32)).toNat) (k01 _)) ?_
   refine TLv (V_load rfl (.o 2) (get_vec (f := v32) (V := r_2) (toNat_lt h1.1 h1.2)) Try.isAgg29) ?_
   refine TLv (V_move rfl) ?_
   refine TLv (V_bin rfl rfl (fun w => remI w s0.1 32 (by decide))) ?_
   obtain ⟨h2, H⟩ := if_elim H
   refine TLv (V_bin rfl rfl (fun w => shr32 w (vg r_2 ((w64 (s0.1.tdiv 32)).toNat)) .i64 (s0.1.tmod 32) h2)) ?_
   refine TLv (V_bin rfl rfl (fun w => and32 w ((vg r_2 ((w64 (s0.1.tdiv 32)).toNat)) >>> (s0.1.tmod 32).toNat) 1#32)) ?_
   refine TLv (V_bin rfl rfl (fun w => eql32 w (((vg r_2 ((w64 (s0.1.tdiv 32)).toNat)) >>> (s0.1.tmod 32).toNat) &&& 1#32) 1#32)) ?_
   refine TL_nil ?_
   refine TX_next ?_
   refine TC_cond (b := (decide ((((vg r_2 ((w64 (s0.1.tdiv 32)).toNat)) >>> (s0.1.tmod 32).toNat) &&& 1#32) = 1#32))) rfl (fun hc => ?_) (fun hc => ?_)
   ·replace H := ite_t (of_decide_eq_true hc) H
    refine TC_region ?_
    refine TLv (V_move rfl) ?_
    refine TLv (V_lag (.o 3) Try.isAgg31 TryI.inf31) ?_
    refine TLv (V_lag (.o 0) Try.isAgg31 TryI.inf31) ?_
    obtain ⟨r_5, hr_5, H⟩ := bind_elim H
    refine TLe (E_c0 (F47_calls which r_4 a_ r_5 hr_5) Try.call47 .z) (fun g_5 => ?_)
    refine TLn (E_sv (vs := e32 r_5.toList) 3 TryI.inf31) (fun _ => ?_)
    refine TL_nil ?_
    refine TX_block_normal ?_
    refine TX_next ?_
    refine TC_region ?_
    refine TLv (V_move rfl) ?_
    refine TLv (V_bin rfl rfl (fun w => subI w s0.1 1)) ?_
    refine TLv (V_assign rfl) ?_
    obtain ⟨i1, hi1, H⟩ := ltt_elim H
    refine TL_re (d := 7) (v := vi (w64 (s0.1 - 1))) (v' := vi i1) rfl (congrArg vi hi1) ?_
    refine TL_nil ?_
    refine TX.sub (m' := [(0, vi which), (3, ptr (some (b1, 0)) 0), (4, ptr (some (b2, 0)) 0), (5, ptr (some (b3, 0)) 0), (6, ptr (some (b4, 0)) 0), (7, vi i1)]) ⟨rfl, rfl, rfl, rfl, rfl, rfl, trivial⟩ ?_
    refine TX.pull (is := [0, 0, 0, 0]) (L' := [⟨some (b1, 0), e32 a_.toList⟩, ⟨some (b2, 0), e32 ((replicate 8 0#32).toList)⟩, ⟨some (b3, 0), e32 r_2.toList⟩, ⟨some (b4, 0), e32 r_5.toList⟩]) rfl ?_
    obtain rfl := Option.some.inj H
    exact fun a w hs => hK (i1, r_5) rfl () a w hs
   ·replace H := ite_f (of_decide_eq_false hc) H
    refine TC_skip ?_
    refine TX_block_normal ?_
    refine TX_next ?_
    refine TC_region ?_
    refine TLv (V_move rfl) ?_
    refine TLv (V_bin rfl rfl (fun w => subI w s0.1 1)) ?_
    refine TLv (V_assign rfl) ?_
    obtain ⟨i2, hi2, H⟩ := ltt_elim H
    refine TL_re (d := 7) (v := vi (w64 (s0.1 - 1))) (v' := vi i2) rfl (congrArg vi hi2) ?_
    refine TL_nil ?_
    refine TX.sub (m' := [(0, vi which), (3, ptr (some (b1, 0)) 0), (4, ptr (some (b2, 0)) 0), (5, ptr (some (b3, 0)) 0), (6, ptr (some (b4, 0)) 0), (7, vi i2)]) ⟨rfl, rfl, rfl, rfl, rfl, rfl, trivial⟩ ?_
    refine TX.pull (is := [0, 0, 0, 0]) (L' := [⟨some (b1, 0), e32 a_.toList⟩, ⟨some (b2, 0), e32 ((replicate 8 0#32).toList)⟩, ⟨some (b3, 0), e32 r_2.toList⟩, ⟨some (b4, 0), e32 r_4.toList⟩]) rfl ?_
    obtain rfl := Option.some.inj H
    exact fun a w hs => hK (i2, r_4) rfl () a w hs
  ·replace H := ite_f (of_decide_eq_false hc) H
   refine TC_exit ?_
   refine TX_then_exit ?_
   refine TX_then_exit ?_
   refine TX.sub (m' := [(4, ptr (some (b2, 0)) 0), (6, ptr (some (b4, 0)) 0)]) ⟨rfl, rfl, trivial⟩ ?_
   refine TX.pull (is := [1, 2]) (L' := [⟨some (b2, 0), e32 ((replicate 8 0#32).toList)⟩, ⟨some (b4, 0), e32 s0.2.toList⟩]) rfl ?_
   obtain rfl := Option.some.inj H
   exact hE s0.2 rfl ()
 ·intro g
  refine TX_block_exit ?_
  refine TX_next ?_
  refine TC_seq ?_
  refine TC_region ?_
  refine TLv (V_lag (.o 1) Try.isAgg31 TryI.inf31) ?_
  refine TLn (E_sv (vs := e32 t_1.toList) 0 TryI.inf31) (fun _ => ?_)
  refine TL_nil ?_
  refine TX_next ?_
  refine TC_ret ?_
  have hrv := Option.some.inj H
  subst hrv
  exact TX_ret (rs := [.cell 4 31]) (vs := [aG [(8, e32 t_1.toList)]]) rfl ⟨(Res_agg (n := 8) rfl (by simp) (.o 0) Try.isAgg31 TryI.inf31 rfl (lenV (f := v32) t_1)), trivial⟩ (fun w' hs' => ⟨(), rfl, Step.left (Step.pulled (is := []) (A := []) hs' rfl)⟩)
end Go.Proofs
end

section
namespace Go.Proofs
open Go Go.Kx
def halberdref9_inv (which : Int) (a_ : Vx 32 8) : Option (Vx 32 8) :=
 (halberdref9_into which a_).bind fun (r_1 : Vx 32 8) => ((halberdref9_power which r_1).bind fun (r_2 : Vx 32 8) => ((halberdref9_out which r_2).bind fun (r_3 : Vx 32 8) => (some r_3)))
set_option maxHeartbeats 4000000 in
set_option maxRecDepth 20000 in
theorem F66_calls (which : Int) (a_ : Vx 32 8) (r : Vx 32 8) (H : halberdref9_inv which a_ = some r) :
  Does Try.prog 66 [vi which, aG [(8, e32 a_.toList)]] [] [] (Γ := Unit) (fun g => aG [(8, e32 r.toList)]) (fun g => []) := by
 intro w hmem hro hd
 refine calls_of (N := 12) (m0 := [(0, vi which), (1, aG [(8, e32 a_.toList)])]) Try.func66 rfl Try.ntmps66 (argM_ok [vi which, aG [(8, e32 a_.toList)]]) rfl hmem hro hd ?_
 unfold halberdref9_inv at H
 refine TC_seq ?_
 refine TC_region ?_
 refine TLe (E_boxP [(8, e32 a_.toList)] rfl rfl ⟨(lenV (f := v32) a_), trivial⟩) (fun b1 => ?_)
 refine TLe (E_al32 8 TryI.inf31 TryI.zer31) (fun b2 => ?_)
 refine TL_nil ?_
 refine TX_next ?_
 refine TC_seq ?_
 refine TC_region ?_
 refine TLv (V_move rfl) ?_
 refine TLv (V_move rfl) ?_
 refine TLv (V_move rfl) ?_
 refine TLv (V_lag (.o 1) Try.isAgg31 TryI.inf31) ?_
 obtain ⟨r_1, hr_1, H⟩ := bind_elim H
 refine TLe (E_c0 (F46_calls which a_ r_1 hr_1) Try.call46 .z) (fun g_1 => ?_)
 obtain ⟨r_2, hr_2, H⟩ := bind_elim H
 refine TLe (E_c0 (F91_calls which r_1 r_2 hr_2) Try.call91 .z) (fun g_2 => ?_)
 obtain ⟨r_3, hr_3, H⟩ := bind_elim H
 refine TLe (E_c0 (F92_calls which r_2 r_3 hr_3) Try.call92 .z) (fun g_3 => ?_)
 refine TLn (E_sv (vs := e32 r_3.toList) 0 TryI.inf31) (fun _ => ?_)
 refine TL_nil ?_
 refine TX_next ?_
 refine TC_ret ?_
 have hrv := Option.some.inj H
 subst hrv
 exact TX_ret (rs := [.cell 4 31]) (vs := [aG [(8, e32 r_3.toList)]]) rfl ⟨(Res_agg (n := 8) rfl (by simp) (.o 0) Try.isAgg31 TryI.inf31 rfl (lenV (f := v32) r_3)), trivial⟩ (fun w' hs' => ⟨(), rfl, Step.left (Step.pulled (is := []) (A := []) hs' rfl)⟩)
end Go.Proofs
end

section
namespace Go.Proofs
open Go Go.Kx
open Vector (replicate)
def halberdref9_get.b0 (s_ : Str) (s0 : Int × Vx 32 8) : Option ((Int × Vx 32 8) ⊕ (Vx 32 8)) :=
 if s0.1 < 32 then (if 0 ≤ w64 (7 - (w64 (s0.1.tdiv 4))) ∧ w64 (7 - (w64 (s0.1.tdiv 4))) < (8 : Int) then (if 0 ≤ s0.1 ∧ s0.1 < ((s_).length : Int) then (if 0 ≤ w64 (7 - (w64 (s0.1.tdiv 4))) ∧ w64 (7 - (w64 (s0.1.tdiv 4))) < (8 : Int) then (ltt (vp s0.2 ((w64 (7 - (w64 (s0.1.tdiv 4)))).toNat) (((vg s0.2 ((w64 (7 - (w64 (s0.1.tdiv 4)))).toNat)) <<< 8) ||| ((sg s_ s0.1).setWidth 32))) fun (m_1 : Vx 32 8) => (ltt (w64 (s0.1 + 1)) fun (i1 : Int) => (some (.inl (i1, m_1))))) else none) else none) else none) else (some (.inr s0.2))
def halberdref9_get (s_ : Str) : Option (Vx 32 8) :=
 (loop (halberdref9_get.b0 s_) BIG (0, replicate 8 0#32)).bind fun (t_1 : Vx 32 8) => (some t_1)
set_option maxHeartbeats 4000000 in
set_option maxRecDepth 20000 in
theorem F67_calls (s_ : Str) (r : Vx 32 8) (H : halberdref9_get s_ = some r) :
  Does Try.prog 67 [vs s_] [] [] (Γ := Unit) (fun g => aG [(8, e32 r.toList)]) (fun g => []) := by
 intro w hmem hro hd
 refine calls_of (N := 25) (m0 := [(0, vs s_)]) Try.func67 rfl Try.ntmps67 (argM_ok [vs s_]) rfl hmem hro hd ?_
 unfold halberdref9_get at H
 refine TC_seq ?_
 refine TC_region ?_
 refine TLe (E_al32 8 TryI.inf31 TryI.zer31) (fun b1 => ?_)
 refine TL_nil ?_
 refine TX_next ?_
 refine TC_seq ?_
 refine TC_region ?_
 refine TLe (E_al32 8 TryI.inf31 TryI.zer31) (fun b2 => ?_)
 refine TL_nil ?_
 refine TX_next ?_
 refine TC_seq ?_
 refine TC_seq ?_
 refine TC_region ?_
 refine TLv (V_assign rfl) ?_
 refine TL_nil ?_
 refine TX_next ?_
 refine TC_block ?_
 obtain ⟨t_1, Hl, H⟩ := bind_elim H
 refine TC.sub (m' := [(0, vs s_), (2, ptr (some (b1, 0)) 0), (3, ptr (some (b2, 0)) 0), (4, vi 0)]) ⟨rfl, rfl, rfl, rfl, trivial⟩ ?_
 refine TC.pull (is := [1, 0]) (L' := [⟨some (b1, 0), e32 ((replicate 8 0#32).toList)⟩, ⟨some (b2, 0), e32 ((replicate 8 0#32).toList)⟩]) rfl ?_
 refine TC_loopL (id := 0) (body := (halberdref9_get.b0 s_)) (σ := Int × Vx 32 8) (Γ := Unit) (Γx := Unit) (fun s0 g0_ => [(0, vs s_), (2, ptr (some (b1, 0)) 0), (3, ptr (some (b2, 0)) 0), (4, vi s0.1)]) (fun s0 g0_ => [⟨some (b1, 0), e32 ((replicate 8 0#32).toList)⟩, ⟨some (b2, 0), e32 s0.2.toList⟩]) (fun t g => [(2, ptr (some (b1, 0)) 0), (3, ptr (some (b2, 0)) 0)]) (fun t g => [⟨some (b1, 0), e32 ((replicate 8 0#32).toList)⟩, ⟨some (b2, 0), e32 t.toList⟩]) ?_ BIG (0, replicate 8 0#32) () t_1 Hl ?_
 ·intro s0 g0_ r1 H K hK hE
  unfold halberdref9_get.b0 at H
  refine TC_seq ?_
  refine TC_seq ?_
  refine TC_region ?_
  refine TLv (V_move rfl) ?_
  refine TLv (V_bin rfl rfl (fun w => lssI w s0.1 32)) ?_
  refine TL_nil ?_
  refine TX_next ?_
  refine TC_cond (b := (decide (s0.1 < 32))) rfl (fun hc => ?_) (fun hc => ?_)
  ·replace H := ite_t (of_decide_eq_true hc) H
   refine TC_skip ?_
   refine TX_next ?_
   refine TC_seq ?_
   refine TC_block ?_
   obtain ⟨h1, H⟩ := if_elim H
   obtain ⟨h2, H⟩ := if_elim H
   obtain ⟨h3, H⟩ := if_elim H
   obtain ⟨m_1, hm_1, H⟩ := ltt_elim H
   refine TA_begin [] 16 (by kernel_rfl) (N := 16) rfl ?_
   refine TA_mix (is := []) (done' := dn 16 32767) [itV 0 9 (vi s0.1) [], itV 1 10 (vi (w64 (s0.1.tdiv 4))) [0], itV 2 11 (vi (w64 (7 - (w64 (s0.1.tdiv 4))))) [1], itV 3 12 (vi s0.1) [], itV 4 13 (vi (w64 (s0.1.tdiv 4))) [3], itV 5 14 (vi (w64 (7 - (w64 (s0.1.tdiv 4))))) [4], itV 6 15 (ptr (some (b2, 0)) ((w64 (7 - (w64 (s0.1.tdiv 4)))).toNat)) [5], itV 7 16 (v32 (vg s0.2 ((w64 (7 - (w64 (s0.1.tdiv 4)))).toNat))) [6], itV 8 17 (v32 ((vg s0.2 ((w64 (7 - (w64 (s0.1.tdiv 4)))).toNat)) <<< 8)) [7], itV 9 18 (vs s_) [], itV 10 19 (vi s0.1) [], itV 11 20 (v8 (sg s_ s0.1)) [9, 10], itV 12 21 (v32 ((sg s_ s0.1).setWidth 32)) [11], itV 13 22 (v32 (((vg s0.2 ((w64 (7 - (w64 (s0.1.tdiv 4)))).toNat)) <<< 8) ||| ((sg s_ s0.1).setWidth 32))) [8, 12], itV 14 23 (ptr (some (b2, 0)) ((w64 (7 - (w64 (s0.1.tdiv 4)))).toNat)) [2]] [] 1 (by kernel_rfl) (QP.block (QP.then (QP.then (QP.block (QP.then QP.body))))) (by kernel_rfl) rfl (.v rfl (V_move rfl) (.v rfl (V_bin rfl rfl (fun w => quoI w s0.1 4 (by decide))) (.v rfl (V_bin rfl rfl (fun w => subI w 7 (w64 (s0.1.tdiv 4)))) (.v rfl (V_move rfl) (.v rfl (V_bin rfl rfl (fun w => quoI w s0.1 4 (by decide))) (.v rfl (V_bin rfl rfl (fun w => subI w 7 (w64 (s0.1.tdiv 4)))) (.v rfl (V_idxArr (i := w64 (7 - (w64 (s0.1.tdiv 4)))) rfl rfl Try.underlying31 TryI.inf29 rfl h1.1 h1.2 (k := (w64 (7 - (w64 (s0.1.tdiv 4)))).toNat) (k01 _)) (.v rfl (V_load rfl (.o 1) (get_vec (f := v32) (V := s0.2) (toNat_lt h1.1 h1.2)) Try.isAgg29) (.v rfl (V_bin rfl rfl (fun w => shl32 w (vg s0.2 ((w64 (7 - (w64 (s0.1.tdiv 4)))).toNat)) .u64 8 (by decide))) (.v rfl (V_move rfl) (.v rfl (V_move rfl) (.v rfl (V_idxStr rfl rfl (i := s0.1) Try.underlying9 h2.1 h2.2) (.v rfl (V_conv rfl (fun w => cv8to32 w _ _ Try.underlying29 (TryI.und5) (sg s_ s0.1))) (.v rfl (V_bin rfl rfl (fun w => or32 w ((vg s0.2 ((w64 (7 - (w64 (s0.1.tdiv 4)))).toNat)) <<< 8) ((sg s_ s0.1).setWidth 32))) (.v rfl (V_idxArr (i := w64 (7 - (w64 (s0.1.tdiv 4)))) rfl rfl Try.underlying31 TryI.inf29 rfl h3.1 h3.2 (k := (w64 (7 - (w64 (s0.1.tdiv 4)))).toNat) (k01 _)) .nil))))))))))))))) .nil (by kernel_rfl) rfl (fun γ => ?_)
   refine TA_cut [(23, ptr (some (b2, 0)) ((w64 (7 - (w64 (s0.1.tdiv 4)))).toNat)), (22, v32 (((vg s0.2 ((w64 (7 - (w64 (s0.1.tdiv 4)))).toNat)) <<< 8) ||| ((sg s_ s0.1).setWidth 32))), (0, vs s_), (2, ptr (some (b1, 0)) 0), (3, ptr (some (b2, 0)) 0), (4, vi s0.1)] [⟨some (b1, 0), e32 ((replicate 8 0#32).toList)⟩, ⟨some (b2, 0), e32 s0.2.toList⟩] ⟨rfl, rfl, rfl, rfl, rfl, rfl, trivial⟩ rfl ?_
   refine TA_all (rs := [15]) (by kernel_rfl) rfl ?_
   refine ⟨?_, trivial⟩
   refine TO_n (is := []) (done' := dn 16 65535) rfl rfl rfl (by kernel_rfl) (E_store (j := 1) rfl rfl TryI.inf29 rfl rfl rfl (by simpa using (toNat_lt h3.1 h3.2)) (cs' := e32 ((vp s0.2 ((w64 (7 - (w64 (s0.1.tdiv 4)))).toNat) (((vg s0.2 ((w64 (7 - (w64 (s0.1.tdiv 4)))).toNat)) <<< 8) ||| ((sg s_ s0.1).setWidth 32))).toList)) set_vec) (fun _ _ => rfl) (fun _ => ?_)
   refine TA_reE (j := 1) (A := some (b2, 0)) (cs := e32 ((vp s0.2 ((w64 (7 - (w64 (s0.1.tdiv 4)))).toNat) (((vg s0.2 ((w64 (7 - (w64 (s0.1.tdiv 4)))).toNat)) <<< 8) ||| ((sg s_ s0.1).setWidth 32))).toList)) (cs' := e32 m_1.toList) rfl (congrArg (fun z : Vx 32 8 => e32 (Vector.toList z)) hm_1) ?_
   refine TA_done (by kernel_rfl) ?_ 0
   refine TX_block_normal ?_
   refine TX_next ?_
   refine TC_region ?_
   refine TLv (V_move rfl) ?_
   refine TLv (V_bin rfl rfl (fun w => addI w s0.1 1)) ?_
   refine TLv (V_assign rfl) ?_
   obtain ⟨i1, hi1, H⟩ := ltt_elim H
   refine TL_re (d := 4) (v := vi (w64 (s0.1 + 1))) (v' := vi i1) rfl (congrArg vi hi1) ?_
   refine TL_nil ?_
   refine TX.sub (m' := [(0, vs s_), (2, ptr (some (b1, 0)) 0), (3, ptr (some (b2, 0)) 0), (4, vi i1)]) ⟨rfl, rfl, rfl, rfl, trivial⟩ ?_
   refine TX.pull (is := [0, 0]) (L' := [⟨some (b1, 0), e32 ((replicate 8 0#32).toList)⟩, ⟨some (b2, 0), e32 m_1.toList⟩]) rfl ?_
   obtain rfl := Option.some.inj H
   exact fun a w hs => hK (i1, m_1) rfl () a w hs
  ·replace H := ite_f (of_decide_eq_false hc) H
   refine TC_exit ?_
   refine TX_then_exit ?_
   refine TX_then_exit ?_
   refine TX.sub (m' := [(2, ptr (some (b1, 0)) 0), (3, ptr (some (b2, 0)) 0)]) ⟨rfl, rfl, trivial⟩ ?_
   refine TX.pull (is := [0, 0]) (L' := [⟨some (b1, 0), e32 ((replicate 8 0#32).toList)⟩, ⟨some (b2, 0), e32 s0.2.toList⟩]) rfl ?_
   obtain rfl := Option.some.inj H
   exact hE s0.2 rfl ()
 ·intro g
  refine TX_block_exit ?_
  refine TX_next ?_
  refine TC_seq ?_
  refine TC_region ?_
  refine TLv (V_lag (.o 1) Try.isAgg31 TryI.inf31) ?_
  refine TLn (E_sv (vs := e32 t_1.toList) 0 TryI.inf31) (fun _ => ?_)
  refine TL_nil ?_
  refine TX_next ?_
  refine TC_ret ?_
  have hrv := Option.some.inj H
  subst hrv
  exact TX_ret (rs := [.cell 2 31]) (vs := [aG [(8, e32 t_1.toList)]]) rfl ⟨(Res_agg (n := 8) rfl (by simp) (.o 0) Try.isAgg31 TryI.inf31 rfl (lenV (f := v32) t_1)), trivial⟩ (fun w' hs' => ⟨(), rfl, Step.left (Step.pulled (is := []) (A := []) hs' rfl)⟩)
end Go.Proofs
end

section
namespace Go.Proofs
open Go Go.Kx
def halberdref9_put.b0 (a_ : Vx 32 8) (s0 : Int × List (BitVec 8)) : Option ((Int × List (BitVec 8)) ⊕ (List (BitVec 8))) :=
 if s0.1 < 32 then (if 0 ≤ w64 (7 - (w64 (s0.1.tdiv 4))) ∧ w64 (7 - (w64 (s0.1.tdiv 4))) < (8 : Int) then (if 0 ≤ w64 (24 - (w64 (8 * (s0.1.tmod 4)))) then (if 0 ≤ s0.1 ∧ s0.1 < (32 : Int) then (if (s0.1).toNat < (s0.2).length then (ltt (s0.2.set ((s0.1).toNat) ((((vg a_ ((w64 (7 - (w64 (s0.1.tdiv 4)))).toNat)) >>> (w64 (24 - (w64 (8 * (s0.1.tmod 4))))).toNat) &&& 255#32).setWidth 8)) fun (m_1 : List (BitVec 8)) => (ltt (w64 (s0.1 + 1)) fun (i1 : Int) => (some (.inl (i1, m_1))))) else none) else none) else none) else none) else (some (.inr s0.2))
def halberdref9_put (a_ : Vx 32 8) : Option (Str) :=
 (loop (halberdref9_put.b0 a_) BIG (0, List.replicate 32 0#8)).bind fun (t_1 : List (BitVec 8)) => (if (t_1).length = 32 then (some t_1) else none)
set_option maxHeartbeats 4000000 in
set_option maxRecDepth 20000 in
theorem F51_calls (a_ : Vx 32 8) (r : Str) (H : halberdref9_put a_ = some r) :
  Does Try.prog 51 [aG [(8, e32 a_.toList)]] [] [] (Γ := Unit) (fun g => vs r) (fun g => []) := by
 intro w hmem hro hd
 refine calls_of (N := 27) (m0 := [(0, aG [(8, e32 a_.toList)])]) Try.func51 rfl Try.ntmps51 (argM_ok [aG [(8, e32 a_.toList)]]) rfl hmem hro hd ?_
 unfold halberdref9_put at H
 refine TC_seq ?_
 refine TC_region ?_
 refine TLe (E_boxP [(8, e32 a_.toList)] rfl rfl ⟨(lenV (f := v32) a_), trivial⟩) (fun b1 => ?_)
 refine TLv (V_assign rfl) ?_
 refine TL_nil ?_
 refine TX_next ?_
 refine TC_seq ?_
 refine TC_region ?_
 refine TLe (E_mk1 rfl rfl Try.underlying42 TryI.inf5 (z := v8 0#8) rfl rfl rfl (B := 1) rfl (by decide) (Int.le_refl _) (by decide) (by decide) (n' := 32) (c' := 32) rfl rfl (cs := e8 (List.replicate 32 0#8)) (rep_map (f := v8))) (fun b2 => ?_)
 refine TLv (V_assign rfl) ?_
 refine TL_nil ?_
 refine TX_next ?_
 refine TC_seq ?_
 refine TC_seq ?_
 refine TC_region ?_
 refine TLv (V_assign rfl) ?_
 refine TL_nil ?_
 refine TX_next ?_
 refine TC_block ?_
 obtain ⟨t_1, Hl, H⟩ := bind_elim H
 refine TC.sub (m' := [(1, ptr (some (b1, 0)) 0), (3, sl (some (b2, 0)) 32 32), (4, vi 0)]) ⟨rfl, rfl, rfl, trivial⟩ ?_
 refine TC.pull (is := [1, 0]) (L' := [⟨some (b1, 0), e32 a_.toList⟩, ⟨some (b2, 0), e8 (List.replicate 32 0#8)⟩]) rfl ?_
 refine TC_loopL (id := 0) (body := (halberdref9_put.b0 a_)) (σ := Int × List (BitVec 8)) (Γ := Unit) (Γx := Unit) (fun s0 g0_ => [(1, ptr (some (b1, 0)) 0), (3, sl (some (b2, 0)) 32 32), (4, vi s0.1)]) (fun s0 g0_ => [⟨some (b1, 0), e32 a_.toList⟩, ⟨some (b2, 0), e8 s0.2⟩]) (fun t g => [(3, sl (some (b2, 0)) 32 32)]) (fun t g => [⟨some (b2, 0), e8 t⟩]) ?_ BIG (0, List.replicate 32 0#8) () t_1 Hl ?_
 ·intro s0 g0_ r1 H K hK hE
  unfold halberdref9_put.b0 at H
  refine TC_seq ?_
  refine TC_seq ?_
  refine TC_region ?_
  refine TLv (V_move rfl) ?_
  refine TLv (V_bin rfl rfl (fun w => lssI w s0.1 32)) ?_
  refine TL_nil ?_
  refine TX_next ?_
  refine TC_cond (b := (decide (s0.1 < 32))) rfl (fun hc => ?_) (fun hc => ?_)
  ·replace H := ite_t (of_decide_eq_true hc) H
   refine TC_skip ?_
   refine TX_next ?_
   refine TC_seq ?_
   refine TC_block ?_
   refine TC_region ?_
   refine TLv (V_move rfl) ?_
   refine TLv (V_move rfl) ?_
   refine TLv (V_move rfl) ?_
   refine TLv (V_bin rfl rfl (fun w => quoI w s0.1 4 (by decide))) ?_
   refine TLv (V_bin rfl rfl (fun w => subI w 7 (w64 (s0.1.tdiv 4)))) ?_
   obtain ⟨h1, H⟩ := if_elim H
   refine TLv (V_idxArr (i := w64 (7 - (w64 (s0.1.tdiv 4)))) rfl rfl Try.underlying31 TryI.inf29 rfl h1.1 h1.2 (k := (w64 (7 - (w64 (s0.1.tdiv 4)))).toNat) (k01 _)) ?_
   refine TLv (V_load rfl (.o 0) (get_vec (f := v32) (V := a_) (toNat_lt h1.1 h1.2)) Try.isAgg29) ?_
   refine TLv (V_move rfl) ?_
   refine TLv (V_bin rfl rfl (fun w => remI w s0.1 4 (by decide))) ?_
   refine TLv (V_bin rfl rfl (fun w => mulI w 8 (s0.1.tmod 4))) ?_
   refine TLv (V_bin rfl rfl (fun w => subI w 24 (w64 (8 * (s0.1.tmod 4))))) ?_
   obtain ⟨h2, H⟩ := if_elim H
   refine TLv (V_bin rfl rfl (fun w => shr32 w (vg a_ ((w64 (7 - (w64 (s0.1.tdiv 4)))).toNat)) .i64 (w64 (24 - (w64 (8 * (s0.1.tmod 4))))) h2)) ?_
   refine TLv (V_bin rfl rfl (fun w => and32 w ((vg a_ ((w64 (7 - (w64 (s0.1.tdiv 4)))).toNat)) >>> (w64 (24 - (w64 (8 * (s0.1.tmod 4))))).toNat) 255#32)) ?_
   refine TLv (V_conv rfl (fun w => cv32to8 w _ _ Try.underlying5 (TryI.und29) (((vg a_ ((w64 (7 - (w64 (s0.1.tdiv 4)))).toNat)) >>> (w64 (24 - (w64 (8 * (s0.1.tmod 4))))).toNat) &&& 255#32))) ?_
   obtain ⟨h3, H⟩ := if_elim H
   obtain ⟨h4, H⟩ := if_elim H
   refine TLv (V_idxSl (i := s0.1) rfl rfl Try.underlying42 TryI.inf5 rfl (fun _ h => by cases h) h3.1 h3.2 (k := (s0.1).toNat) (km1 _)) ?_
   refine TLn (E_store (j := 1) rfl rfl TryI.inf5 rfl rfl rfl (by simpa using h4) (cs' := e8 (s0.2.set ((s0.1).toNat) ((((vg a_ ((w64 (7 - (w64 (s0.1.tdiv 4)))).toNat)) >>> (w64 (24 - (w64 (8 * (s0.1.tmod 4))))).toNat) &&& 255#32).setWidth 8))) (set_map (f := v8) (l := s0.2) (k := ((s0.1).toNat)) (x := ((((vg a_ ((w64 (7 - (w64 (s0.1.tdiv 4)))).toNat)) >>> (w64 (24 - (w64 (8 * (s0.1.tmod 4))))).toNat) &&& 255#32).setWidth 8)))) (fun _ => ?_)
   obtain ⟨m_1, hm_1, H⟩ := ltt_elim H
   refine TL_reE (j := 1) (A := some (b2, 0)) (cs := e8 (s0.2.set ((s0.1).toNat) ((((vg a_ ((w64 (7 - (w64 (s0.1.tdiv 4)))).toNat)) >>> (w64 (24 - (w64 (8 * (s0.1.tmod 4))))).toNat) &&& 255#32).setWidth 8))) (cs' := e8 m_1) rfl (congrArg (e8) hm_1) ?_
   refine TL_nil ?_
   refine TX_block_normal ?_
   refine TX_next ?_
   refine TC_region ?_
   refine TLv (V_move rfl) ?_
   refine TLv (V_bin rfl rfl (fun w => addI w s0.1 1)) ?_
   refine TLv (V_assign rfl) ?_
   obtain ⟨i1, hi1, H⟩ := ltt_elim H
   refine TL_re (d := 4) (v := vi (w64 (s0.1 + 1))) (v' := vi i1) rfl (congrArg vi hi1) ?_
   refine TL_nil ?_
   refine TX.sub (m' := [(1, ptr (some (b1, 0)) 0), (3, sl (some (b2, 0)) 32 32), (4, vi i1)]) ⟨rfl, rfl, rfl, trivial⟩ ?_
   refine TX.pull (is := [0, 0]) (L' := [⟨some (b1, 0), e32 a_.toList⟩, ⟨some (b2, 0), e8 m_1⟩]) rfl ?_
   obtain rfl := Option.some.inj H
   exact fun a w hs => hK (i1, m_1) rfl () a w hs
  ·replace H := ite_f (of_decide_eq_false hc) H
   refine TC_exit ?_
   refine TX_then_exit ?_
   refine TX_then_exit ?_
   refine TX.sub (m' := [(3, sl (some (b2, 0)) 32 32)]) ⟨rfl, trivial⟩ ?_
   refine TX.pull (is := [1]) (L' := [⟨some (b2, 0), e8 s0.2⟩]) rfl ?_
   obtain rfl := Option.some.inj H
   exact hE s0.2 rfl ()
 ·intro g
  refine TX_block_exit ?_
  refine TX_next ?_
  refine TC_seq ?_
  refine TC_region ?_
  refine TLv (V_move rfl) ?_
  obtain ⟨h5, H⟩ := if_elim H
  refine TLv (V_b2s rfl Try.underlying42 Try.underlying5 Try.underlying9 (.o 0) h5) ?_
  refine TLv (V_assign rfl) ?_
  refine TL_nil ?_
  refine TX_next ?_
  refine TC_ret ?_
  have hrv := Option.some.inj H
  subst hrv
  exact TX_ret (rs := [.tmp 2]) (vs := [vs t_1]) rfl ⟨rfl, trivial⟩ (fun w' hs' => ⟨(), rfl, Step.left (Step.pulled (is := []) (A := []) hs' rfl)⟩)
end Go.Proofs
end

section
namespace Go.Proofs
open Go Go.Kx
open Vector (replicate)
def halberdref9_Number (which : Int) (s_ : Str) : Option (Vx 32 8 × Bool) :=
 (if which < 0 then (some true) else (if 2 < which then (some true) else (some (decide (((s_).length : Int) ≠ 32))))).bind fun (j1 : Bool) => (if j1 = true then (ltt ((replicate 8 0#32 : Vx 32 8)) fun (m_1 : Vx 32 8) => (some (m_1, false))) else ((halberdref9_get s_).bind fun (r_1 : Vx 32 8) => ((halberdref9_modulus which).bind fun (r_2 : Vx 32 8) => ((halberdref9_less r_1 r_2).bind fun (r_3 : Bool) => (some (r_1, r_3))))))
set_option maxHeartbeats 4000000 in
set_option maxRecDepth 20000 in
theorem F45_calls (which : Int) (s_ : Str) (r : Vx 32 8 × Bool) (H : halberdref9_Number which s_ = some r) :
  Does Try.prog 45 [vi which, vs s_] [] [] (Γ := Unit) (fun g => Value.tuple [aG [(8, e32 r.1.toList)], vb r.2].toArray) (fun g => []) := by
 intro w hmem hro hd
 refine calls_of (N := 26) (m0 := [(0, vi which), (1, vs s_)]) Try.func45 rfl Try.ntmps45 (argM_ok [vi which, vs s_]) rfl hmem hro hd ?_
 unfold halberdref9_Number at H
 refine TC_seq ?_
 refine TC_region ?_
 refine TLe (E_al32 8 TryI.inf31 TryI.zer31) (fun b1 => ?_)
 refine TLv (V_assign rfl) ?_
 refine TL_nil ?_
 refine TX_next ?_
 refine TC_seq ?_
 refine TC_seq ?_
 refine TC_region ?_
 refine TLv (V_move rfl) ?_
 refine TLv (V_bin rfl rfl (fun w => lssI w which 0)) ?_
 refine TLv (V_move rfl) ?_
 obtain ⟨j1, Hj, H⟩ := bind_elim H
 refine TL_join (Γ := Unit) (fun gj1 => [(0, vi which), (1, vs s_), (4, ptr (some (b1, 0)) 0), (17, vb j1)]) (fun gj1 => [⟨some (b1, 0), e32 ((replicate 8 0#32).toList)⟩]) ?_ ?_
 ·intro gj1
  refine TX_next ?_
  refine TC_cond (b := j1) rfl (fun hc => ?_) (fun hc => ?_)
  ·replace H := ite_t hc H
   refine TC_seq ?_
   refine TC_region ?_
   refine TLv (V_buildArr (pv := []) rfl rfl Try.underlying31 TryI.inf31 TryI.inf29 rfl TryI.zer31 (cs := e32 ((replicate 8 0#32 : Vx 32 8).toList)) (by kernel_rfl)) ?_
   refine TLn (E_sv 0 TryI.inf31) (fun _ => ?_)
   obtain ⟨m_1, hm_1, H⟩ := ltt_elim H
   refine TL_reE (j := 0) (A := some (b1, 0)) (cs := e32 ((replicate 8 0#32 : Vx 32 8).toList)) (cs' := e32 m_1.toList) rfl (congrArg (fun z : Vx 32 8 => e32 (Vector.toList z)) hm_1) ?_
   refine TLv (V_assign rfl) ?_
   refine TL_nil ?_
   refine TX_next ?_
   refine TC_ret ?_
   refine TX_then_ret ?_
   have hrv := Option.some.inj H
   subst hrv
   exact TX_ret (rs := [.cell 4 31, .tmp 5]) (vs := [aG [(8, e32 m_1.toList)], vb false]) rfl ⟨(Res_agg (n := 8) rfl (by simp) (.o 0) Try.isAgg31 TryI.inf31 rfl (lenV (f := v32) m_1)), rfl, trivial⟩ (fun w' hs' => ⟨(), rfl, Step.left (Step.pulled (is := []) (A := []) hs' rfl)⟩)
  ·replace H := ite_f (Bool.eq_false_iff.1 hc) H
   refine TC_skip ?_
   refine TX_next ?_
   refine TC_seq ?_
   refine TC_region ?_
   refine TLv (V_move rfl) ?_
   obtain ⟨r_1, hr_1, H⟩ := bind_elim H
   refine TLe (E_c0 (F67_calls s_ r_1 hr_1) Try.call67 .z) (fun g_1 => ?_)
   refine TLe (E_al32 8 TryI.inf31 TryI.zer31) (fun b2 => ?_)
   refine TLn (E_sv (vs := e32 r_1.toList) 0 TryI.inf31) (fun _ => ?_)
   refine TL_nil ?_
   refine TX_next ?_
   refine TC_seq ?_
   obtain ⟨r_2, hr_2, H⟩ := bind_elim H
   obtain ⟨r_3, hr_3, H⟩ := bind_elim H
   refine TA_begin [] 7 (by kernel_rfl) (N := 7) rfl ?_
   refine TA_mix (is := []) (done' := dn 7 31) [itV 0 21 (aG [(8, e32 r_1.toList)]) [], itV 1 22 (aG [(8, e32 r_1.toList)]) [], itV 2 23 (vi which) [], itV 3 24 (aG [(8, e32 r_2.toList)]) [2], itV 4 25 (vb r_3) [3, 1]] [] 2 (by kernel_rfl) (QP.then QP.body) (by kernel_rfl) rfl (.v rfl (V_lag (.o 0) Try.isAgg31 TryI.inf31) (.v rfl (V_lag (.o 0) Try.isAgg31 TryI.inf31) (.v rfl (V_move rfl) (.e rfl (E_cu (F79_calls which r_2 hr_2) Try.call79 .z) (.e rfl (E_cu (F78_calls r_1 r_2 r_3 hr_3) Try.call78 .z) .nil))))) .nil (by kernel_rfl) rfl (fun γ => ?_)
   refine TA_cut [(25, vb r_3), (21, aG [(8, e32 r_1.toList)]), (4, ptr (some (b1, 0)) 0)] [⟨some (b2, 0), e32 r_1.toList⟩, ⟨some (b1, 0), e32 ((replicate 8 0#32).toList)⟩] ⟨rfl, rfl, rfl, trivial⟩ rfl ?_
   refine TA_all (rs := [5]) (by kernel_rfl) rfl ?_
   refine ⟨?_, trivial⟩
   refine TO_n (is := []) (done' := dn 7 63) rfl rfl rfl (by kernel_rfl) (E_sv (vs := e32 r_1.toList) 1 TryI.inf31) (fun _ _ => rfl) (fun _ => ?_)
   refine TA_all (rs := [6]) (by kernel_rfl) rfl ?_
   refine ⟨?_, trivial⟩
   refine TO_v (is := []) (done' := dn 7 127) rfl rfl rfl rfl (by kernel_rfl) (V_assign rfl) (fun _ => rfl) ?_
   refine TA_done (by kernel_rfl) ?_ 0
   refine TX_next ?_
   refine TC_ret ?_
   have hrv := Option.some.inj H
   subst hrv
   exact TX_ret (rs := [.cell 4 31, .tmp 5]) (vs := [aG [(8, e32 r_1.toList)], vb r_3]) rfl ⟨(Res_agg (n := 8) rfl (by simp) (.o 1) Try.isAgg31 TryI.inf31 rfl (lenV (f := v32) r_1)), rfl, trivial⟩ (fun w' hs' => ⟨(), rfl, Step.left (Step.pulled (is := []) (A := []) hs' rfl)⟩)
 ·intro hJ
  replace H := Hj
  refine TL_fork (d := 9) (b := (decide (which < 0))) rfl (fun hc => ?_) (fun hc => ?_)
  ·replace H := ite_t (of_decide_eq_true hc) H
   refine TL_skip rfl rfl rfl rfl rfl rfl rfl ?_
   refine TL_skip rfl rfl rfl rfl rfl rfl rfl ?_
   refine TLv (V_pick (b := true) rfl rfl) ?_
   refine TLv (V_move rfl) ?_
   refine TL_skip rfl rfl rfl rfl rfl rfl rfl ?_
   refine TL_skip rfl rfl rfl rfl rfl rfl rfl ?_
   refine TL_skip rfl rfl rfl rfl rfl rfl rfl ?_
   refine TLv (V_pick (b := true) rfl rfl) ?_
   refine TL_nil ?_
   refine TX.sub (m' := [(0, vi which), (1, vs s_), (4, ptr (some (b1, 0)) 0), (17, vb true)]) ⟨rfl, rfl, rfl, rfl, trivial⟩ ?_
   refine TX.pull (is := [0]) (L' := [⟨some (b1, 0), e32 ((replicate 8 0#32).toList)⟩]) rfl ?_
   obtain rfl := Option.some.inj H
   exact hJ ()
  ·replace H := ite_f (of_decide_eq_false hc) H
   refine TL_want rfl rfl rfl rfl rfl rfl (V_move rfl) ?_
   refine TL_want rfl rfl rfl rfl rfl rfl (V_bin rfl rfl (fun w => gtrI w which 2)) ?_
   refine TLv (V_pick (b := false) rfl rfl) ?_
   refine TLv (V_move rfl) ?_
   refine TL_fork (d := 13) (b := (decide (2 < which))) rfl (fun hc => ?_) (fun hc => ?_)
   ·replace H := ite_t (of_decide_eq_true hc) H
    refine TL_skip rfl rfl rfl rfl rfl rfl rfl ?_
    refine TL_skip rfl rfl rfl rfl rfl rfl rfl ?_
    refine TL_skip rfl rfl rfl rfl rfl rfl rfl ?_
    refine TLv (V_pick (b := true) rfl rfl) ?_
    refine TL_nil ?_
    refine TX.sub (m' := [(0, vi which), (1, vs s_), (4, ptr (some (b1, 0)) 0), (17, vb true)]) ⟨rfl, rfl, rfl, rfl, trivial⟩ ?_
    refine TX.pull (is := [0]) (L' := [⟨some (b1, 0), e32 ((replicate 8 0#32).toList)⟩]) rfl ?_
    obtain rfl := Option.some.inj H
    exact hJ ()
   ·replace H := ite_f (of_decide_eq_false hc) H
    refine TL_want rfl rfl rfl rfl rfl rfl (V_move rfl) ?_
    refine TL_want rfl rfl rfl rfl rfl rfl (V_len_str rfl Try.underlying9) ?_
    refine TL_want rfl rfl rfl rfl rfl rfl (V_bin rfl rfl (fun w => neqI w ((s_).length : Int) 32)) ?_
    refine TLv (V_pick (b := false) rfl rfl) ?_
    refine TL_nil ?_
    refine TX.sub (m' := [(0, vi which), (1, vs s_), (4, ptr (some (b1, 0)) 0), (17, vb (decide (((s_).length : Int) ≠ 32)))]) ⟨rfl, rfl, rfl, rfl, trivial⟩ ?_
    refine TX.pull (is := [0]) (L' := [⟨some (b1, 0), e32 ((replicate 8 0#32).toList)⟩]) rfl ?_
    obtain rfl := Option.some.inj H
    exact hJ ()
end Go.Proofs
end

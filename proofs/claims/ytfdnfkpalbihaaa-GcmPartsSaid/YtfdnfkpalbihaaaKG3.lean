/-
  Part KG3 of the proofs of this seat: GcmA, GcmB, GcmC, GcmW, GcmD.
-/
import Derived.Test.YtfdnfkpalbihaaaK2
import Derived.Test.YtfdnfkpalbihaaaKG1
import Derived.Test.YtfdnfkpalbihaaaKG2
import Derived.Test.YtfdnfkpalbihaaaKA3
section
/-
  The field of GHASH: products by tables are products bit by bit.
-/
namespace Go.Proofs
open Go Go.Kx
set_option linter.unusedVariables false
set_option linter.unusedSimpArgs false
abbrev E2 := BitVec 64 × BitVec 64
def xr (a b : E2) : E2 := (a.1 ^^^ b.1, a.2 ^^^ b.2)
def z2 : E2 := (0#64, 0#64)
theorem xr_comm (a b : E2) : xr a b = xr b a := by simp [xr, BitVec.xor_comm]
theorem xr_assoc (a b c : E2) : xr (xr a b) c = xr a (xr b c) := by simp [xr, BitVec.xor_assoc]
theorem xr_zero (a : E2) : xr a z2 = a := by simp [xr, z2]
theorem zero_xr (a : E2) : xr z2 a = a := by simp [xr, z2]
theorem xr_self (a : E2) : xr a a = z2 := by simp [xr, z2]
theorem xr_swap (a b c d : E2) : xr (xr a b) (xr c d) = xr (xr a c) (xr b d) := by
  rw [xr_assoc, xr_assoc, ← xr_assoc b, xr_comm b c, xr_assoc c]
def half (e : E2) : E2 := ((e.1 >>> 1) ^^^ (16212958658533785600#64 &&& (-(e.2 &&& 1#64))), (e.2 >>> 1) ||| (e.1 <<< 63))
theorem half_eq (a b : BitVec 64) : gcm_element_half a b = some (half (a, b)) := rfl
theorem or_xor63 (x y : BitVec 64) : (x >>> 1) ||| (y <<< 63) = (x >>> 1) ^^^ (y <<< 63) := by
  apply BitVec.eq_of_getLsbD_eq
  intro i hi
  simp only [BitVec.getLsbD_or, BitVec.getLsbD_xor, BitVec.getLsbD_ushiftRight, BitVec.getLsbD_shiftLeft]
  by_cases h : i < 63
  · simp [h]
  · have : i = 63 := by omega
    subst this
    simp
theorem and1 (x : BitVec 64) : x &&& 1#64 = if x.getLsbD 0 then 1#64 else 0#64 := by
  rw [BitVec.and_one_eq_setWidth_ofBool_getLsbD]
  cases x.getLsbD 0 <;> rfl
theorem mask_xor (c x y : BitVec 64) : c &&& (-((x ^^^ y) &&& 1#64)) = (c &&& (-(x &&& 1#64))) ^^^ (c &&& (-(y &&& 1#64))) := by
  rw [and1, and1, and1, BitVec.getLsbD_xor]
  cases x.getLsbD 0 <;> cases y.getLsbD 0 <;> simp
theorem half_xr (a b : E2) : half (xr a b) = xr (half a) (half b) := by
  unfold half xr
  refine Prod.ext ?_ ?_
  · simp only
    rw [BitVec.ushiftRight_xor_distrib, mask_xor]
    simp only [BitVec.xor_assoc]
    rw [← BitVec.xor_assoc (b.1 >>> 1), BitVec.xor_comm (b.1 >>> 1), BitVec.xor_assoc]
  · simp only
    rw [or_xor63, or_xor63, or_xor63, BitVec.ushiftRight_xor_distrib, BitVec.shiftLeft_xor_distrib]
    simp only [BitVec.xor_assoc]
    rw [← BitVec.xor_assoc (b.2 >>> 1), BitVec.xor_comm (b.2 >>> 1), BitVec.xor_assoc]
theorem half_zero : half z2 = z2 := by decide
def hp : Nat → E2 → E2
  | 0, e => e
  | n + 1, e => half (hp n e)
theorem hp_xr (a b : E2) : ∀ n, hp n (xr a b) = xr (hp n a) (hp n b)
  | 0 => rfl
  | n + 1 => by simp only [hp]; rw [hp_xr a b n, half_xr]
theorem hp_zero : ∀ n, hp n z2 = z2
  | 0 => rfl
  | n + 1 => by simp only [hp]; rw [hp_zero n, half_zero]
def sel (b : Bool) (e : E2) : E2 := if b then e else z2
theorem half_sel (b : Bool) (e : E2) : half (sel b e) = sel b (half e) := by cases b <;> simp [sel, half_zero]
def bitE (a : E2) (i : Nat) : Bool := if i < 64 then a.1.getLsbD (63 - i) else a.2.getLsbD (127 - i)
theorem bitE_xr (a b : E2) (i : Nat) : bitE (xr a b) i = (bitE a i ^^ bitE b i) := by
  unfold bitE xr; split <;> simp
/-- The bits from one place on, as many, times powers. -/
def SS (a h : E2) : Nat → Nat → E2
  | m, 0 => z2
  | m, n + 1 => xr (sel (bitE a m) h) (half (SS a h (m + 1) n))
def prod (a h : E2) : E2 := SS a h 0 128
theorem SS_last (a h : E2) : ∀ n m, SS a h m (n + 1) = xr (SS a h m n) (sel (bitE a (m + n)) (hp n h))
  | 0, m => by simp [SS, half_zero, xr_zero, zero_xr, hp]
  | n + 1, m => by
    show xr (sel (bitE a m) h) (half (SS a h (m + 1) (n + 1))) = _
    rw [SS_last a h n (m + 1), half_xr, half_sel, ← xr_assoc]
    have : m + 1 + n = m + (n + 1) := by omega
    rw [this]
    rfl
theorem sel_xr (x y : Bool) (h : E2) : sel (x ^^ y) h = xr (sel x h) (sel y h) := by
  cases x <;> cases y <;> simp [sel, xr_zero, zero_xr, xr_self]
theorem SS_xr (a b h : E2) : ∀ n m, SS (xr a b) h m n = xr (SS a h m n) (SS b h m n)
  | 0, m => by simp [SS, xr_zero]
  | n + 1, m => by
    simp only [SS]
    rw [SS_xr a b h n (m + 1), half_xr, bitE_xr, sel_xr, xr_swap]
theorem prod_xr (a b h : E2) : prod (xr a b) h = xr (prod a h) (prod b h) := SS_xr a b h 128 0
theorem prod_zero (h : E2) : prod z2 h = z2 := by
  have := prod_xr z2 z2 h
  rw [xr_self] at this
  rw [this, xr_self]

/-! The reference's product. -/
theorem ushr63 (x : BitVec 64) : (x >>> 63 = 1#64) ↔ x.getLsbD 63 = true := by
  have hx := x.isLt
  have : x.getLsbD 63 = decide (x.toNat / 2 ^ 63 % 2 = 1) := by rw [← BitVec.testBit_toNat, Nat.testBit_eq_decide_div_mod_eq]
  rw [this, decide_eq_true_iff]
  constructor
  · intro h
    have := congrArg BitVec.toNat h
    simp only [BitVec.toNat_ushiftRight, Nat.shiftRight_eq_div_pow, BitVec.toNat_ofNat] at this
    omega
  · intro h
    apply BitVec.eq_of_toNat_eq
    simp only [BitVec.toNat_ushiftRight, Nat.shiftRight_eq_div_pow, BitVec.toNat_ofNat]
    omega
theorem shl_bit (x : BitVec 64) (i : Nat) (h : i < 64) : (x <<< i).getLsbD 63 = x.getLsbD (63 - i) := by
  rw [BitVec.getLsbD_shiftLeft]
  simp [show ¬ 63 < i by omega]
theorem times_eq (a h : E2) : halberdref4_times a.1 a.2 h.1 h.2 = some (prod a h) := by
  unfold halberdref4_times
  refine bind_i (v := prod a h) (loop_fn (fun i => (a.1 <<< (min i 64), a.2 <<< (i - 64), (hp i h).1, (hp i h).2, (SS a h 0 i).1, (SS a h 0 i).2, (i : Int))) 128 _ (by omega) (by simp [hp, SS, z2]) (fun i hi => ?_) ?_) rfl
  · have e1 : w64 ((i : Int) + 1) = ((i + 1 : Nat) : Int) := w64_add (b := 1) (by omega)
    unfold halberdref4_times.b0
    simp only [e1]
    clear e1
    refine if_i (by omega) (bind_i (v := (a.1 <<< (min (i + 1) 64), a.2 <<< (i + 1 - 64), if i < 64 then (a.1 <<< (min i 64)) >>> 63 else (a.2 <<< (i - 64)) >>> 63)) ?_ ?_)
    · by_cases c : 63 < i
      · refine if_i (by omega) (ltt_i fun b hb => ?_)
        have h1 : i + 1 - 64 = (i - 64) + 1 := by omega
        rw [hb, if_neg (by omega), show min i 64 = 64 by omega, show min (i + 1) 64 = 64 by omega, h1, BitVec.shiftLeft_add]
      · refine if_n (by omega) ?_
        rw [if_pos (by omega), show min i 64 = i by omega, show min (i + 1) 64 = i + 1 by omega, show i + 1 - 64 = 0 by omega, show i - 64 = 0 by omega, BitVec.shiftLeft_add]
    · have hbit : ((if i < 64 then (a.1 <<< (min i 64)) >>> 63 else (a.2 <<< (i - 64)) >>> 63) = 1#64) ↔ bitE a i = true := by
        unfold bitE
        by_cases c : i < 64
        · rw [if_pos c, if_pos c, ushr63, show min i 64 = i by omega, shl_bit _ _ c]
        · rw [if_neg c, if_neg c, ushr63, shl_bit _ _ (by omega), show 63 - (i - 64) = 127 - i by omega]
      have hS : SS a h 0 (i + 1) = xr (SS a h 0 i) (sel (bitE a i) (hp i h)) := by
        have := SS_last a h i 0
        rwa [Nat.zero_add] at this
      refine bind_i (v := SS a h 0 (i + 1)) ?_ ?_
      · by_cases c : bitE a i = true
        · refine if_i (hbit.2 c) (ltt_i fun x hx => ltt_i fun y hy => ?_)
          rw [hx, hy, hS, c]; rfl
        · refine if_n (fun h => c (hbit.1 h)) ?_
          have : bitE a i = false := by simpa using c
          rw [hS, this]
          simp [sel, xr_zero]
      · refine ltt_i fun l hl => ltt_i fun d hd => ltt_i fun c hc => ?_
        have hlow : half (hp i h) = (((hp i h).1 >>> 1) ^^^ (16212958658533785600#64 &&& (-((hp i h).2 &&& 1#64))), ((hp i h).2 >>> 1) ||| ((hp i h).1 <<< 63)) := rfl
        have hh : hp (i + 1) h = half (hp i h) := rfl
        rw [and1] at hl hlow
        by_cases c1 : (hp i h).2.getLsbD 0 = true
        · rw [if_pos c1] at hl hlow
          refine if_i hl (ltt_i fun c2 hc2 => ltt_i fun j hj => ?_)
          rw [hj, hc2, hc, hd, hh, hlow]
          rfl
        · rw [if_neg c1] at hl hlow
          refine if_n (by rw [hl]; decide) (ltt_i fun j hj => ?_)
          rw [hj, hc, hd, hh, hlow]
          simp
  · exact if_n (by show ¬ (((128 : Nat) : Int) < 128); omega) rfl

/-! The program's tables. -/
def tabF (h : E2) (i : Nat) : Nat → E2
  | 0 => z2
  | k + 1 => xr (tabF h i k) (sel (i.testBit (3 - k)) (hp k h))
def tabV (h : E2) (k : Nat) : Vector E2 16 := Vector.ofFn fun i => tabF h i.val k
def foldV : Vector (BitVec 64) 16 := Vector.ofFn fun i => (hp 4 (0#64, BitVec.ofNat 64 i.val)).1
theorem bit_iop : ∀ i : Fin 16, ∀ k : Fin 4, decide (iop (· &&& ·) (i.val : Int) ((8 / 2 ^ k.val : Nat) : Int) ≠ 0) = i.val.testBit (3 - k.val) := by decide +kernel
theorem gsum_b1 (h : E2) (k : Nat) (hk : k < 4) : loop (gcm_newSum.b1 (((8 / 2 ^ k : Nat) : Int), tabV h k, (hp k h).1, (hp k h).2)) BIG (0, tabV h k) = some (tabV h (k + 1)) := by
  refine loop_fill _ (fun i => tabF h i (k + 1)) id (by omega) (fun i v hi hv => ?_) (fun v => ?_)
  · have e1 : w64 ((i : Int) + 1) = ((i + 1 : Nat) : Int) := w64_add (b := 1) (by omega)
    have hb := bit_iop ⟨i, hi⟩ ⟨k, hk⟩
    dsimp only at hb
    have hvi : vg v i = tabF h i k := by rw [hv i (Nat.le_refl _) hi, tabV, vg_ofFn hi]
    unfold gcm_newSum.b1
    simp only [e1, Int.toNat_natCast]
    clear e1
    refine if_i (by omega) ?_
    by_cases c : i.testBit (3 - k) = true
    · rw [c, decide_eq_true_iff] at hb
      refine if_i hb (if_i (by omega) (if_i (by omega) (ltt_i fun m hm => if_i (by omega) (if_i (by omega) (ltt_i fun m2 hm2 => ?_)))))
      have : m2 = vp v i (tabF h i (k + 1)) := by
        rw [hm2, hm, vg_vp hi hi, if_pos rfl, hvi]
        refine vec_ext fun j hj => ?_
        rw [vg_vp hi hj, vg_vp hi hj, vg_vp hi hj]
        by_cases cj : i = j
        · rw [if_pos cj, if_pos cj]
          simp only [tabF, c, sel, xr]; rfl
        · rw [if_neg cj, if_neg cj, if_neg cj]
      rw [this]
    · have cf : i.testBit (3 - k) = false := by simpa using c
      rw [cf, decide_eq_false_iff_not] at hb
      refine if_n hb ?_
      have : v = vp v i (tabF h i (k + 1)) := by
        refine vec_ext fun j hj => ?_
        rw [vg_vp hi hj]
        by_cases cj : i = j
        · rw [if_pos cj, ← cj, hvi]
          simp [tabF, cf, sel, xr_zero]
        · rw [if_neg cj]
      rw [← this]
  · unfold gcm_newSum.b1
    exact if_n (by omega) rfl
theorem gsum_b3 (i : Nat) (hi : i < 16) : loop (gcm_newSum.b3) BIG (0, 0#64, BitVec.ofInt 64 (i : Int)) = some (hp 4 (0#64, BitVec.ofNat 64 i)) := by
  refine loop_fn (fun k => ((k : Int), (hp k (0#64, BitVec.ofNat 64 i)).1, (hp k (0#64, BitVec.ofNat 64 i)).2)) 4 _ (by omega) (by simp [hp, BitVec.ofInt_natCast]) (fun k hk => ?_) ?_
  · have e1 : w64 ((k : Int) + 1) = ((k + 1 : Nat) : Int) := w64_add (b := 1) (by omega)
    unfold gcm_newSum.b3
    simp only [e1]
    refine if_i (by omega) (bind_i (half_eq _ _) rfl)
  · exact if_n (by show ¬ (((4 : Nat) : Int) < 4); omega) rfl
theorem newSum_eq (h : E2) : gcm_newSum h.1 h.2 = some (tabV h 4, foldV) := by
  unfold gcm_newSum
  refine bind_i (v := tabV h 4) (loop_fn (fun k => (((8 / 2 ^ k : Nat) : Int), tabV h k, (hp k h).1, (hp k h).2)) 4 _ (by omega) ?_ (fun k hk => ?_) ?_) (bind_i (v := foldV) ?_ rfl)
  · refine Prod.ext rfl (Prod.ext ?_ rfl)
    refine vec_ext fun i hi => ?_
    rw [vg_eq' hi]
    simp only [Vector.getElem_replicate]
    show _ = vg (tabV h 0) i
    rw [tabV, vg_ofFn hi]; rfl
  · have e1 : w64 (((8 / 2 ^ k : Nat) : Int).tdiv 2) = ((8 / 2 ^ (k + 1) : Nat) : Int) := by
      have := w64_div (a := 8 / 2 ^ k) (b := 2) (by have := Nat.div_le_self 8 (2 ^ k); omega)
      rw [Nat.div_div_eq_div_mul, ← Nat.pow_succ] at this
      exact this
    have hpos : 0 < 8 / 2 ^ k := by
      rcases k with _ | _ | _ | _ | k <;> first | decide | omega
    unfold gcm_newSum.b0
    simp only [e1]
    refine if_i (by omega) (bind_i (gsum_b1 h k hk) (bind_i (half_eq _ _) (ltt_i fun b hb => ?_)))
    rw [hb]; rfl
  · exact if_n (by show ¬ (0 : Int) < ((8 / 2 ^ 4 : Nat) : Int); decide) rfl
  · refine loop_fill _ (fun i => (hp 4 (0#64, BitVec.ofNat 64 i)).1) id (by omega) (fun i v hi hv => ?_) (fun v => ?_)
    · have e1 : w64 ((i : Int) + 1) = ((i + 1 : Nat) : Int) := w64_add (b := 1) (by omega)
      unfold gcm_newSum.b2
      simp only [e1, Int.toNat_natCast]
      refine if_i (by omega) (bind_i (gsum_b3 i hi) (if_i (by omega) (ltt_i fun m hm => ?_)))
      rw [hm]
    · unfold gcm_newSum.b2
      exact if_n (by omega) rfl
theorem fold0 : ∀ i : Fin 16, (hp 4 (0#64, BitVec.ofNat 64 i.val)).2 = 0#64 := by decide +kernel
theorem half_even (a b : BitVec 64) (h : b.getLsbD 0 = false) : half (a, b) = (a >>> 1, (b >>> 1) ||| (a <<< 63)) := by
  unfold half
  simp only
  rw [and1, h]
  simp
theorem hp4_even (a b : BitVec 64) (h : ∀ i, i < 4 → b.getLsbD i = false) : hp 4 (a, b) = (a >>> 4, (b >>> 4) ||| (a <<< 60)) := by
  have h1 : half (a, b) = (a >>> 1, (b >>> 1) ||| (a <<< 63)) := half_even a b (h 0 (by decide))
  have h2 : half (a >>> 1, (b >>> 1) ||| (a <<< 63)) = (a >>> 1 >>> 1, (((b >>> 1) ||| (a <<< 63)) >>> 1) ||| ((a >>> 1) <<< 63)) := half_even _ _ (by simpa [BitVec.getLsbD_ushiftRight] using h 1 (by decide))
  have h3 : half (a >>> 1 >>> 1, (((b >>> 1) ||| (a <<< 63)) >>> 1) ||| ((a >>> 1) <<< 63)) = (a >>> 1 >>> 1 >>> 1, (((((b >>> 1) ||| (a <<< 63)) >>> 1) ||| ((a >>> 1) <<< 63)) >>> 1) ||| ((a >>> 1 >>> 1) <<< 63)) := half_even _ _ (by simpa [BitVec.getLsbD_ushiftRight] using h 2 (by decide))
  have h4 : half (a >>> 1 >>> 1 >>> 1, (((((b >>> 1) ||| (a <<< 63)) >>> 1) ||| ((a >>> 1) <<< 63)) >>> 1) ||| ((a >>> 1 >>> 1) <<< 63)) = (a >>> 1 >>> 1 >>> 1 >>> 1, (((((((b >>> 1) ||| (a <<< 63)) >>> 1) ||| ((a >>> 1) <<< 63)) >>> 1) ||| ((a >>> 1 >>> 1) <<< 63)) >>> 1) ||| ((a >>> 1 >>> 1 >>> 1) <<< 63)) := half_even _ _ (by simpa [BitVec.getLsbD_ushiftRight] using h 3 (by decide))
  show half (half (half (half (a, b)))) = _
  rw [h1, h2, h3, h4]
  refine Prod.ext ?_ ?_
  · simp only [← BitVec.shiftRight_add]
  · simp only
    apply BitVec.eq_of_getLsbD_eq
    intro i hi
    simp only [BitVec.getLsbD_or, BitVec.getLsbD_ushiftRight, BitVec.getLsbD_shiftLeft]
    rcases (by omega : i < 60 ∨ i = 60 ∨ i = 61 ∨ i = 62 ∨ i = 63) with c | c | c | c | c
    · have e : 1 + (1 + (1 + (1 + i))) = 4 + i := by omega
      simp [e, c, show i < 63 by omega, show 1 + i < 63 by omega, show 1 + (1 + i) < 63 by omega, show 1 + (1 + (1 + i)) < 63 by omega]
    all_goals (subst c; simp)
theorem hp4_eq (z : E2) : hp 4 z = ((z.1 >>> 4) ^^^ vg foldV ((z.2 &&& 15#64).toNat), (z.2 >>> 4) ||| (z.1 <<< 60)) := by
  have hv : (z.2 &&& 15#64).toNat < 16 := by
    rw [BitVec.toNat_and]
    exact Nat.lt_of_le_of_lt Nat.and_le_right (by decide)
  have hz : z = xr (z.1, z.2 &&& ~~~15#64) (0#64, z.2 &&& 15#64) := by
    unfold xr
    refine Prod.ext (by simp) ?_
    simp only
    apply BitVec.eq_of_getLsbD_eq
    intro i hi
    simp only [BitVec.getLsbD_xor, BitVec.getLsbD_and, BitVec.getLsbD_not, hi, decide_true, Bool.true_and]
    cases z.2.getLsbD i <;> cases (15#64).getLsbD i <;> rfl
  have he : ∀ i, i < 4 → (z.2 &&& ~~~15#64).getLsbD i = false := by
    intro i hi
    rw [BitVec.getLsbD_and]
    have : (~~~15#64).getLsbD i = false := by
      rcases i with _ | _ | _ | _ | i <;> first | decide | omega
    rw [this, Bool.and_false]
  have h1 := hp4_even z.1 (z.2 &&& ~~~15#64) he
  have h2 : hp 4 (0#64, z.2 &&& 15#64) = (vg foldV ((z.2 &&& 15#64).toNat), 0#64) := by
    have hn : z.2 &&& 15#64 = BitVec.ofNat 64 ((z.2 &&& 15#64).toNat) := by simp
    have := fold0 ⟨_, hv⟩
    dsimp only at this
    rw [foldV, vg_ofFn hv]
    refine Prod.ext ?_ ?_
    · simp only; rw [← hn]
    · simp only; rw [hn]; exact this
  rw [hz, hp_xr, h1, h2, ← hz]
  unfold xr
  refine Prod.ext rfl ?_
  simp only [BitVec.xor_zero]
  congr 1
  apply BitVec.eq_of_getLsbD_eq
  intro i hi
  simp only [BitVec.getLsbD_ushiftRight, BitVec.getLsbD_and, BitVec.getLsbD_not]
  by_cases c : 4 + i < 64
  · have : (15#64).getLsbD (4 + i) = false := by
      show (BitVec.ofNat 64 15).getLsbD (4 + i) = false
      rw [BitVec.getLsbD_ofNat, Nat.testBit_lt_two_pow (Nat.lt_of_lt_of_le (by decide : 15 < 2 ^ 4) (Nat.pow_le_pow_right (by decide) (by omega)))]
      simp
    simp only [c, decide_true, Bool.true_and, this, Bool.not_false, Bool.and_true]
  · rw [BitVec.getLsbD_of_ge z.2 (4 + i) (by omega)]; simp
theorem SS4 (a h : E2) (m n : Nat) : SS a h m (n + 4) = xr (xr (xr (xr (xr z2 (sel (bitE a m) (hp 0 h))) (sel (bitE a (m + 1)) (hp 1 h))) (sel (bitE a (m + 2)) (hp 2 h))) (sel (bitE a (m + 3)) (hp 3 h))) (hp 4 (SS a h (m + 4) n)) := by
  simp only [SS, hp, half_xr, half_sel, zero_xr, xr_assoc]
end Go.Proofs
end

section
/-
  GHASH: the program's sums are the reference's.
-/
namespace Go.Proofs
open Go Go.Kx
set_option linter.unusedVariables false
set_option linter.unusedSimpArgs false
/-- 16 bytes as an element. -/
def ld (s : Str) (a : Nat) : E2 := (be8 s a 8, be8 s (a + 8) 8)
theorem be8_take (s : Str) (a : Nat) : ∀ n, (be8 s a n) = be8 s a n := fun _ => rfl
theorem load_eq (b : Str) (h : 16 ≤ b.length) (h2 : b.length < 1152921504606846976) : gcm_load b = some (ld b 0) := by
  unfold gcm_load
  refine bind_i (v := ld b 0) (loop_fn (fun k => ((k : Int), be8 b 0 k, be8 b 8 k)) 8 _ (by omega) rfl (fun k hk => ?_) ?_) rfl
  · have e1 : w64 ((k : Int) + 1) = ((k + 1 : Nat) : Int) := w64_add (b := 1) (by omega)
    have e2 : w64 (8 + (k : Int)) = ((8 + k : Nat) : Int) := w64_add (a := 8) (by omega)
    unfold gcm_load.b0
    simp only [e1, e2, Int.toNat_natCast, lg_getD]
    clear e1 e2
    refine if_i (by omega) (if_i (by omega) (if_i (by omega) ?_))
    simp only [be8, Nat.zero_add]
  · exact if_n (by show ¬ (((8 : Nat) : Int) < 8); omega) rfl
theorem halves_eq (b : Str) (h : 16 ≤ b.length) (h2 : b.length < 1152921504606846976) : halberdref4_halves b = some (ld b 0) := by
  unfold halberdref4_halves
  refine bind_i (v := ld b 0) (loop_fn (fun k => (be8 b 0 k, be8 b 8 k, (k : Int))) 8 _ (by omega) rfl (fun k hk => ?_) ?_) rfl
  · have e1 : w64 ((k : Int) + 1) = ((k + 1 : Nat) : Int) := w64_add (b := 1) (by omega)
    have e2 : w64 (8 + (k : Int)) = ((8 + k : Nat) : Int) := w64_add (a := 8) (by omega)
    unfold halberdref4_halves.b0
    simp only [e1, e2, Int.toNat_natCast, sg_nat]
    clear e1 e2
    refine if_i (by omega) (if_i (by omega) (ltt_i fun a ha => if_i (by omega) (ltt_i fun b1 hb1 => ltt_i fun i hi => ?_)))
    rw [ha, hb1, hi]
    simp only [be8, Nat.zero_add]
  · exact if_n (by show ¬ (((8 : Nat) : Int) < 8); omega) rfl
/-- An element as 16 bytes. -/
def by16 (e : E2) : Str := hexW e.1 8 ++ hexW e.2 8
theorem by16_length (e : E2) : (by16 e).length = 16 := by simp [by16, hexW_length]
theorem byV_at (e : E2) (i : Nat) (hi : i < 16) : (by16 e).getD i 0#8 = if i < 8 then (e.1 >>> (8 * (7 - i))).setWidth 8 else (e.2 >>> (8 * (7 - (i - 8)))).setWidth 8 := by
  unfold by16 hexW
  rw [List.getD_eq_getElem?_getD, List.getElem?_append]
  by_cases c : i < 8
  · simp [c]
  · simp [c, show i - 8 < 8 by omega]
theorem ebytes_eq (e : E2) : ∃ V : Vector (BitVec 8) 16, V.toList = by16 e ∧ gcm_element_bytes e.1 e.2 = some V := by
  refine ⟨Vector.ofFn fun i => (by16 e).getD i.val 0#8, ?_, ?_⟩
  · refine List.ext_getElem (by simp [by16_length]) fun i h1 h2 => ?_
    simp [List.getD_eq_getElem?_getD, h2]
  · unfold gcm_element_bytes
    have key : ∀ k, k ≤ 8 → ∃ V : Vector (BitVec 8) 16, (∀ i, i < 16 → vg V i = if (i < k ∨ (8 ≤ i ∧ i < 8 + k)) then (by16 e).getD i 0#8 else 0#8) ∧ True := fun k hk =>
      ⟨Vector.ofFn fun i => if (i.val < k ∨ (8 ≤ i.val ∧ i.val < 8 + k)) then (by16 e).getD i.val 0#8 else 0#8, fun i hi => by rw [vg_ofFn hi], trivial⟩
    refine bind_i (loop_fn (fun k => ((k : Int), (Vector.ofFn fun i => if (i.val < k ∨ (8 ≤ i.val ∧ i.val < 8 + k)) then (by16 e).getD i.val 0#8 else 0#8 : Vector (BitVec 8) 16))) 8 _ (by omega) ?_ (fun k hk => ?_) ?_) rfl
    · refine Prod.ext rfl (vec_ext fun i hi => ?_)
      rw [vg_eq' hi, vg_ofFn hi, if_neg (by omega)]
      simp
    · have e1 : w64 ((k : Int) + 1) = ((k + 1 : Nat) : Int) := w64_add (b := 1) (by omega)
      have e2 : w64 (8 + (k : Int)) = ((8 + k : Nat) : Int) := w64_add (a := 8) (by omega)
      have e3 : w64 (8 * (k : Int)) = ((8 * k : Nat) : Int) := w64_mul (a := 8) (by omega)
      have e4 : w64 (56 - ((8 * k : Nat) : Int)) = ((56 - 8 * k : Nat) : Int) := w64_sub (a := 56) (by omega) (by omega)
      unfold gcm_element_bytes.b0
      simp only [e1, e2, e3, e4, Int.toNat_natCast]
      clear e1 e2 e3 e4
      refine if_i (by omega) (if_i (by omega) (if_i (by omega) (if_i (by omega) (ltt_i fun m hm => if_i (by omega) (ltt_i fun m2 hm2 => ?_)))))
      have : m2 = (Vector.ofFn fun i => if (i.val < k + 1 ∨ (8 ≤ i.val ∧ i.val < 8 + (k + 1))) then (by16 e).getD i.val 0#8 else 0#8 : Vector (BitVec 8) 16) := by
        rw [hm2, hm]
        refine vec_ext fun i hi => ?_
        rw [vg_vp (by omega) hi, vg_vp (by omega) hi, vg_ofFn hi, vg_ofFn hi]
        dsimp only
        by_cases c1 : 8 + k = i
        · rw [if_pos c1, if_pos (by omega), byV_at e i hi, if_neg (by omega), show 8 * (7 - (i - 8)) = 56 - 8 * k by omega]
        · rw [if_neg c1]
          by_cases c2 : k = i
          · rw [if_pos c2, if_pos (by omega), byV_at e i hi, if_pos (by omega), show 8 * (7 - i) = 56 - 8 * k by omega]
          · rw [if_neg c2]
            by_cases c3 : (i < k ∨ (8 ≤ i ∧ i < 8 + k))
            · rw [if_pos c3, if_pos (by omega)]
            · rw [if_neg c3, if_neg (by omega)]
      rw [this]
    · refine if_n (by show ¬ (((8 : Nat) : Int) < 8); omega) (congrArg some (congrArg Sum.inr ?_))
      refine vec_ext fun i hi => ?_
      rw [vg_ofFn hi, vg_ofFn hi, if_pos (by omega)]
theorem whole_eq (e : E2) : halberdref4_whole e.1 e.2 = some (by16 e) := by
  unfold halberdref4_whole
  have hl : ∀ k, ((List.range 16).map fun i => if (i + k < 8 ∨ (8 ≤ i ∧ i + k < 16)) then 0#8 else (by16 e).getD i 0#8).length = 16 := fun k => by simp
  refine bind_i (v := by16 e) (loop_fn (fun k => (e.1 >>> (8 * k), e.2 >>> (8 * k), (7 : Int) - k, (List.range 16).map fun i => if (i + k < 8 ∨ (8 ≤ i ∧ i + k < 16)) then 0#8 else (by16 e).getD i 0#8)) 8 _ (by omega) ?_ (fun k hk => ?_) ?_) (if_i (by16_length e) rfl)
  · refine Prod.ext (by simp) (Prod.ext (by simp) (Prod.ext rfl ?_))
    rfl
  · have e1 : w64 (7 - (k : Int) - 1) = 7 - ((k + 1 : Nat) : Int) := by rw [w64_id (by omega) (by omega)]; omega
    have e2 : w64 (8 + (7 - (k : Int))) = ((15 - k : Nat) : Int) := by rw [w64_id (by omega) (by omega)]; omega
    have e3 : (7 - (k : Int)).toNat = 7 - k := by omega
    unfold halberdref4_whole.b0
    simp only [e1, e2, e3, Int.toNat_natCast]
    clear e1 e2 e3
    refine if_i (by omega) (if_i (by omega) (if_i (by rw [hl]; omega) (ltt_i fun m hm => if_i (by omega) (if_i (by rw [hm, List.length_set, hl]; omega) (ltt_i fun m2 hm2 => ltt_i fun j hj => ?_)))))
    have h255 : ∀ x : BitVec 64, (x &&& 255#64).setWidth 8 = x.setWidth 8 := fun x => by
      apply BitVec.eq_of_toNat_eq
      simp only [BitVec.toNat_setWidth, BitVec.toNat_and, BitVec.toNat_ofNat]
      have : x.toNat &&& 255 = x.toNat % 2 ^ 8 := Nat.and_two_pow_sub_one_eq_mod _ 8
      rw [show 255 % 2 ^ 64 = 255 from rfl, this, Nat.mod_mod]
    have : m2 = (List.range 16).map fun i => if (i + (k + 1) < 8 ∨ (8 ≤ i ∧ i + (k + 1) < 16)) then 0#8 else (by16 e).getD i 0#8 := by
      rw [hm2, hm, h255, h255]
      refine List.ext_getElem (by simp) fun i h1 h2 => ?_
      simp only [List.length_map, List.length_range] at h2
      simp only [List.getElem_set, List.getElem_map, List.getElem_range]
      by_cases c1 : 15 - k = i
      · rw [if_pos c1, if_neg (by omega), byV_at e i h2, if_neg (by omega), show 8 * (7 - (i - 8)) = 8 * k by omega]
      · rw [if_neg c1]
        by_cases c2 : 7 - k = i
        · rw [if_pos c2, if_neg (by omega), byV_at e i h2, if_pos (by omega), show 8 * (7 - i) = 8 * k by omega]
        · rw [if_neg c2]
          by_cases c3 : (i + k < 8 ∨ (8 ≤ i ∧ i + k < 16))
          · rw [if_pos c3, if_pos (by omega)]
          · rw [if_neg c3, if_neg (by omega)]
    rw [hj, this, ← BitVec.shiftRight_add, ← BitVec.shiftRight_add, show 8 * k + 8 = 8 * (k + 1) by omega]
  · refine if_n (by show ¬ (0 : Int) ≤ 7 - ((8 : Nat) : Int); omega) (congrArg some (congrArg Sum.inr ?_))
    refine List.ext_getElem (by simp [by16_length]) fun i h1 h2 => ?_
    rw [by16_length] at h2
    simp only [List.getElem_map, List.getElem_range]
    rw [if_neg (by omega), List.getD_eq_getElem?_getD, List.getElem?_eq_getElem (by rw [by16_length]; omega)]
    rfl

/-! One block added. -/
theorem digit_lt (x : BitVec 64) : (x &&& 15#64).toNat < 16 := by
  rw [BitVec.toNat_and]
  exact Nat.lt_of_le_of_lt Nat.and_le_right (by decide)
theorem digit_bit (x : BitVec 64) (s t : Nat) (ht : t < 4) : ((x >>> s) &&& 15#64).toNat.testBit t = x.getLsbD (s + t) := by
  rw [BitVec.toNat_and, Nat.testBit_and, BitVec.testBit_toNat, BitVec.getLsbD_ushiftRight]
  have : (15#64).toNat.testBit t = true := by
    rcases t with _ | _ | _ | _ | t <;> first | decide | omega
  rw [this, Bool.and_true]
theorem add_eq (h y : E2) (b : Str) (hb : 16 ≤ b.length) (hb2 : b.length < 1152921504606846976) : gcm_sum_add (tabV h 4) foldV y.1 y.2 b = some (prod (xr (ld b 0) y) h) := by
  unfold gcm_sum_add
  refine bind_i (load_eq b hb hb2) ?_
  generalize hx : xr (ld b 0) y = x
  have hx1 : (ld b 0).1 ^^^ y.1 = x.1 := by rw [← hx]; rfl
  have hx2 : (ld b 0).2 ^^^ y.2 = x.2 := by rw [← hx]; rfl
  refine bind_i (v := prod x h) (loop_fn (fun i => ((i : Int), (SS x h (128 - 4 * i) (4 * i)).1, (SS x h (128 - 4 * i) (4 * i)).2)) 32 _ (by omega) rfl (fun i hi => ?_) ?_) rfl
  · have e1 : w64 ((i : Int) + 1) = ((i + 1 : Nat) : Int) := w64_add (b := 1) (by omega)
    have e2 : (i : Int).tmod 16 = ((i % 16 : Nat) : Int) := tmodN' i 16
    have e3 : w64 (4 * ((i % 16 : Nat) : Int)) = ((4 * (i % 16) : Nat) : Int) := w64_mul (a := 4) (by omega)
    unfold gcm_sum_add.b0
    simp only [e1, e2, e3, Int.toNat_natCast, hx1, hx2]
    clear e1 e2 e3
    have hd : ∃ d : BitVec 64, d = (if i < 16 then x.2 >>> (4 * (i % 16)) else x.1 >>> (4 * (i % 16))) &&& 15#64 := ⟨_, rfl⟩
    obtain ⟨d, hd⟩ := hd
    have hdl : d.toNat < 16 := by rw [hd]; exact digit_lt _
    have hbit : ∀ t, t < 4 → d.toNat.testBit (3 - t) = bitE x (128 - 4 * (i + 1) + t) := by
      intro t ht
      unfold bitE
      by_cases c : i < 16
      · rw [if_pos c] at hd
        rw [hd, digit_bit _ _ _ (by omega), if_neg (by omega), show 4 * (i % 16) + (3 - t) = 127 - (128 - 4 * (i + 1) + t) by omega]
      · rw [if_neg c] at hd
        rw [hd, digit_bit _ _ _ (by omega), if_pos (by omega), show 4 * (i % 16) + (3 - t) = 63 - (128 - 4 * (i + 1) + t) by omega]
    refine if_i (by omega) (if_i (by omega) (ltt_i fun d1 hd1 => bind_i (v := d) ?_ ?_))
    · by_cases c : i < 16
      · rw [if_pos c] at hd
        refine if_n (by omega) ?_
        rw [hd1, hd]
      · rw [if_neg c] at hd
        refine if_i (by omega) (if_i (by omega) (ltt_i fun d2 hd2 => ?_))
        rw [hd2, hd]
    · have hz := digit_lt (SS x h (128 - 4 * i) (4 * i)).2
      refine if_i (by omega) (if_i (by omega) (if_i (by omega) ?_))
      have hm : 128 - 4 * (i + 1) + 4 = 128 - 4 * i := by omega
      have hS := SS4 x h (128 - 4 * (i + 1)) (4 * i)
      rw [hm, hp4_eq] at hS
      have ht : vg (tabV h 4) d.toNat = xr (xr (xr (xr z2 (sel (bitE x (128 - 4 * (i + 1))) (hp 0 h))) (sel (bitE x (128 - 4 * (i + 1) + 1)) (hp 1 h))) (sel (bitE x (128 - 4 * (i + 1) + 2)) (hp 2 h))) (sel (bitE x (128 - 4 * (i + 1) + 3)) (hp 3 h)) := by
        rw [tabV, vg_ofFn hdl]
        simp only [tabF]
        rw [hbit 0 (by decide), hbit 1 (by decide), hbit 2 (by decide), hbit 3 (by decide), Nat.add_zero]
      rw [← ht, xr_comm] at hS
      rw [show 4 * (i + 1) = 4 * i + 4 by omega] at hS ⊢
      rw [hS]
      rfl
  · exact if_n (by show ¬ (((32 : Nat) : Int) < 32); omega) rfl

/-! Blocks. -/
def gh (h : E2) (s : Str) (j : Nat) (y : E2) : E2 := prod (xr (ld s (16 * j)) y) h
def ghs (h : E2) (s : Str) (y : E2) : E2 := iter (gh h s) (s.length / 16) y
theorem ld_sub (s : Str) (a b : Nat) (h : 16 ≤ b - a) : ld (sub s a b) 0 = ld s a := by
  unfold ld
  rw [be8_sub s a b 0 8 (by omega), be8_sub s a b (0 + 8) 8 (by omega)]
  rfl
theorem filled_eq (s : Str) (hs : s.length < 1152921504606846976) : halberdref4_filled s = some (s ++ List.replicate ((16 - s.length % 16) % 16) 0#8) := by
  have e1 : (s.length : Int).tmod 16 = ((s.length % 16 : Nat) : Int) := tmodN' _ 16
  have e2 : w64 (16 - ((s.length % 16 : Nat) : Int)) = ((16 - s.length % 16 : Nat) : Int) := w64_sub (a := 16) (by omega) (by omega)
  have e3 : ((16 - s.length % 16 : Nat) : Int).tmod 16 = (((16 - s.length % 16) % 16 : Nat) : Int) := tmodN' _ 16
  unfold halberdref4_filled
  simp only [e1, e2, e3, Int.toNat_natCast]
  clear e1 e2 e3
  refine if_i (by omega) (if_i (by simp) (if_i (by simp; omega) (ltt_i fun x hx => by rw [hx])))
def fil (s : Str) : Str := s ++ List.replicate ((16 - s.length % 16) % 16) 0#8
theorem fil_length (s : Str) : (fil s).length = 16 * ((s.length + 15) / 16) := by
  unfold fil; simp; omega
theorem ld_app_l (s t : Str) (a : Nat) (h : a + 16 ≤ s.length) : ld (s ++ t) a = ld s a := by
  have hsub : sub (s ++ t) a (a + 16) = sub s a (a + 16) := sub_app_l s t a (a + 16) h
  rw [← ld_sub (s ++ t) a (a + 16) (by omega), hsub, ld_sub s a (a + 16) (by omega)]
theorem ld_app_r (s t : Str) (a : Nat) : ld (s ++ t) (s.length + a) = ld t a := by
  have : ∀ n a, be8 (s ++ t) (s.length + a) n = be8 t a n := by
    intro n a
    induction n with
    | zero => rfl
    | succ n ih =>
      simp only [be8, ih]
      congr 2
      rw [List.getD_eq_getElem?_getD, List.getD_eq_getElem?_getD, List.getElem?_append_right (by omega)]
      congr 2
      omega
  unfold ld
  rw [this, Nat.add_assoc, this]
theorem ghs_app (h : E2) (s t : Str) (y : E2) (hs : s.length % 16 = 0) : ghs h (s ++ t) y = ghs h t (ghs h s y) := by
  unfold ghs
  have hl : (s ++ t).length / 16 = s.length / 16 + t.length / 16 := by rw [List.length_append]; omega
  rw [hl, iter_add]
  have h1 : iter (gh h (s ++ t)) (s.length / 16) y = iter (gh h s) (s.length / 16) y := iter_congr fun k hk x => by
    unfold gh
    rw [ld_app_l s t _ (by omega)]
  rw [h1]
  refine iter_congr fun k hk x => ?_
  unfold gh
  rw [show 16 * (s.length / 16 + k) = s.length + 16 * k by omega, ld_app_r]
theorem getD_zeros (b : Str) (n j : Nat) : (b ++ List.replicate n 0#8).getD j 0#8 = b.getD j 0#8 := by
  rw [List.getD_eq_getElem?_getD, List.getD_eq_getElem?_getD, List.getElem?_append]
  by_cases c : j < b.length
  · rw [if_pos c]
  · rw [if_neg c, List.getElem?_eq_none (l := b) (by omega), List.getElem?_replicate]
    split <;> rfl
theorem all_b0 (h y : E2) (b : Str) (hb : b.length < 1152921504606846976) : loop (gcm_sum_all.b0 (tabV h 4) foldV b) BIG (0, y.1, y.2) = some (16 * (b.length / 16), (iter (gh h b) (b.length / 16) y).1, (iter (gh h b) (b.length / 16) y).2) := by
  refine loop_fn (fun k => (16 * k, (iter (gh h b) k y).1, (iter (gh h b) k y).2)) (b.length / 16) _ (by omega) rfl (fun k hk => ?_) ?_
  · unfold gcm_sum_all.b0
    have hl : (sub b (16 * k) b.length).length = b.length - 16 * k := sub_length (Nat.le_refl _)
    refine if_i (by simp only; omega) (bind_i (add_eq h _ _ (by rw [hl]; omega) (by rw [hl]; omega)) (if_i (by simp only; omega) (if_i (by simp only; omega) ?_)))
    simp only
    rw [ld_sub _ _ _ (by omega), show 16 * k + 16 = 16 * (k + 1) by omega]
    rfl
  · unfold gcm_sum_all.b0
    exact if_n (by simp only; omega) rfl
theorem all_eq (h y : E2) (b : Str) (hb : b.length < 1152921504606846976) : gcm_sum_all (tabV h 4) foldV y.1 y.2 b = some (ghs h (fil b) y) := by
  unfold gcm_sum_all
  refine bind_i (all_b0 h y b hb) ?_
  simp only
  by_cases c : b.length % 16 = 0
  · refine if_n (by omega) ?_
    have : fil b = b := by unfold fil; rw [c]; simp
    rw [this]; rfl
  · refine if_i (by omega) (ltt_i fun m hm => ?_)
    have hlen : (fil b).length / 16 = b.length / 16 + 1 := by rw [fil_length]; omega
    have hml : m.toList = sub (fil b) (16 * (b.length / 16)) (16 * (b.length / 16) + 16) := by
      have hsl : (sub b (16 * (b.length / 16)) b.length).length = b.length - 16 * (b.length / 16) := sub_length (Nat.le_refl _)
      have htk : (sub b (16 * (b.length / 16)) b.length).take (min (b.length - 16 * (b.length / 16)) 16) = sub b (16 * (b.length / 16)) b.length := List.take_of_length_le (by rw [hsl]; omega)
      rw [htk] at hm
      refine List.ext_getElem (by rw [sub_length (by rw [fil_length]; omega)]; simp) fun i h1 h2 => ?_
      have hi : i < 16 := by simpa using h1
      have hA : m.toList[i] = vg m i := by rw [vg_eq' hi]; simp
      have hgen : ∀ (l : Str) (V : Vector (BitVec 8) 16) (o : Nat), o + l.length ≤ 16 → ∀ i, i < 16 → vg (vsp V o l) i = if o ≤ i ∧ i < o + l.length then l.getD (i - o) 0#8 else vg V i := by
        intro l
        induction l with
        | nil => intro V o _ i _; rw [if_neg (by simp)]; rfl
        | cons x r ih =>
          intro V o ho i hi
          simp only [List.length_cons] at ho ⊢
          show vg (vsp (vp V o x) (o + 1) r) i = _
          rw [ih (vp V o x) (o + 1) (by omega) i hi, vg_vp (by omega) hi]
          by_cases c1 : o = i
          · subst c1
            rw [if_neg (by omega), if_pos rfl, if_pos (by omega), Nat.sub_self]; rfl
          · by_cases c2 : o + 1 ≤ i ∧ i < o + 1 + r.length
            · rw [if_pos c2, if_pos (by omega), show i - o = (i - (o + 1)) + 1 by omega]; rfl
            · rw [if_neg c2, if_neg c1, if_neg (by omega)]
      rw [hA, hm, hgen _ _ 0 (by rw [hsl]; omega) i hi, hsl]
      have hR : (sub (fil b) (16 * (b.length / 16)) (16 * (b.length / 16) + 16))[i] = (fil b).getD (16 * (b.length / 16) + i) 0#8 := by
        rw [← sub_getD _ _ (16 * (b.length / 16) + 16) i (by omega), List.getD_eq_getElem?_getD, List.getElem?_eq_getElem h2]; rfl
      rw [hR]
      unfold fil
      rw [getD_zeros]
      by_cases ci : 16 * (b.length / 16) + i < b.length
      · rw [if_pos (by omega), Nat.sub_zero, sub_getD _ _ _ _ (by omega)]
      · rw [if_neg (by omega), vg_eq' hi, List.getD_eq_getElem?_getD, List.getElem?_eq_none (by omega)]
        simp
    refine bind_i (add_eq h _ _ (by rw [hml, sub_length (by rw [fil_length]; omega)]; omega) (by rw [hml, sub_length (by rw [fil_length]; omega)]; omega)) ?_
    rw [hml, ld_sub _ _ _ (by omega)]
    have : ghs h (fil b) y = gh h (fil b) (b.length / 16) (iter (gh h (fil b)) (b.length / 16) y) := by unfold ghs; rw [hlen]; rfl
    rw [this]
    have h2 : iter (gh h (fil b)) (b.length / 16) y = iter (gh h b) (b.length / 16) y := iter_congr fun k hk x => by
      unfold gh fil
      rw [ld_app_l b _ _ (by omega)]
    rw [h2]
    rfl
theorem ghash_eq (h s : Str) (hh : h.length = 16) (hs : s.length < 1152921504606846976) : halberdref4_ghash h s = some (by16 (ghs (ld h 0) s z2)) := by
  unfold halberdref4_ghash
  refine bind_i (halves_eq h (by omega) (by omega)) (bind_i (v := ghs (ld h 0) s z2) (loop_fn (fun k => ((iter (gh (ld h 0) s) k z2).1, (iter (gh (ld h 0) s) k z2).2, ((16 * k : Nat) : Int))) (s.length / 16) _ (by omega) rfl (fun k hk => ?_) ?_) (bind_i (whole_eq _) rfl))
  · have e1 : w64 (((16 * k : Nat) : Int) + 16) = ((16 * k + 16 : Nat) : Int) := w64_add (b := 16) (by omega)
    have hl : (sub s (16 * k) (16 * k + 16)).length = 16 := by rw [sub_length (by omega)]; omega
    unfold halberdref4_ghash.b0
    simp only [e1, Int.toNat_natCast]
    clear e1
    refine if_i (by omega) (if_i (by omega) (if_i (by omega) (if_i (by omega) (if_i (by omega) (bind_i (halves_eq _ (by omega) (by omega)) ?_)))))
    have ht := times_eq (xr (iter (gh (ld h 0) s) k z2) (ld (sub s (16 * k) (16 * k + 16)) 0)) (ld h 0)
    refine bind_i ht (ltt_i fun i hi => ?_)
    rw [hi, ld_sub _ _ _ (by omega), xr_comm]
    rfl
  · have e1 : w64 (((16 * (s.length / 16) : Nat) : Int) + 16) = ((16 * (s.length / 16) + 16 : Nat) : Int) := w64_add (b := 16) (by omega)
    unfold halberdref4_ghash.b0
    simp only [e1]
    exact if_n (by omega) rfl
def GhE (h s : Str) : Str × Int := if h.length = 16 ∧ s.length % 16 = 0 then (by16 (ghs (ld h 0) s z2), 0) else ([], 500)
theorem Hash_eq5 (h s : Str) (hs : s.length < 1152921504606846976) : gcm_Hash h s = some (GhE h s) := by
  have e1 : (s.length : Int).tmod 16 = ((s.length % 16 : Nat) : Int) := tmodN' _ 16
  unfold gcm_Hash GhE
  rw [e1]
  clear e1
  by_cases c1 : h.length = 16
  · refine if_n (by omega) ?_
    by_cases c2 : s.length % 16 = 0
    · obtain ⟨V, hV, he⟩ := ebytes_eq (ghs (ld h 0) s z2)
      have hf : fil s = s := by unfold fil; rw [c2]; simp
      have ha := all_eq (ld h 0) z2 s hs
      rw [hf] at ha
      refine if_n (by omega) (bind_i (load_eq h (by omega) (by omega)) (bind_i (newSum_eq _) (bind_i ha (bind_i he ?_))))
      rw [hV, if_pos ⟨c1, c2⟩]
    · refine if_i (by omega) ?_
      rw [if_neg (fun h => c2 h.2)]
  · refine if_i (by omega) ?_
    rw [if_neg (fun h => c1 h.1)]
theorem Ghash_eq5 (h s : Str) (hs : s.length < 1152921504606846976) : halberdref4_Ghash h s = some (GhE h s) := by
  have e1 : (s.length : Int).tmod 16 = ((s.length % 16 : Nat) : Int) := tmodN' _ 16
  unfold halberdref4_Ghash GhE
  rw [e1]
  clear e1
  by_cases c1 : h.length = 16
  · refine if_n (by omega) ?_
    by_cases c2 : s.length % 16 = 0
    · refine if_n (by omega) (bind_i (ghash_eq h s c1 hs) ?_)
      rw [if_pos ⟨c1, c2⟩]
    · refine if_i (by omega) ?_
      rw [if_neg (fun h => c2 h.2)]
  · refine if_i (by omega) ?_
    rw [if_neg (fun h => c1 h.1)]
end Go.Proofs
end

section
/-
  AES-GCM: the program's streams, tags, texts are the reference's.
-/
namespace Go.Proofs
open Go Go.Kx
set_option linter.unusedVariables false
set_option linter.unusedSimpArgs false
abbrev okKey (key : Str) : Prop := key.length = 16 ∨ key.length = 32
def kw (key : Str) : List V4 := (Wst key (key.length / 4) (4 * (key.length / 4 + 7))).2
/-- One block by a key. -/
def ek (key : Str) (b : V16) : V16 := encV (keysOf (kw key)) b
theorem kw_len (key : Str) : (kw key).length = 4 * (key.length / 4 + 7) := Wst_len key _ _
theorem keys_len (key : Str) : (keysOf (kw key)).length = key.length / 4 + 7 := by rw [keysOf_length, kw_len]; omega
theorem Enc_eq (key : Str) (hk : okKey key) (b : V16) : aes_Cipher_Encrypt BOXV (keysOf (kw key)) b = some (ek key b) :=
  enc_eq _ b (by rw [keys_len]; omega) (by rw [keys_len]; unfold okKey at hk; omega)
theorem sched_eq (key : Str) (hk : okKey key) : halberdref4_schedule key = some (kw key) := by
  unfold okKey at hk
  exact sch_eq key _ (by omega) (by omega)
theorem ciph_eq (key : Str) (hk : okKey key) (s : Str) (hs : s.length = 16) : halberdref4_cipher (kw key) s = some (ek key (toV s)).toList := by
  unfold okKey at hk
  exact cipher_eq _ s (key.length / 4 + 7) (kw_len key) (by omega) (by omega) hs
theorem toV_list (V : V16) : toV V.toList = V := vec_ext fun i hi => by
  rw [toV, vg_ofFn hi]; rfl
def hE (key : Str) : E2 := ld (ek key (Vector.replicate 16 0#8)).toList 0
theorem gNew_eq (key : Str) (hk : okKey key) : gcm_New key = some (.inr (BOXV, key.length / 4 + 7, keysOf (kw key), (hE key).1, (hE key).2)) := by
  unfold gcm_New
  have hn : key.length / 4 = 4 ∨ key.length / 4 = 8 := by unfold okKey at hk; omega
  have h4 : key.length = 4 * (key.length / 4) := by unfold okKey at hk; omega
  refine bind_i (New_eq key _ hn h4) (if_i (keys_len key).symm (bind_i (Enc_eq key hk _) (bind_i (load_eq _ (by simp) (by simp)) ?_)))
  simp only
  rw [show (keysOf (Wst key (key.length / 4) (4 * (key.length / 4 + 7))).2).length = key.length / 4 + 7 from keys_len key]
  rfl
theorem gNew_none (key : Str) (hk : ¬ okKey key) : gcm_New key = some (.inl ()) := by
  unfold gcm_New
  refine bind_i (v := .inl ()) ?_ rfl
  unfold okKey at hk
  unfold aes_New
  exact if_i (by omega) (if_i (by omega) rfl)
/-- A nonce's block of a number. -/
def cb (nonce : Str) (n : Nat) : V16 := toV (nonce ++ bytesI (n : Int) 4)
theorem counter_eq (nonce : Str) (n : Nat) (hn : nonce.length = 12) (h : n < 4294967296) : gcm_counter nonce (BitVec.ofNat 32 n) = some (cb nonce n) := by
  have hb := bytesI_length (n : Int) 4
  have hbt : ∀ i, i < 4 → (bytesI (n : Int) 4).getD i 0#8 = ((BitVec.ofNat 32 n) >>> (8 * (3 - i))).setWidth 8 := fun i hi => by
    unfold bytesI
    rw [List.getD_eq_getElem?_getD, List.getElem?_map, List.getElem?_range hi]
    apply BitVec.eq_of_toNat_eq
    have h3 : ((n : Int) / 256 ^ (4 - 1 - i)) = ((n / 2 ^ (8 * (3 - i)) : Nat) : Int) := by
      rw [Nat.pow_mul]; simp
    simp only [Option.map_some, Option.getD_some, h3, BitVec.toNat_ofInt, BitVec.toNat_setWidth, BitVec.toNat_ushiftRight, BitVec.toNat_ofNat, Nat.shiftRight_eq_div_pow]
    rw [Nat.mod_eq_of_lt (a := n) (by omega)]
    omega
  unfold gcm_counter
  refine ltt_i fun m hm => bind_i (v := cb nonce n) (loop_fn (fun k => ((k : Int), (Vector.ofFn fun i => if 12 ≤ i.val ∧ i.val + k < 16 then 0#8 else (nonce ++ bytesI (n : Int) 4).getD i.val 0#8 : V16))) 4 _ (by omega) ?_ (fun k hk => ?_) ?_) rfl
  · refine Prod.ext rfl (vec_ext fun i hi => ?_)
    have ht : nonce.take (min nonce.length 16) = nonce := List.take_of_length_le (by omega)
    rw [hm, ht, vg_vsp _ _ _ _ (by omega) hi, vg_ofFn hi]
    dsimp only
    by_cases c : i < 12
    · rw [if_pos (by omega), if_neg (by omega), List.getD_eq_getElem?_getD, List.getD_eq_getElem?_getD, List.getElem?_append_left (by omega), Nat.sub_zero]
      rfl
    · rw [if_neg (by omega), if_pos (by omega), vg_eq' hi]; simp
  · have e1 : w64 ((k : Int) + 1) = ((k + 1 : Nat) : Int) := w64_add (b := 1) (by omega)
    have e2 : w64 (8 * (k : Int)) = ((8 * k : Nat) : Int) := w64_mul (a := 8) (by omega)
    have e3 : w64 (15 - (k : Int)) = ((15 - k : Nat) : Int) := w64_sub (a := 15) (by omega) (by omega)
    unfold gcm_counter.b0
    simp only [e1, e2, e3, Int.toNat_natCast]
    clear e1 e2 e3
    refine if_i (by omega) (if_i (by omega) (if_i (by omega) (ltt_i fun m2 hm2 => ?_)))
    have : m2 = (Vector.ofFn fun i => if 12 ≤ i.val ∧ i.val + (k + 1) < 16 then 0#8 else (nonce ++ bytesI (n : Int) 4).getD i.val 0#8 : V16) := by
      rw [hm2]
      refine vec_ext fun i hi => ?_
      rw [vg_vp (by omega) hi, vg_ofFn hi, vg_ofFn hi]
      dsimp only
      by_cases c : 15 - k = i
      · rw [if_pos c, if_neg (by omega), List.getD_eq_getElem?_getD, List.getElem?_append_right (by omega), ← List.getD_eq_getElem?_getD, hbt _ (by omega), show 8 * (3 - (i - nonce.length)) = 8 * k by omega]
      · rw [if_neg c]
        by_cases c2 : 12 ≤ i ∧ i + k < 16
        · rw [if_pos c2, if_pos (by omega)]
        · rw [if_neg c2, if_neg (by omega)]
    rw [this]
  · refine if_n (by show ¬ (((4 : Nat) : Int) < 4); omega) (congrArg some (congrArg Sum.inr ?_))
    refine vec_ext fun i hi => ?_
    rw [vg_ofFn hi, cb, toV, vg_ofFn hi, if_neg (by omega)]
/-- A text under a stream. -/
def xoB (key nonce : Str) (from_ : Nat) (s : Str) (i : Nat) : BitVec 8 := s.getD i 0#8 ^^^ vg (ek key (cb nonce (from_ + i / 16))) (i % 16)
def xo (key nonce : Str) (from_ : Nat) (s : Str) : Str := (List.range s.length).map (xoB key nonce from_ s)
theorem xo_length (key nonce : Str) (f : Nat) (s : Str) : (xo key nonce f s).length = s.length := by simp [xo]
def xoP (key nonce : Str) (s : Str) (m : Nat) : Str := (List.range s.length).map fun i => if i < m then xoB key nonce 2 s i else s.getD i 0#8
theorem xoP_length (key nonce s : Str) (m : Nat) : (xoP key nonce s m).length = s.length := by simp [xoP]
theorem xoP_at (key nonce s : Str) (m i : Nat) (hi : i < s.length) : lg (xoP key nonce s m) i = if i < m then xoB key nonce 2 s i else s.getD i 0#8 := by
  simp [lg, xoP, hi]
theorem xoP_set (key nonce s : Str) (m : Nat) (hm : m < s.length) : (xoP key nonce s m).set m (xoB key nonce 2 s m) = xoP key nonce s (m + 1) := by
  unfold xoP
  refine List.ext_getElem (by simp) fun i h1 h2 => ?_
  simp only [List.getElem_set, List.getElem_map, List.getElem_range]
  by_cases c : m = i
  · subst c; rw [if_pos rfl, if_pos (by omega)]
  · rw [if_neg c]
    by_cases c2 : i < m
    · rw [if_pos c2, if_pos (by omega)]
    · rw [if_neg c2, if_neg (by omega)]
theorem xor_b1 (key nonce b : Str) (k : Nat) (n : BitVec 32) (t0 : Str) (hk : 16 * k < b.length) (hl : b.length < 1000000) :
    loop (gcm_Cipher_Xor.b1 b (16 * k, n, t0) (ek key (cb nonce (2 + k))) ((min (b.length - 16 * k) 16 : Nat) : Int)) BIG (0, xoP key nonce b (16 * k)) = some (xoP key nonce b (min (16 * (k + 1)) b.length)) := by
  refine loop_fn (fun j => ((j : Int), xoP key nonce b (16 * k + j))) (min (b.length - 16 * k) 16) _ (by omega) rfl (fun j hj => ?_) ?_
  · have e1 : w64 ((j : Int) + 1) = ((j + 1 : Nat) : Int) := w64_add (b := 1) (by omega)
    have hlen := xoP_length key nonce b (16 * k + j)
    unfold gcm_Cipher_Xor.b1
    simp only [e1, Int.toNat_natCast]
    clear e1
    refine if_i (by omega) (if_i (by omega) (if_i (by omega) (if_i (by omega) (if_i (by omega) (if_i (by omega) (if_i (by omega) (if_i (by omega) (ltt_i fun m hm => ?_))))))))
    have : m = xoP key nonce b (16 * k + (j + 1)) := by
      rw [hm, xoP_at _ _ _ _ _ (by omega), if_neg (by omega), ← Nat.add_assoc, ← xoP_set key nonce b (16 * k + j) (by omega)]
      unfold xoB
      rw [show (16 * k + j) / 16 = k by omega, show (16 * k + j) % 16 = j by omega]
    rw [this]
  · unfold gcm_Cipher_Xor.b1
    refine if_n (by simp only; omega) ?_
    rw [show 16 * k + min (b.length - 16 * k) 16 = min (16 * (k + 1)) b.length by omega]
theorem Xor_eq (key nonce : Str) (hk : okKey key) (hn : nonce.length = 12) (h : E2) (b : Str) (hl : b.length < 1000000) : gcm_Cipher_Xor BOXV (keysOf (kw key)) h.1 h.2 nonce b = some (xo key nonce 2 b) := by
  unfold gcm_Cipher_Xor
  refine bind_i (v := xo key nonce 2 b) (loop_fn (fun k => (min (16 * k) b.length, BitVec.ofNat 32 (2 + k), xoP key nonce b (min (16 * k) b.length))) ((b.length + 15) / 16) _ (by omega) ?_ (fun k hk2 => ?_) ?_) rfl
  · refine Prod.ext (by simp) (Prod.ext rfl ?_)
    show b = xoP key nonce b (min (16 * 0) b.length)
    unfold xoP
    refine List.ext_getElem (by simp) fun i h1 h2 => ?_
    simp [h1]
  · have hkb : 16 * k < b.length := by omega
    have hm1 : min (16 * k) b.length = 16 * k := by omega
    rw [hm1]
    unfold gcm_Cipher_Xor.b0
    simp only
    refine if_i (by omega) (bind_i (counter_eq nonce (2 + k) hn (by omega)) (bind_i (Enc_eq key hk _) (ltt_i fun m hm => ?_)))
    have hm2 : m = ((min (b.length - 16 * k) 16 : Nat) : Int) := by rw [hm]; omega
    rw [hm2]
    refine bind_i (xor_b1 key nonce b k _ _ hkb hl) ?_
    have hlen := xoP_length key nonce b (min (16 * (k + 1)) b.length)
    simp only [Int.toNat_natCast]
    refine if_i (by omega) (if_i (by omega) (if_i (by omega) (if_i (by omega) (ltt_i fun n1 hn1 => ?_))))
    have h2k : BitVec.ofNat 32 (2 + (k + 1)) = BitVec.ofNat 32 (2 + k) + 1#32 := by rw [show 2 + (k + 1) = (2 + k) + 1 by omega, BitVec.ofNat_add]
    rw [hn1, h2k, show 16 * k + min (b.length - 16 * k) 16 = min (16 * (k + 1)) b.length by omega]
  · unfold gcm_Cipher_Xor.b0
    refine if_n (by simp only; omega) (congrArg some (congrArg Sum.inr ?_))
    simp only
    unfold xoP xo
    refine List.map_congr_left fun i hi => ?_
    have : i < b.length := by simpa using hi
    rw [if_pos (by omega)]
/-! The reference's stream. -/
def xoQ (key nonce : Str) (f : Nat) (s : Str) (m : Nat) : Str := (List.range s.length).map fun i => if i < m then xoB key nonce f s i else 0#8
theorem xoQ_set (key nonce : Str) (f : Nat) (s : Str) (m : Nat) (hm : m < s.length) : (xoQ key nonce f s m).set m (xoB key nonce f s m) = xoQ key nonce f s (m + 1) := by
  unfold xoQ
  refine List.ext_getElem (by simp) fun i h1 h2 => ?_
  simp only [List.getElem_set, List.getElem_map, List.getElem_range]
  by_cases c : m = i
  · subst c; rw [if_pos rfl, if_pos (by omega)]
  · rw [if_neg c]
    by_cases c2 : i < m
    · rw [if_pos c2, if_pos (by omega)]
    · rw [if_neg c2, if_neg (by omega)]
theorem cnt_b1 (key nonce s : Str) (f k : Nat) (hk : 16 * k < s.length) (hl : s.length < 1000000) (t0 : Str) :
    loop (halberdref4_counter.b1 s (((16 * k : Nat) : Int), t0) (ek key (cb nonce (f + k))).toList) BIG (0, xoQ key nonce f s (16 * k)) = some (xoQ key nonce f s (min (16 * (k + 1)) s.length)) := by
  refine loop_fn (fun j => ((j : Int), xoQ key nonce f s (16 * k + j))) (min (s.length - 16 * k) 16) _ (by omega) rfl (fun j hj => ?_) ?_
  · have e1 : w64 ((j : Int) + 1) = ((j + 1 : Nat) : Int) := w64_add (b := 1) (by omega)
    have e2 : w64 (((16 * k : Nat) : Int) + (j : Int)) = ((16 * k + j : Nat) : Int) := w64_add (by omega)
    have hlen : (xoQ key nonce f s (16 * k + j)).length = s.length := by simp [xoQ]
    unfold halberdref4_counter.b1
    simp only [e1, e2, Int.toNat_natCast, sg_nat]
    clear e1 e2
    refine if_i (by omega) (if_i (by omega) (if_i (by omega) (if_i (by simp; omega) (if_i (by omega) (if_i (by omega) (ltt_i fun m hm => ltt_i fun j1 hj1 => ?_))))))
    have : m = xoQ key nonce f s (16 * k + (j + 1)) := by
      rw [hm, ← Nat.add_assoc, ← xoQ_set key nonce f s (16 * k + j) (by omega)]
      unfold xoB
      rw [show (16 * k + j) / 16 = k by omega, show (16 * k + j) % 16 = j by omega]
      rfl
    rw [hj1, this]
  · unfold halberdref4_counter.b1
    have hend : 16 * k + min (s.length - 16 * k) 16 = min (16 * (k + 1)) s.length := by omega
    rw [hend]
    by_cases c : 16 ≤ s.length - 16 * k
    · exact if_n (by simp only; omega) rfl
    · have e2 : w64 (((16 * k : Nat) : Int) + ((min (s.length - 16 * k) 16 : Nat) : Int)) = ((16 * k + min (s.length - 16 * k) 16 : Nat) : Int) := w64_add (by omega)
      simp only [e2]
      exact if_i (by omega) (if_n (by omega) rfl)
theorem counterR_eq (key nonce : Str) (hk : okKey key) (hn : nonce.length = 12) (f : Nat) (hf : f < 1000) (s : Str) (hl : s.length < 1000000) : halberdref4_counter (kw key) nonce (f : Int) s = some (xo key nonce f s) := by
  unfold halberdref4_counter
  refine if_i (by omega) (bind_i (v := xo key nonce f s) (loop_fn (fun k => (((16 * k : Nat) : Int), xoQ key nonce f s (min (16 * k) s.length))) ((s.length + 15) / 16) _ (by omega) ?_ (fun k hk2 => ?_) ?_) (if_i (by rw [xo_length]; rfl) rfl))
  · refine Prod.ext rfl ?_
    show List.replicate ((s.length : Int).toNat) 0#8 = xoQ key nonce f s (min (16 * 0) s.length)
    unfold xoQ
    refine List.ext_getElem (by simp) fun i h1 h2 => ?_
    simp
  · have hkb : 16 * k < s.length := by omega
    have hm1 : min (16 * k) s.length = 16 * k := by omega
    have e1 : w64 (((16 * k : Nat) : Int).tdiv 16) = (k : Int) := (w64_div (a := 16 * k) (b := 16) (by omega)).trans (by omega)
    have e2 : w64 ((f : Int) + (k : Int)) = ((f + k : Nat) : Int) := w64_add (by omega)
    have e3 : w64 (((16 * k : Nat) : Int) + 16) = ((16 * (k + 1) : Nat) : Int) := (w64_add (b := 16) (by omega)).trans (by omega)
    have hb := bytesI_length ((f + k : Nat) : Int) 4
    rw [hm1]
    unfold halberdref4_counter.b0
    simp only [e1, e2, e3]
    clear e1 e2 e3
    refine if_i (by omega) (bind_i (Be_eq _ 4 (by decide)) (if_i (by omega) (bind_i (ciph_eq key hk _ (by rw [List.length_append]; omega)) (bind_i (cnt_b1 key nonce s f k hkb hl _) (ltt_i fun i hi => ?_)))))
    rw [hi]
  · unfold halberdref4_counter.b0
    refine if_n (by simp only; omega) (congrArg some (congrArg Sum.inr ?_))
    simp only
    unfold xoQ xo
    refine List.map_congr_left fun i hi => ?_
    have : i < s.length := by simpa using hi
    rw [if_pos (by omega)]
/-! Tags. -/
theorem ofN_byte (x : BitVec 64) : ((x >>> 8) <<< 8) ||| ((x.setWidth 8).setWidth 64) = x := by
  apply BitVec.eq_of_getLsbD_eq
  intro i hi
  simp only [BitVec.getLsbD_or, BitVec.getLsbD_shiftLeft, BitVec.getLsbD_ushiftRight, BitVec.getLsbD_setWidth]
  by_cases c : i < 8
  · simp [c, hi]
  · simp [c, hi, show 8 + (i - 8) = i by omega]
theorem be8_word (s : Str) (a : Nat) (w : BitVec 64) (h : ∀ i, i < 8 → s.getD (a + i) 0#8 = (w >>> (8 * (7 - i))).setWidth 8) : be8 s a 8 = w := by
  have : ∀ j, j ≤ 8 → be8 s a j = w >>> (8 * (8 - j)) := by
    intro j
    induction j with
    | zero => intro _; exact (BitVec.ushiftRight_eq_zero (Nat.le_refl _)).symm
    | succ j ih =>
      intro hj
      simp only [be8]
      rw [ih (by omega), h j (by omega)]
      have := ofN_byte (w >>> (8 * (8 - (j + 1))))
      rw [← BitVec.shiftRight_add, show 8 * (8 - (j + 1)) + 8 = 8 * (8 - j) by omega] at this
      rw [show 8 * (7 - j) = 8 * (8 - (j + 1)) by omega]
      exact this
  have := this 8 (Nat.le_refl _)
  simpa using this
theorem ld_by16 (e : E2) : ld (by16 e) 0 = e := by
  unfold ld
  refine Prod.ext ?_ ?_
  · exact be8_word _ _ _ fun i hi => by rw [Nat.zero_add, byV_at e i (by omega), if_pos hi]
  · exact be8_word _ _ _ fun i hi => by rw [Nat.zero_add, byV_at e (8 + i) (by omega), if_neg (by omega), show 8 + i - 8 = i by omega]
theorem bytesI8_hexW (L : Nat) : bytesI (L : Int) 8 = hexW (BitVec.ofNat 64 L) 8 := by
  unfold bytesI hexW
  refine List.map_congr_left fun i hi => ?_
  have hi8 : i < 8 := by simpa using hi
  apply BitVec.eq_of_toNat_eq
  have h3 : ((L : Int) / 256 ^ (8 - 1 - i)) = ((L / 2 ^ (8 * (8 - 1 - i)) : Nat) : Int) := by
    rw [Nat.pow_mul]; simp
  simp only [h3, BitVec.toNat_ofInt, BitVec.toNat_setWidth, BitVec.toNat_ushiftRight, BitVec.toNat_ofNat, Nat.shiftRight_eq_div_pow]
  rcases (by omega : i = 0 ∨ i = 1 ∨ i = 2 ∨ i = 3 ∨ i = 4 ∨ i = 5 ∨ i = 6 ∨ i = 7) with h | h | h | h | h | h | h | h <;> subst h <;> simp only [Nat.reduceSub, Nat.reduceMul, Nat.reducePow, Nat.reduceAdd] <;> omega
def szs (aad c : Str) : E2 := (BitVec.ofNat 64 (8 * aad.length), BitVec.ofNat 64 (8 * c.length))
def tagY (key aad c : Str) : E2 := ghs (hE key) (fil aad ++ fil c ++ by16 (szs aad c)) z2
def tagE (key nonce aad c : Str) : Str := xo key nonce 1 (by16 (tagY key aad c))
theorem ghs16 (h : E2) (s : Str) (y : E2) (hs : s.length = 16) : ghs h s y = prod (xr (ld s 0) y) h := by
  unfold ghs
  rw [hs, show 16 / 16 = 0 + 1 from rfl]
  simp only [iter]
  unfold gh
  rw [Nat.mul_zero]
theorem tagY_eq (key aad c : Str) : tagY key aad c = prod (xr (szs aad c) (ghs (hE key) (fil c) (ghs (hE key) (fil aad) z2))) (hE key) := by
  have h1 : (fil aad).length % 16 = 0 := by rw [fil_length]; omega
  have h2 : (fil c).length % 16 = 0 := by rw [fil_length]; omega
  unfold tagY
  rw [ghs_app _ _ _ _ (by rw [List.length_append]; omega), ghs_app _ _ _ _ h1, ghs16 _ _ _ (by16_length _), ld_by16]
theorem tag_b0 (V W : V16) : loop (gcm_Cipher_Tag.b0 W) BIG (0, V) = some (Vector.ofFn fun i => vg V i.val ^^^ vg W i.val) := by
  refine loop_fill _ (fun i => vg V i ^^^ vg W i) id (by omega) (fun k v hk hv => ?_) (fun v => ?_)
  · have e1 : w64 ((k : Int) + 1) = ((k + 1 : Nat) : Int) := w64_add (b := 1) (by omega)
    unfold gcm_Cipher_Tag.b0
    simp only [e1, Int.toNat_natCast]
    refine if_i (by omega) (if_i (by omega) (if_i (by omega) (if_i (by omega) (ltt_i fun m hm => ?_))))
    rw [hm, hv k (Nat.le_refl _) hk]
  · unfold gcm_Cipher_Tag.b0
    exact if_n (by omega) rfl
theorem Tag_eq (key nonce : Str) (hk : okKey key) (hn : nonce.length = 12) (aad b : Str) (ha : aad.length < 1000000) (hb : b.length < 1000000) : gcm_Cipher_Tag BOXV (keysOf (kw key)) (hE key).1 (hE key).2 nonce aad b = some (tagE key nonce aad b) := by
  unfold gcm_Cipher_Tag
  obtain ⟨V1, hV1, he1⟩ := ebytes_eq (szs aad b)
  obtain ⟨V2, hV2, he2⟩ := ebytes_eq (tagY key aad b)
  have hsz : ∀ n : Nat, (BitVec.ofInt 64 (n : Int)) * 8#64 = BitVec.ofNat 64 (8 * n) := fun n => by
    rw [BitVec.ofInt_natCast, Nat.mul_comm, BitVec.ofNat_mul]
  refine bind_i (newSum_eq (hE key)) (bind_i (all_eq (hE key) z2 aad (by omega)) (bind_i (all_eq (hE key) _ b (by omega)) ?_))
  rw [hsz, hsz]
  refine bind_i he1 (bind_i (add_eq (hE key) _ _ (by simp) (by simp)) ?_)
  rw [hV1, ld_by16, ← tagY_eq]
  refine bind_i he2 (bind_i (counter_eq nonce 1 hn (by decide)) (bind_i (Enc_eq key hk _) (bind_i (tag_b0 _ _) (congrArg some ?_))))
  have hV2i : ∀ i, vg V2 i = (by16 (tagY key aad b)).getD i 0#8 := fun i => by
    show V2.toList.getD i 0#8 = _
    rw [hV2]
  unfold tagE xo
  generalize tagY key aad b = Y at hV2i
  rw [by16_length]
  refine List.ext_getElem (by simp) fun i h1 h2 => ?_
  have hi : i < 16 := by simpa using h1
  simp only [Vector.getElem_toList, Vector.getElem_ofFn, List.getElem_map, List.getElem_range]
  unfold xoB
  rw [show 1 + i / 16 = 1 by omega, show i % 16 = i by omega, hV2i]
theorem tagR_eq (key nonce : Str) (hk : okKey key) (hn : nonce.length = 12) (aad c : Str) (ha : aad.length < 1000000) (hc : c.length < 1000000) : halberdref4_tag (kw key) nonce aad c = some (tagE key nonce aad c) := by
  have e1 : ∀ n : Nat, n < 1000000 → w64 (8 * (n : Int)) = ((8 * n : Nat) : Int) := fun n h => w64_mul (a := 8) (by omega)
  have f1 := fil_length aad
  have f2 := fil_length c
  unfold halberdref4_tag
  rw [e1 _ ha, e1 _ hc]
  have hz : toV (List.replicate 16 0#8) = Vector.replicate 16 0#8 := by decide +kernel
  refine if_i (by simp) (bind_i (ciph_eq key hk _ (by simp)) (bind_i (Be_eq _ 8 (by decide)) (bind_i (Be_eq _ 8 (by decide)) (if_i (by simp [bytesI_length]) (bind_i (filled_eq aad (by omega)) (bind_i (filled_eq c (by omega)) (if_i (by show (fil aad).length + (fil c).length ≤ _; omega) (if_i (by simp only [List.length_append, bytesI_length, List.length_replicate]; omega) ?_))))))))
  rw [hz]
  have hs : bytesI ((8 * aad.length : Nat) : Int) 8 ++ bytesI ((8 * c.length : Nat) : Int) 8 = by16 (szs aad c) := by
    rw [bytesI8_hexW, bytesI8_hexW]; rfl
  rw [hs]
  have hlen : (fil aad ++ fil c ++ by16 (szs aad c)).length < 1152921504606846976 := by
    simp only [List.length_append, by16_length]; omega
  refine bind_i (ghash_eq _ _ (by simp) hlen) (bind_i (counterR_eq key nonce hk hn 1 (by decide) _ (by rw [by16_length]; decide)) rfl)

/-! Seal, Open. -/
abbrev okG (key nonce aad : Str) (n most : Nat) : Prop := okKey key ∧ nonce.length = 12 ∧ aad.length ≤ 65536 ∧ n ≤ most
theorem may_eq (nonce aad : Str) (most long : Nat) : gcm_may nonce aad (most : Int) (long : Int) = some (decide (nonce.length = 12 ∧ aad.length ≤ 65536 ∧ long ≤ most)) := by
  unfold gcm_may
  by_cases c1 : nonce.length = 12
  · refine if_i (by omega) ?_
    by_cases c2 : aad.length ≤ 65536
    · refine if_i (by omega) (ltt_i fun x hx => ?_)
      rw [hx]
      refine congrArg some ?_
      rw [decide_eq_decide]
      omega
    · refine if_n (by omega) (congrArg some ?_)
      rw [eq_comm, decide_eq_false_iff_not]; omega
  · refine if_n (by omega) (congrArg some ?_)
    rw [eq_comm, decide_eq_false_iff_not]; omega
theorem gcmMay_eq (key nonce aad s : Str) (more : Nat) (hm : more ≤ 1000) : halberdref4_gcmMay key nonce aad s (more : Int) = some (decide (okG key nonce aad s.length (65536 + more))) := by
  have e1 : w64 (65536 + (more : Int)) = ((65536 + more : Nat) : Int) := w64_add (a := 65536) (by omega)
  unfold halberdref4_gcmMay okG okKey
  rw [e1]
  clear e1
  have tail : ∀ (hk : key.length = 16 ∨ key.length = 32), (if ((nonce).length : Int) = 12 then (if ((aad).length : Int) ≤ 65536 then (ltt (decide (((s).length : Int) ≤ ((65536 + more : Nat) : Int))) fun (x1 : Bool) => (some x1)) else (some false)) else (some false)) = some (decide ((key.length = 16 ∨ key.length = 32) ∧ nonce.length = 12 ∧ aad.length ≤ 65536 ∧ s.length ≤ 65536 + more)) := by
    intro hk
    by_cases c1 : nonce.length = 12
    · refine if_i (by omega) ?_
      by_cases c2 : aad.length ≤ 65536
      · refine if_i (by omega) (ltt_i fun x hx => ?_)
        rw [hx]
        refine congrArg some ?_
        rw [decide_eq_decide]
        omega
      · refine if_n (by omega) (congrArg some ?_)
        rw [eq_comm, decide_eq_false_iff_not]; omega
    · refine if_n (by omega) (congrArg some ?_)
      rw [eq_comm, decide_eq_false_iff_not]; omega
  by_cases k1 : key.length = 16
  · exact if_i (by omega) (tail (.inl k1))
  · refine if_n (by omega) ?_
    by_cases k2 : key.length = 32
    · exact if_i (by omega) (tail (.inr k2))
    · refine if_n (by omega) (congrArg some ?_)
      rw [eq_comm, decide_eq_false_iff_not]; omega
def sealE (key nonce aad s : Str) : Str × Int := if okG key nonce aad s.length 65536 then (xo key nonce 2 s ++ tagE key nonce aad (xo key nonce 2 s), 0) else ([], 500)
theorem tagE_length (key nonce aad c : Str) : (tagE key nonce aad c).length = 16 := by rw [tagE, xo_length, by16_length]
theorem Seal_eq (key nonce aad s : Str) : gcm_Seal key nonce aad s = some (sealE key nonce aad s) := by
  unfold gcm_Seal sealE
  by_cases hk : okKey key
  · refine bind_i (gNew_eq key hk) (bind_i (may_eq nonce aad 65536 s.length) ?_)
    by_cases c : nonce.length = 12 ∧ aad.length ≤ 65536 ∧ s.length ≤ 65536
    · have hx := xo_length key nonce 2 s
      have ht := tagE_length key nonce aad (xo key nonce 2 s)
      rw [if_pos (⟨hk, c⟩ : okG key nonce aad s.length 65536)]
      refine if_n (by simp [c]) (if_i (keys_len key).symm (bind_i (Xor_eq key nonce hk c.1 _ s (by omega)) (if_i hx (bind_i (Tag_eq key nonce hk c.1 aad _ (by omega) (by omega)) (if_i (by omega) rfl)))))
    · rw [if_neg (show ¬ okG key nonce aad s.length 65536 from fun h => c h.2)]
      exact if_i (by simp [c]) rfl
  · rw [if_neg (show ¬ okG key nonce aad s.length 65536 from fun h => hk h.1)]
    exact bind_i (gNew_none key hk) rfl
theorem SealR_eq (key nonce aad s : Str) : halberdref4_GcmSeal key nonce aad s = some (sealE key nonce aad s) := by
  unfold halberdref4_GcmSeal sealE
  refine bind_i (gcmMay_eq key nonce aad s 0 (by decide)) ?_
  rw [Nat.add_zero]
  by_cases c : okG key nonce aad s.length 65536
  · have hx := xo_length key nonce 2 s
    have ht := tagE_length key nonce aad (xo key nonce 2 s)
    obtain ⟨hk, hn, ha, hl⟩ := id c
    rw [if_pos c]
    refine if_n (by simp [c]) (bind_i (sched_eq key hk) (bind_i (counterR_eq key nonce hk hn 2 (by decide) s (by omega)) (bind_i (tagR_eq key nonce hk hn aad _ (by omega) (by omega)) (if_i (by omega) rfl))))
  · rw [if_neg c]
    exact if_i (by simp [c]) rfl
def openE (key nonce aad s : Str) : Str × Int :=
  if okG key nonce aad s.length 65552 then (if s.length < 16 then ([], 501) else if tagE key nonce aad (sub s 0 (s.length - 16)) ≠ sub s (s.length - 16) s.length then ([], 501) else (xo key nonce 2 (sub s 0 (s.length - 16)), 0)) else ([], 500)
theorem Open_eq (key nonce aad s : Str) : gcm_Open key nonce aad s = some (openE key nonce aad s) := by
  unfold gcm_Open openE
  by_cases hk : okKey key
  · refine bind_i (gNew_eq key hk) (bind_i (may_eq nonce aad 65552 s.length) ?_)
    by_cases c : nonce.length = 12 ∧ aad.length ≤ 65536 ∧ s.length ≤ 65552
    · rw [if_pos (⟨hk, c⟩ : okG key nonce aad s.length 65552)]
      have e0 : w64 ((s.length : Int) - 16) = (s.length : Int) - 16 := w64_id (by omega) (by omega)
      refine if_n (by simp [c]) (ltt_i fun n1 hn1 => ?_)
      rw [e0] at hn1
      clear e0
      by_cases c2 : s.length < 16
      · rw [if_pos c2]
        exact if_i (by omega) rfl
      · rw [if_neg c2]
        have hn : n1.toNat = s.length - 16 := by omega
        rw [hn]
        have hsl : (sub s 0 (s.length - 16)).length = s.length - 16 := by rw [sub_length (by omega)]; omega
        refine if_n (by omega) (if_i (by omega) (if_i (by omega) (if_i (keys_len key).symm (bind_i (Tag_eq key nonce hk c.1 aad _ (by omega) (by omega)) (if_i (by omega) (if_i (by omega) ?_))))))
        by_cases c3 : tagE key nonce aad (sub s 0 (s.length - 16)) ≠ sub s (s.length - 16) s.length
        · rw [if_pos c3, if_pos c3]
        · rw [if_neg c3, if_neg c3]
          exact bind_i (Xor_eq key nonce hk c.1 _ _ (by omega)) (if_i (xo_length _ _ _ _) rfl)
    · rw [if_neg (show ¬ okG key nonce aad s.length 65552 from fun h => c h.2)]
      exact if_i (by simp [c]) rfl
  · rw [if_neg (show ¬ okG key nonce aad s.length 65552 from fun h => hk h.1)]
    exact bind_i (gNew_none key hk) rfl
theorem OpenR_eq (key nonce aad s : Str) : halberdref4_GcmOpen key nonce aad s = some (openE key nonce aad s) := by
  unfold halberdref4_GcmOpen openE
  refine bind_i (gcmMay_eq key nonce aad s 16 (by decide)) ?_
  rw [show 65536 + 16 = 65552 from rfl]
  by_cases c : okG key nonce aad s.length 65552
  · obtain ⟨hk, hn0, ha, hl⟩ := id c
    rw [if_pos c]
    have e0 : w64 ((s.length : Int) - 16) = (s.length : Int) - 16 := w64_id (by omega) (by omega)
    refine if_n (by simp [c]) (ltt_i fun n1 hn1 => ?_)
    rw [e0] at hn1
    clear e0
    by_cases c2 : s.length < 16
    · rw [if_pos c2]
      exact if_i (by omega) rfl
    · rw [if_neg c2]
      have hn : n1.toNat = s.length - 16 := by omega
      rw [hn]
      have hsl : (sub s 0 (s.length - 16)).length = s.length - 16 := by rw [sub_length (by omega)]; omega
      refine if_n (by omega) (bind_i (sched_eq key hk) (if_i (by omega) (if_i (by omega) (bind_i (tagR_eq key nonce hk hn0 aad _ (by omega) (by omega)) (if_i (by omega) (if_i (by omega) ?_))))))
      by_cases c3 : tagE key nonce aad (sub s 0 (s.length - 16)) ≠ sub s (s.length - 16) s.length
      · rw [if_pos c3, if_pos c3]
      · rw [if_neg c3, if_neg c3]
        exact if_i (by omega) (if_i (by omega) (bind_i (counterR_eq key nonce hk hn0 2 (by decide) _ (by omega)) rfl))
  · rw [if_neg c]
    exact if_i (by simp [c]) rfl
end Go.Proofs
end

section
/-
  What every program answers, of sealed texts: by the kernel.
-/
namespace Go.Proofs
open Go Go.Kx
set_option maxRecDepth 100000 in
theorem awake5 : halberdlaw5_awake = some true := by kernel_rfl
end Go.Proofs
end

section
/-
  What the laws of sealed texts share.
-/
namespace Go.Proofs
open Go Go.Kx
set_option linter.unusedVariables false
set_option linter.unusedSimpArgs false
/-- A loop that writes into a list of so many bytes, and stops. -/
theorem loop_bytes {body : Int × Str → Option ((Int × Str) ⊕ Str)} (n : Nat) (hn : n < 1152921504606846976)
    (h : ∀ k t, k < n → t.length = n → (∃ t', t'.length = n ∧ body ((k : Int), t) = some (.inl (((k + 1 : Nat) : Int), t'))) ∨ body ((k : Int), t) = some (.inr t)) (h0 : ∀ t, t.length = n → body ((n : Int), t) = some (.inr t)) (t0 : Str) (ht0 : t0.length = n) :
    ∃ t : Str, t.length = n ∧ loop body BIG (0, t0) = some t := by
  refine loop_ex (fun o => ∃ t : Str, t.length = n ∧ o = some t) n BIG (fun d st => ∃ t : Str, t.length = n ∧ d ≤ n ∧ st = (((n - d : Nat) : Int), t)) _ ⟨t0, ht0, Nat.le_refl _, by rw [Nat.sub_self]; rfl⟩ (by unfold BIG; omega) ?_ ?_
  · rintro d st ⟨t, ht, hd, rfl⟩
    rcases h (n - (d + 1)) t (by omega) ht with ⟨t', ht', hb⟩ | hb
    · exact .inl ⟨_, hb, t', ht', by omega, by rw [show n - (d + 1) + 1 = n - d by omega]⟩
    · exact .inr ⟨t, hb, t, ht, rfl⟩
  · rintro st ⟨t, ht, hd, rfl⟩
    exact ⟨t, h0 t ht, t, ht, rfl⟩
theorem xo_xo (key nonce : Str) (f : Nat) (s : Str) : xo key nonce f (xo key nonce f s) = s := by
  unfold xo
  refine List.ext_getElem (by simp) fun i h1 h2 => ?_
  simp only [List.getElem_map, List.getElem_range, xoB, List.getD_eq_getElem?_getD, List.getElem?_map, List.getElem?_range h2, Option.map_some, Option.getD_some, BitVec.xor_assoc, BitVec.xor_self, BitVec.xor_zero]
  rw [List.getElem?_eq_getElem h2]; rfl
theorem sub_pre (a b : Str) (n : Nat) (h : n = a.length) : sub (a ++ b) 0 n = a := by
  unfold sub; rw [h]; simp
theorem sub_suf (a b : Str) (n m : Nat) (h : n = a.length) (h2 : m = (a ++ b).length) : sub (a ++ b) n m = b := by
  unfold sub; rw [h, h2]; simp
theorem open_seal (key nonce aad s : Str) (hk : okKey key) (hn : nonce.length = 12) (ha : aad.length ≤ 65536) (hs : s.length ≤ 65536) : openE key nonce aad (sealE key nonce aad s).1 = (s, 0) := by
  unfold sealE
  rw [if_pos ⟨hk, hn, ha, hs⟩]
  have hx := xo_length key nonce 2 s
  have ht := tagE_length key nonce aad (xo key nonce 2 s)
  have hl : (xo key nonce 2 s ++ tagE key nonce aad (xo key nonce 2 s)).length = s.length + 16 := by rw [List.length_append]; omega
  unfold openE
  rw [if_pos ⟨hk, hn, ha, by simp only; omega⟩]
  simp only
  rw [if_neg (by omega), hl, show s.length + 16 - 16 = s.length by omega, sub_pre _ _ _ (by omega), sub_suf _ _ _ _ (by omega) hl.symm, if_neg (by simp), xo_xo]
theorem iop_size (wide : Bool) : ∃ n : Nat, (n = 16 ∨ n = 32) ∧ (if wide = true then some (32 : Int) else some 16) = some (n : Int) := by
  cases wide
  · exact ⟨16, .inl rfl, rfl⟩
  · exact ⟨32, .inr rfl, rfl⟩
theorem getD_app_l (a b : Str) (i : Nat) (h : i < a.length) : (a ++ b).getD i 0#8 = a.getD i 0#8 := by
  rw [List.getD_eq_getElem?_getD, List.getD_eq_getElem?_getD, List.getElem?_append_left h]
theorem xo_at (key nonce : Str) (f : Nat) (s : Str) (i : Nat) (hi : i < s.length) : (xo key nonce f s).getD i 0#8 = xoB key nonce f s i := by
  simp [xo, List.getD_eq_getElem?_getD, hi]
end Go.Proofs
end

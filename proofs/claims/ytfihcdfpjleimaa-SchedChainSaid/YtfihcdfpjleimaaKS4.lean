/-
  Part KS4 of the proofs of this seat: ShaA, ShaB, ShaC, ShaD, ShaO.
-/
import Derived.Test.YtfihcdfpjleimaaK2
import Derived.Test.YtfihcdfpjleimaaKS2
import Derived.Test.YtfihcdfpjleimaaKS1
import Derived.Test.YtfihcdfpjleimaaKS3
section
/-
  SHA-256's and SHA-384's one block: the program's and the reference's are one function.
-/
namespace Go.Proofs
open Go Go.Kx
set_option linter.unusedVariables false
set_option linter.unusedSimpArgs false

def rot32 (x : BitVec 32) (k : Nat) : BitVec 32 := (x >>> k) ||| (x <<< (32 - k))
def rot64 (x : BitVec 64) (k : Nat) : BitVec 64 := (x >>> k) ||| (x <<< (64 - k))
theorem rot_n (x : BitVec 32) (k : Nat) (hk : k ≤ 32) : halberdref1_rot x (k : Int) = some (rot32 x k) := by
  have e : w64 (32 - (k : Int)) = ((32 - k : Nat) : Int) := by rw [w64_id (by omega) (by omega)]; omega
  unfold halberdref1_rot
  rw [e]
  exact if_i (by omega) (if_i (by omega) (ltt_i fun v hv => by rw [hv]; rfl))
theorem turn_n (x : BitVec 64) (k : Nat) (hk : k ≤ 64) : halberdref1_turn x (k : Int) = some (rot64 x k) := by
  have e : w64 (64 - (k : Int)) = ((64 - k : Nat) : Int) := by rw [w64_id (by omega) (by omega)]; omega
  unfold halberdref1_turn
  rw [e]
  exact if_i (by omega) (if_i (by omega) (ltt_i fun v hv => by rw [hv]; rfl))
theorem rl_n (x : BitVec 32) (k : Nat) (h0 : 0 < k) (hk : k < 32) : math_bits_RotateLeft32 x (-(k : Int)) = some (rot32 x k) := by
  have : ∀ k : Fin 32, 0 < k.val → ((BitVec.ofInt 64 (-(k.val : Int))) &&& 31#64).toNat = 32 - k.val ∧ (32#64 - ((BitVec.ofInt 64 (-(k.val : Int))) &&& 31#64)).toNat = k.val := by decide +kernel
  have h := this ⟨k, hk⟩ h0
  unfold math_bits_RotateLeft32
  refine ltt_i fun s hs => ltt_i fun v hv => ?_
  rw [hv, hs]
  dsimp only at h
  rw [h.1, h.2, BitVec.or_comm]
  rfl
theorem rl64_n (x : BitVec 64) (k : Nat) (h0 : 0 < k) (hk : k < 64) : math_bits_RotateLeft64 x (-(k : Int)) = some (rot64 x k) := by
  have : ∀ k : Fin 64, 0 < k.val → ((BitVec.ofInt 64 (-(k.val : Int))) &&& 63#64).toNat = 64 - k.val ∧ (64#64 - ((BitVec.ofInt 64 (-(k.val : Int))) &&& 63#64)).toNat = k.val := by decide +kernel
  have h := this ⟨k, hk⟩ h0
  unfold math_bits_RotateLeft64
  refine ltt_i fun s hs => ltt_i fun v hv => ?_
  rw [hv, hs]
  dsimp only at h
  rw [h.1, h.2, BitVec.or_comm]
  rfl

theorem word_eq (b : Str) (h : b.length < 1152921504606846976) : sha_word b = some (be8 b 0 b.length) := by
  unfold sha_word
  refine bind_i (loop_fn (fun k => (be8 b 0 k, (k : Int))) b.length (be8 b 0 b.length) h rfl (fun k hk => ?_) ?_) rfl
  · unfold sha_word.b0
    have e : w64 ((k : Int) + 1) = ((k + 1 : Nat) : Int) := by rw [w64_id (by omega) (by omega)]; omega
    simp only [e, Int.toNat_natCast]
    refine if_i (by omega) (if_i (by omega) (ltt_i fun c hc => ltt_i fun x hx => ?_))
    rw [hx, hc, lg_getD]
    simp only [be8, Nat.zero_add]
  · exact if_n (by show ¬ ((b.length : Int) < _); omega) rfl

/-! SHA-256 -/
def w256 (b : Str) (k : Nat) : BitVec 32 := (be8 b (4 * k) 4).setWidth 32
def mix256 (v : Vector (BitVec 32) 64) (k : Nat) : BitVec 32 :=
  ((vg v (k - 16) + vg v (k - 7)) + ((rot32 (vg v (k - 15)) 7 ^^^ rot32 (vg v (k - 15)) 18) ^^^ (vg v (k - 15) >>> 3))) + ((rot32 (vg v (k - 2)) 17 ^^^ rot32 (vg v (k - 2)) 19) ^^^ (vg v (k - 2) >>> 10))
def sch256 (b : Str) (k : Nat) (v : Vector (BitVec 32) 64) : Vector (BitVec 32) 64 := vp v k (if k < 16 then w256 b k else mix256 v k)
def W256 (b : Str) : Vector (BitVec 32) 64 := iter (sch256 b) 64 (Vector.replicate 64 0#32)

theorem t256_b0 (b : Str) (hb : 64 ≤ b.length) (hb2 : b.length < 1152921504606846976) : loop (sha_Hash_turns256.b0 b) BIG (0, Vector.replicate 64 0#32) = some (W256 b) := by
  refine loop_pl (fun k v => ((k : Int), v)) 64 (sch256 b) _ _ (by omega) (fun k v hk => ?_) ?_
  · have e1 : w64 ((k : Int) + 1) = ((k + 1 : Nat) : Int) := by rw [w64_id (by omega) (by omega)]; omega
    unfold sha_Hash_turns256.b0
    by_cases hc : k < 16
    · have e2 : w64 (4 * (k : Int)) = ((4 * k : Nat) : Int) := by rw [w64_id (by omega) (by omega)]; omega
      have e3 : w64 (((4 * k : Nat) : Int) + 4) = ((4 * k + 4 : Nat) : Int) := by rw [w64_id (by omega) (by omega)]; omega
      simp only [e1, e2, e3, Int.toNat_natCast]
      iterate 8 refine if_i (by omega) ?_
      have hl : (sub b (4 * k) (4 * k + 4)).length = 4 := by rw [sub_length (by omega)]; omega
      refine bind_i (word_eq _ (by rw [hl]; omega)) (if_i (by omega) (ltt_i fun m hm => ?_))
      rw [hl, be8_sub _ _ _ _ _ (by omega)] at hm
      rw [hm]
      simp only [sch256, if_pos hc, w256, Nat.add_zero]
    · have e2 : w64 ((k : Int) - 15) = ((k - 15 : Nat) : Int) := by rw [w64_id (by omega) (by omega)]; omega
      have e3 : w64 ((k : Int) - 2) = ((k - 2 : Nat) : Int) := by rw [w64_id (by omega) (by omega)]; omega
      have e4 : w64 ((k : Int) - 16) = ((k - 16 : Nat) : Int) := by rw [w64_id (by omega) (by omega)]; omega
      have e5 : w64 ((k : Int) - 7) = ((k - 7 : Nat) : Int) := by rw [w64_id (by omega) (by omega)]; omega
      simp only [e1, e2, e3, e4, e5, Int.toNat_natCast]
      refine if_i (by omega) (if_n (by omega) (if_i (by omega) (if_i (by omega) (ltt_i fun x hx => ltt_i fun y hy => if_i (by omega) (if_i (by omega) ?_)))))
      refine bind_i (rl_n _ 7 (by decide) (by decide)) (bind_i (rl_n _ 18 (by decide) (by decide)) (bind_i (rl_n _ 17 (by decide) (by decide)) (bind_i (rl_n _ 19 (by decide) (by decide)) ?_)))
      refine if_i (by omega) (ltt_i fun m hm => ?_)
      rw [hm, hx, hy]
      simp only [sch256, if_neg hc, mix256]
  · exact if_n (by show ¬ (((64 : Nat) : Int) < 64); omega) rfl

theorem w256_or (b : Str) (k : Nat) : ((((((b.getD (4 * k) 0#8).setWidth 32) <<< 24) ||| (((b.getD (4 * k + 1) 0#8).setWidth 32) <<< 16)) ||| (((b.getD (4 * k + 2) 0#8).setWidth 32) <<< 8)) ||| ((b.getD (4 * k + 3) 0#8).setWidth 32) : BitVec 32) = w256 b k := by
  simp only [w256, be8, Nat.add_zero]
  generalize b.getD (4 * k) 0#8 = p
  generalize b.getD (4 * k + 1) 0#8 = q
  generalize b.getD (4 * k + 2) 0#8 = r
  generalize b.getD (4 * k + 3) 0#8 = s
  apply BitVec.eq_of_getLsbD_eq
  intro i hi
  simp only [BitVec.getLsbD_or, BitVec.getLsbD_shiftLeft, BitVec.getLsbD_setWidth, BitVec.getLsbD_zero]
  have d1 : i < 64 := by omega
  have d2 : i - 8 < 64 := by omega
  have d3 : i - 16 < 64 := by omega
  have d4 : i - 24 < 64 := by omega
  have d5 : i - 8 < 32 := by omega
  have d6 : i - 16 < 32 := by omega
  have d7 : i - 24 < 32 := by omega
  have e1 : i - 8 - 8 = i - 16 := by omega
  have e2 : i - 16 - 8 = i - 24 := by omega
  simp only [e1, e2, hi, d1, d2, d3, d4, d5, d6, d7, decide_true, Bool.true_and]
  by_cases h8 : i < 8
  · simp [h8, show i < 16 by omega, show i < 24 by omega]
  · by_cases h16 : i < 16
    · simp [h8, h16, show i < 24 by omega, show i - 8 < 8 by omega]
    · by_cases h24 : i < 24
      · simp [h8, h16, h24, show ¬ i - 8 < 8 by omega, show i - 16 < 8 by omega]
      · simp [h8, h16, h24, show ¬ i - 8 < 8 by omega, show ¬ i - 16 < 8 by omega]
theorem r256_b0 (b : Str) (hb : 64 ≤ b.length) (hb2 : b.length < 1152921504606846976) : loop (halberdref1_block256.b0 b) BIG (0, Vector.replicate 64 0#32) = some (iter (sch256 b) 16 (Vector.replicate 64 0#32)) := by
  refine loop_pl (fun k v => ((k : Int), v)) 16 (sch256 b) _ _ (by omega) (fun k v hk => ?_) ?_
  · have e1 : w64 ((k : Int) + 1) = ((k + 1 : Nat) : Int) := by rw [w64_id (by omega) (by omega)]; omega
    have e2 : w64 (4 * (k : Int)) = ((4 * k : Nat) : Int) := by rw [w64_id (by omega) (by omega)]; omega
    have e3 : w64 (((4 * k : Nat) : Int) + 1) = ((4 * k + 1 : Nat) : Int) := by rw [w64_id (by omega) (by omega)]; omega
    have e4 : w64 (((4 * k : Nat) : Int) + 2) = ((4 * k + 2 : Nat) : Int) := by rw [w64_id (by omega) (by omega)]; omega
    have e5 : w64 (((4 * k : Nat) : Int) + 3) = ((4 * k + 3 : Nat) : Int) := by rw [w64_id (by omega) (by omega)]; omega
    unfold halberdref1_block256.b0
    simp only [e1, e2, e3, e4, e5, Int.toNat_natCast, sg_nat]
    iterate 6 refine if_i (by omega) ?_
    refine ltt_i fun m hm => ltt_i fun i hi => ?_
    rw [hi, hm, w256_or]
    simp only [sch256, if_pos hk]
  · exact if_n (by show ¬ (((16 : Nat) : Int) < 16); omega) rfl
theorem r256_b1 (b : Str) : loop (halberdref1_block256.b1) BIG (16, iter (sch256 b) 16 (Vector.replicate 64 0#32)) = some (W256 b) := by
  have hW : W256 b = iter (fun k => sch256 b (16 + k)) 48 (iter (sch256 b) 16 (Vector.replicate 64 0#32)) := iter_add (sch256 b) 16 _ 48
  rw [hW]
  refine loop_pl (fun k v => (((16 + k : Nat) : Int), v)) 48 (fun k => sch256 b (16 + k)) _ _ (by omega) (fun k v hk => ?_) ?_
  · have e1 : w64 (((16 + k : Nat) : Int) + 1) = ((16 + (k + 1) : Nat) : Int) := by rw [w64_id (by omega) (by omega)]; omega
    have e2 : w64 (((16 + k : Nat) : Int) - 15) = ((16 + k - 15 : Nat) : Int) := by rw [w64_id (by omega) (by omega)]; omega
    have e3 : w64 (((16 + k : Nat) : Int) - 2) = ((16 + k - 2 : Nat) : Int) := by rw [w64_id (by omega) (by omega)]; omega
    have e4 : w64 (((16 + k : Nat) : Int) - 16) = ((16 + k - 16 : Nat) : Int) := by rw [w64_id (by omega) (by omega)]; omega
    have e5 : w64 (((16 + k : Nat) : Int) - 7) = ((16 + k - 7 : Nat) : Int) := by rw [w64_id (by omega) (by omega)]; omega
    unfold halberdref1_block256.b1
    simp only [e1, e2, e3, e4, e5, Int.toNat_natCast]
    refine if_i (by omega) (if_i (by omega) (bind_i (rot_n _ 7 (by decide)) (if_i (by omega) (bind_i (rot_n _ 18 (by decide)) (if_i (by omega) (ltt_i fun a ha => if_i (by omega) ?_))))))
    refine bind_i (rot_n _ 17 (by decide)) (if_i (by omega) (bind_i (rot_n _ 19 (by decide)) (if_i (by omega) (ltt_i fun c hc => ?_))))
    iterate 3 refine if_i (by omega) ?_
    refine ltt_i fun m hm => ltt_i fun i hi => ?_
    rw [hi, hm, ha, hc]
    have : ∀ x y z : BitVec 32, x + y + z = x + z + y := fun x y z => by rw [BitVec.add_assoc, BitVec.add_comm y z, ← BitVec.add_assoc]
    rw [this (vg v (16 + k - 16))]
    simp only [sch256, if_neg (show ¬ 16 + k < 16 by omega), mix256]
  · exact if_n (by show ¬ (((16 + 48 : Nat) : Int) < 64); omega) rfl
def rnd256 (K : Nat → BitVec 32) (W : Vector (BitVec 32) 64) (k : Nat) (v : Vector (BitVec 32) 8) : Vector (BitVec 32) 8 :=
  ltt ((((vg v 7 + ((rot32 (vg v 4) 6 ^^^ rot32 (vg v 4) 11) ^^^ rot32 (vg v 4) 25)) + ((vg v 4 &&& vg v 5) ^^^ ((~~~ (vg v 4)) &&& vg v 6))) + K k) + vg W k) fun t =>
  ltt (((rot32 (vg v 0) 2 ^^^ rot32 (vg v 0) 13) ^^^ rot32 (vg v 0) 22) + (((vg v 0 &&& vg v 1) ^^^ (vg v 0 &&& vg v 2)) ^^^ (vg v 1 &&& vg v 2))) fun u =>
  #v[t + u, vg v 0, vg v 1, vg v 2, vg v 3 + t, vg v 4, vg v 5, vg v 6]
def KV : Vector (BitVec 64) 80 := sha_constants.getD (Vector.replicate 80 0#64)
set_option maxRecDepth 100000 in
theorem constants_eq : sha_constants = some KV := rfl
def K256 (k : Nat) : BitVec 32 := ((vg KV k) >>> 32).setWidth 32
def R256 (h : Vector (BitVec 32) 8) (b : Str) : Vector (BitVec 32) 8 := Vector.ofFn fun i => vg h i.val + vg (iter (rnd256 K256 (W256 b)) 64 h) i.val
/-- As 64 bits each. -/
def up (h : Vector (BitVec 32) 8) : Vector (BitVec 64) 8 := Vector.ofFn fun i => (vg h i.val).setWidth 64

theorem t256_b2 (b : Str) (h : Vector (BitVec 32) 8) : loop (sha_Hash_turns256.b2 KV (W256 b)) BIG (0, h) = some (iter (rnd256 K256 (W256 b)) 64 h) := by
  refine loop_pl (fun k v => ((k : Int), v)) 64 (rnd256 K256 (W256 b)) _ _ (by omega) (fun k v hk => ?_) ?_
  · have e1 : w64 ((k : Int) + 1) = ((k + 1 : Nat) : Int) := by rw [w64_id (by omega) (by omega)]; omega
    unfold sha_Hash_turns256.b2
    simp only [e1, Int.toNat_natCast]
    refine if_i (by omega) (bind_i (rl_n _ 6 (by decide) (by decide)) (bind_i (rl_n _ 11 (by decide) (by decide)) (bind_i (rl_n _ 25 (by decide) (by decide)) (if_i (by omega) (if_i (by omega) (ltt_i fun t ht => ?_))))))
    refine bind_i (rl_n _ 2 (by decide) (by decide)) (bind_i (rl_n _ 13 (by decide) (by decide)) (bind_i (rl_n _ 22 (by decide) (by decide)) (ltt_i fun u hu => ltt_i fun m hm => ?_)))
    have : m = rnd256 K256 (W256 b) k v := by rw [hm, hu, ht]; rfl
    rw [this]
  · exact if_n (by show ¬ (((64 : Nat) : Int) < 64); omega) rfl
def k256 : Vector (BitVec 32) 64 := #v[1116352408#32, 1899447441#32, 3049323471#32, 3921009573#32, 961987163#32, 1508970993#32, 2453635748#32, 2870763221#32, 3624381080#32, 310598401#32, 607225278#32, 1426881987#32, 1925078388#32, 2162078206#32, 2614888103#32, 3248222580#32, 3835390401#32, 4022224774#32, 264347078#32, 604807628#32, 770255983#32, 1249150122#32, 1555081692#32, 1996064986#32, 2554220882#32, 2821834349#32, 2952996808#32, 3210313671#32, 3336571891#32, 3584528711#32, 113926993#32, 338241895#32, 666307205#32, 773529912#32, 1294757372#32, 1396182291#32, 1695183700#32, 1986661051#32, 2177026350#32, 2456956037#32, 2730485921#32, 2820302411#32, 3259730800#32, 3345764771#32, 3516065817#32, 3600352804#32, 4094571909#32, 275423344#32, 430227734#32, 506948616#32, 659060556#32, 883997877#32, 958139571#32, 1322822218#32, 1537002063#32, 1747873779#32, 1955562222#32, 2024104815#32, 2227730452#32, 2361852424#32, 2428436474#32, 2756734187#32, 3204031479#32, 3329325298#32]
set_option maxRecDepth 100000 in
theorem k256_eq : ∀ k : Fin 64, vg k256 k.val = K256 k.val := by decide +kernel
theorem r256_b2 (b : Str) (h : Vector (BitVec 32) 8) : loop (halberdref1_block256.b2 k256 (W256 b)) BIG (0, h) = some (iter (rnd256 K256 (W256 b)) 64 h) := by
  refine loop_pl (fun k v => ((k : Int), v)) 64 (rnd256 K256 (W256 b)) _ _ (by omega) (fun k v hk => ?_) ?_
  · have e1 : w64 ((k : Int) + 1) = ((k + 1 : Nat) : Int) := by rw [w64_id (by omega) (by omega)]; omega
    have ek := k256_eq ⟨k, hk⟩
    dsimp only at ek
    unfold halberdref1_block256.b2
    simp only [e1, Int.toNat_natCast, ek]
    refine if_i (by omega) (bind_i (rot_n _ 6 (by decide)) (bind_i (rot_n _ 11 (by decide)) (bind_i (rot_n _ 25 (by decide)) (ltt_i fun a ha => if_i (by omega) (if_i (by omega) (ltt_i fun t ht => ?_))))))
    refine bind_i (rot_n _ 2 (by decide)) (bind_i (rot_n _ 13 (by decide)) (bind_i (rot_n _ 22 (by decide)) (ltt_i fun c hc => ltt_i fun u hu => ltt_i fun m hm => ltt_i fun i hi => ?_)))
    have : m = rnd256 K256 (W256 b) k v := by rw [hm, hu, ht, ha, hc]; rfl
    rw [this, hi]
  · exact if_n (by show ¬ (((64 : Nat) : Int) < 64); omega) rfl
/-- The low 32 bits of each. -/
def down (h : Vector (BitVec 64) 8) : Vector (BitVec 32) 8 := Vector.ofFn fun i => (vg h i.val).setWidth 32
theorem down_up (h : Vector (BitVec 32) 8) : down (up h) = h := vec_ext fun i hi => by
  rw [down, vg_ofFn hi, up, vg_ofFn hi]; simp
theorem t256_b1 (h : Vector (BitVec 64) 8) : loop (sha_Hash_turns256.b1 h) BIG (0, Vector.replicate 8 0#32) = some (down h) := by
  refine loop_fill (body := sha_Hash_turns256.b1 h) (Vector.replicate 8 0#32) (fun i => (vg h i).setWidth 32) id (by omega) (fun k v hk hv => ?_) (fun v => ?_)
  · have e1 : w64 ((k : Int) + 1) = ((k + 1 : Nat) : Int) := by rw [w64_id (by omega) (by omega)]; omega
    unfold sha_Hash_turns256.b1
    simp only [e1, Int.toNat_natCast]
    refine if_i (by omega) (if_i (by omega) (if_i (by omega) (ltt_i fun m hm => ?_)))
    rw [hm]
  · unfold sha_Hash_turns256.b1
    exact if_n (by omega) rfl
theorem t256_b3 (h : Vector (BitVec 64) 8) (s : Vector (BitVec 32) 8) : loop (sha_Hash_turns256.b3 s) BIG (0, h) = some (up (Vector.ofFn fun i => vg (down h) i.val + vg s i.val)) := by
  have := loop_fill (body := sha_Hash_turns256.b3 s) h (fun i => (vg (down h) i + vg s i).setWidth 64) id (by omega) (fun k v hk hv => ?_) (fun v => ?_)
  · refine this.trans (congrArg some (vec_ext fun i hi => ?_))
    simp only [id, vg_ofFn hi, up]
  · have e1 : w64 ((k : Int) + 1) = ((k + 1 : Nat) : Int) := by rw [w64_id (by omega) (by omega)]; omega
    unfold sha_Hash_turns256.b3
    simp only [e1, Int.toNat_natCast]
    refine if_i (by omega) (if_i (by omega) (if_i (by omega) (if_i (by omega) (ltt_i fun m hm => ?_))))
    rw [hm, hv k (Nat.le_refl _) hk, down, vg_ofFn hk]
  · unfold sha_Hash_turns256.b3
    exact if_n (by omega) rfl
theorem r256_b3 (h s : Vector (BitVec 32) 8) : loop (halberdref1_block256.b3 s) BIG (0, h) = some (Vector.ofFn fun i => vg h i.val + vg s i.val) := by
  refine loop_fill (body := halberdref1_block256.b3 s) h (fun i => vg h i + vg s i) id (by omega) (fun k v hk hv => ?_) (fun v => ?_)
  · have e1 : w64 ((k : Int) + 1) = ((k + 1 : Nat) : Int) := by rw [w64_id (by omega) (by omega)]; omega
    unfold halberdref1_block256.b3
    simp only [e1, Int.toNat_natCast]
    refine if_i (by omega) (if_i (by omega) (if_i (by omega) (if_i (by omega) (ltt_i fun m hm => ltt_i fun i hi => ?_))))
    rw [hi, hm, hv k (Nat.le_refl _) hk]
  · unfold halberdref1_block256.b3
    exact if_n (by omega) rfl
theorem turns256_eq (n : Int) (h : Vector (BitVec 64) 8) (rest : Str) (all : BitVec 64) (b : Str) (hb : 64 ≤ b.length) (hb2 : b.length < 1152921504606846976) : sha_Hash_turns256 n h KV rest all b = some (up (R256 (down h) b)) := by
  unfold sha_Hash_turns256
  exact bind_i (t256_b0 b hb hb2) (bind_i (t256_b1 h) (bind_i (t256_b2 b _) (bind_i (t256_b3 h _) rfl)))
theorem block256_eq (h : Vector (BitVec 32) 8) (b : Str) (hb : 64 ≤ b.length) (hb2 : b.length < 1152921504606846976) : halberdref1_block256 h b = some (R256 h b) := by
  unfold halberdref1_block256
  refine ltt_i fun m hm => bind_i (r256_b0 b hb hb2) (bind_i (r256_b1 b) (bind_i (v := iter (rnd256 K256 (W256 b)) 64 h) ?_ (bind_i (r256_b3 h _) rfl)))
  rw [hm]
  exact r256_b2 b h
end Go.Proofs
end

section
/-
  SHA-384's one block: the program's and the reference's are one function.
-/
namespace Go.Proofs
open Go Go.Kx
set_option linter.unusedVariables false
set_option linter.unusedSimpArgs false
def w512 (b : Str) (k : Nat) : BitVec 64 := be8 b (8 * k) 8
def mix512 (v : Vector (BitVec 64) 80) (k : Nat) : BitVec 64 :=
  ((vg v (k - 16) + vg v (k - 7)) + ((rot64 (vg v (k - 15)) 1 ^^^ rot64 (vg v (k - 15)) 8) ^^^ (vg v (k - 15) >>> 7))) + ((rot64 (vg v (k - 2)) 19 ^^^ rot64 (vg v (k - 2)) 61) ^^^ (vg v (k - 2) >>> 6))
def sch512 (b : Str) (k : Nat) (v : Vector (BitVec 64) 80) : Vector (BitVec 64) 80 := vp v k (if k < 16 then w512 b k else mix512 v k)
def W512 (b : Str) : Vector (BitVec 64) 80 := iter (sch512 b) 80 (Vector.replicate 80 0#64)
theorem t384_b0 (b : Str) (hb : 128 ≤ b.length) (hb2 : b.length < 1152921504606846976) : loop (sha_Hash_turns384.b0 b) BIG (0, Vector.replicate 80 0#64) = some (W512 b) := by
  refine loop_pl (fun k v => ((k : Int), v)) 80 (sch512 b) _ _ (by omega) (fun k v hk => ?_) ?_
  · have e1 : w64 ((k : Int) + 1) = ((k + 1 : Nat) : Int) := by rw [w64_id (by omega) (by omega)]; omega
    unfold sha_Hash_turns384.b0
    by_cases hc : k < 16
    · have e2 : w64 (8 * (k : Int)) = ((8 * k : Nat) : Int) := by rw [w64_id (by omega) (by omega)]; omega
      have e3 : w64 (((8 * k : Nat) : Int) + 8) = ((8 * k + 8 : Nat) : Int) := by rw [w64_id (by omega) (by omega)]; omega
      simp only [e1, e2, e3, Int.toNat_natCast]
      iterate 8 refine if_i (by omega) ?_
      have hl : (sub b (8 * k) (8 * k + 8)).length = 8 := by rw [sub_length (by omega)]; omega
      refine bind_i (word_eq _ (by rw [hl]; omega)) (if_i (by omega) (ltt_i fun m hm => ?_))
      rw [hl, be8_sub _ _ _ _ _ (by omega)] at hm
      rw [hm]
      simp only [sch512, if_pos hc, w512, Nat.add_zero]
    · have e2 : w64 ((k : Int) - 15) = ((k - 15 : Nat) : Int) := by rw [w64_id (by omega) (by omega)]; omega
      have e3 : w64 ((k : Int) - 2) = ((k - 2 : Nat) : Int) := by rw [w64_id (by omega) (by omega)]; omega
      have e4 : w64 ((k : Int) - 16) = ((k - 16 : Nat) : Int) := by rw [w64_id (by omega) (by omega)]; omega
      have e5 : w64 ((k : Int) - 7) = ((k - 7 : Nat) : Int) := by rw [w64_id (by omega) (by omega)]; omega
      simp only [e1, e2, e3, e4, e5, Int.toNat_natCast]
      refine if_i (by omega) (if_n (by omega) (if_i (by omega) (if_i (by omega) (ltt_i fun x hx => ltt_i fun y hy => if_i (by omega) (if_i (by omega) ?_)))))
      refine bind_i (rl64_n _ 1 (by decide) (by decide)) (bind_i (rl64_n _ 8 (by decide) (by decide)) (bind_i (rl64_n _ 19 (by decide) (by decide)) (bind_i (rl64_n _ 61 (by decide) (by decide)) ?_)))
      refine if_i (by omega) (ltt_i fun m hm => ?_)
      rw [hm, hx, hy]
      simp only [sch512, if_neg hc, mix512]
  · exact if_n (by show ¬ (((80 : Nat) : Int) < 80); omega) rfl
theorem r512_b1 (b : Str) (i : Nat) (v : Vector (BitVec 64) 80) (hi : i < 16) (hv : vg v i = 0#64) (hb : 128 ≤ b.length) (hb2 : b.length < 1152921504606846976) :
    loop (halberdref1_block512.b1 b ((i : Int), v)) BIG (0, v) = some (vp v i (w512 b i)) := by
  have hset : ∀ x y : BitVec 64, vp (vp v i x) i y = vp v i y := fun x y => vec_ext fun j hj => by
    rw [vg_vp (by omega) hj, vg_vp (by omega) hj, vg_vp (by omega) hj]
    split <;> rfl
  have hfull : ∀ n, n < 8 → vg (if n = 0 then v else vp v i (be8 b (8 * i) n)) i = be8 b (8 * i) n := fun n hn => by
    by_cases h0 : n = 0
    · rw [if_pos h0, h0, hv]; rfl
    · rw [if_neg h0, vg_vp (by omega) (by omega), if_pos rfl]
  refine loop_fn (fun k => ((k : Int), if k = 0 then v else vp v i (be8 b (8 * i) k))) 8 _ (by omega) rfl (fun k hk => ?_) ?_
  · have e1 : w64 ((k : Int) + 1) = ((k + 1 : Nat) : Int) := by rw [w64_id (by omega) (by omega)]; omega
    have e2 : w64 (8 * (i : Int)) = ((8 * i : Nat) : Int) := by rw [w64_id (by omega) (by omega)]; omega
    have e3 : w64 (((8 * i : Nat) : Int) + (k : Int)) = ((8 * i + k : Nat) : Int) := by rw [w64_id (by omega) (by omega)]; omega
    unfold halberdref1_block512.b1
    simp only [e1, e2, e3, Int.toNat_natCast, sg_nat, hfull k hk]
    refine if_i (by omega) (if_i (by omega) (if_i (by omega) (if_i (by omega) (ltt_i fun m hm => ltt_i fun j hj => ?_))))
    have : m = vp v i (be8 b (8 * i) (k + 1)) := by
      rw [hm]
      by_cases h0 : k = 0
      · rw [if_pos h0]; rfl
      · rw [if_neg h0, hset]; rfl
    rw [hj, this, if_neg (show ¬ k + 1 = 0 by omega)]
  · exact if_n (by show ¬ (((8 : Nat) : Int) < 8); omega) rfl
theorem r512_b0 (b : Str) (hb : 128 ≤ b.length) (hb2 : b.length < 1152921504606846976) : loop (halberdref1_block512.b0 b) BIG (0, Vector.replicate 80 0#64) = some (iter (sch512 b) 16 (Vector.replicate 80 0#64)) := by
  refine loop_st (fun k v => ((k : Int), v)) 16 (sch512 b) _ _ (fun k v => ∀ j, k ≤ j → j < 80 → vg v j = 0#64) (by omega) (fun j _ hj => by rw [vg_eq' hj]; simp) (fun k v hk hv => ⟨?_, fun j h1 h2 => ?_⟩) (fun v hv he => ?_)
  · have e1 : w64 ((k : Int) + 1) = ((k + 1 : Nat) : Int) := by rw [w64_id (by omega) (by omega)]; omega
    unfold halberdref1_block512.b0
    simp only [e1]
    refine if_i (by omega) (bind_i (r512_b1 b k v hk (hv k (by omega) (by omega)) hb hb2) (ltt_i fun i hi => ?_))
    rw [hi, sch512, if_pos hk]
  · rw [sch512, vg_vp (by omega) h2, if_neg (by omega)]
    exact hv j (by omega) h2
  · rw [he]
    exact if_n (by show ¬ (((16 : Nat) : Int) < 16); omega) rfl
theorem r512_b2 (b : Str) : loop (halberdref1_block512.b2) BIG (16, iter (sch512 b) 16 (Vector.replicate 80 0#64)) = some (W512 b) := by
  have hW : W512 b = iter (fun k => sch512 b (16 + k)) 64 (iter (sch512 b) 16 (Vector.replicate 80 0#64)) := iter_add (sch512 b) 16 _ 64
  rw [hW]
  refine loop_pl (fun k v => (((16 + k : Nat) : Int), v)) 64 (fun k => sch512 b (16 + k)) _ _ (by omega) (fun k v hk => ?_) ?_
  · have e1 : w64 (((16 + k : Nat) : Int) + 1) = ((16 + (k + 1) : Nat) : Int) := by rw [w64_id (by omega) (by omega)]; omega
    have e2 : w64 (((16 + k : Nat) : Int) - 15) = ((16 + k - 15 : Nat) : Int) := by rw [w64_id (by omega) (by omega)]; omega
    have e3 : w64 (((16 + k : Nat) : Int) - 2) = ((16 + k - 2 : Nat) : Int) := by rw [w64_id (by omega) (by omega)]; omega
    have e4 : w64 (((16 + k : Nat) : Int) - 16) = ((16 + k - 16 : Nat) : Int) := by rw [w64_id (by omega) (by omega)]; omega
    have e5 : w64 (((16 + k : Nat) : Int) - 7) = ((16 + k - 7 : Nat) : Int) := by rw [w64_id (by omega) (by omega)]; omega
    unfold halberdref1_block512.b2
    simp only [e1, e2, e3, e4, e5, Int.toNat_natCast]
    refine if_i (by omega) (if_i (by omega) (bind_i (turn_n _ 1 (by decide)) (if_i (by omega) (bind_i (turn_n _ 8 (by decide)) (if_i (by omega) (ltt_i fun a ha => if_i (by omega) ?_))))))
    refine bind_i (turn_n _ 19 (by decide)) (if_i (by omega) (bind_i (turn_n _ 61 (by decide)) (if_i (by omega) (ltt_i fun c hc => ?_))))
    iterate 3 refine if_i (by omega) ?_
    refine ltt_i fun m hm => ltt_i fun i hi => ?_
    rw [hi, hm, ha, hc]
    have : ∀ x y z : BitVec 64, x + y + z = x + z + y := fun x y z => by rw [BitVec.add_assoc, BitVec.add_comm y z, ← BitVec.add_assoc]
    rw [this (vg v (16 + k - 16))]
    simp only [sch512, if_neg (show ¬ 16 + k < 16 by omega), mix512]
  · exact if_n (by show ¬ (((16 + 64 : Nat) : Int) < 80); omega) rfl
def rnd512 (W : Vector (BitVec 64) 80) (k : Nat) (v : Vector (BitVec 64) 8) : Vector (BitVec 64) 8 :=
  ltt ((((vg v 7 + ((rot64 (vg v 4) 14 ^^^ rot64 (vg v 4) 18) ^^^ rot64 (vg v 4) 41)) + ((vg v 4 &&& vg v 5) ^^^ ((~~~ (vg v 4)) &&& vg v 6))) + vg KV k) + vg W k) fun t =>
  ltt (((rot64 (vg v 0) 28 ^^^ rot64 (vg v 0) 34) ^^^ rot64 (vg v 0) 39) + (((vg v 0 &&& vg v 1) ^^^ (vg v 0 &&& vg v 2)) ^^^ (vg v 1 &&& vg v 2))) fun u =>
  #v[t + u, vg v 0, vg v 1, vg v 2, vg v 3 + t, vg v 4, vg v 5, vg v 6]
def R512 (h : Vector (BitVec 64) 8) (b : Str) : Vector (BitVec 64) 8 := Vector.ofFn fun i => vg h i.val + vg (iter (rnd512 (W512 b)) 80 h) i.val
theorem t384_b1 (b : Str) (h : Vector (BitVec 64) 8) : loop (sha_Hash_turns384.b1 KV (W512 b)) BIG (0, h) = some (iter (rnd512 (W512 b)) 80 h) := by
  refine loop_pl (fun k v => ((k : Int), v)) 80 (rnd512 (W512 b)) _ _ (by omega) (fun k v hk => ?_) ?_
  · have e1 : w64 ((k : Int) + 1) = ((k + 1 : Nat) : Int) := by rw [w64_id (by omega) (by omega)]; omega
    unfold sha_Hash_turns384.b1
    simp only [e1, Int.toNat_natCast]
    refine if_i (by omega) (bind_i (rl64_n _ 14 (by decide) (by decide)) (bind_i (rl64_n _ 18 (by decide) (by decide)) (bind_i (rl64_n _ 41 (by decide) (by decide)) (if_i (by omega) (if_i (by omega) (ltt_i fun t ht => ?_))))))
    refine bind_i (rl64_n _ 28 (by decide) (by decide)) (bind_i (rl64_n _ 34 (by decide) (by decide)) (bind_i (rl64_n _ 39 (by decide) (by decide)) (ltt_i fun u hu => ltt_i fun m hm => ?_)))
    have : m = rnd512 (W512 b) k v := by rw [hm, hu, ht]; rfl
    rw [this]
  · exact if_n (by show ¬ (((80 : Nat) : Int) < 80); omega) rfl
theorem r512_b3 (b : Str) (h : Vector (BitVec 64) 8) : loop (halberdref1_block512.b3 KV (W512 b)) BIG (0, h) = some (iter (rnd512 (W512 b)) 80 h) := by
  refine loop_pl (fun k v => ((k : Int), v)) 80 (rnd512 (W512 b)) _ _ (by omega) (fun k v hk => ?_) ?_
  · have e1 : w64 ((k : Int) + 1) = ((k + 1 : Nat) : Int) := by rw [w64_id (by omega) (by omega)]; omega
    unfold halberdref1_block512.b3
    simp only [e1, Int.toNat_natCast]
    refine if_i (by omega) (bind_i (turn_n _ 14 (by decide)) (bind_i (turn_n _ 18 (by decide)) (bind_i (turn_n _ 41 (by decide)) (ltt_i fun a ha => if_i (by omega) (if_i (by omega) (ltt_i fun t ht => ?_))))))
    refine bind_i (turn_n _ 28 (by decide)) (bind_i (turn_n _ 34 (by decide)) (bind_i (turn_n _ 39 (by decide)) (ltt_i fun c hc => ltt_i fun u hu => ltt_i fun m hm => ltt_i fun i hi => ?_)))
    have : m = rnd512 (W512 b) k v := by rw [hm, hu, ht, ha, hc]; rfl
    rw [this, hi]
  · exact if_n (by show ¬ (((80 : Nat) : Int) < 80); omega) rfl
theorem t384_b2 (h s : Vector (BitVec 64) 8) : loop (sha_Hash_turns384.b2 s) BIG (0, h) = some (Vector.ofFn fun i => vg h i.val + vg s i.val) := by
  refine loop_fill (body := sha_Hash_turns384.b2 s) h (fun i => vg h i + vg s i) id (by omega) (fun k v hk hv => ?_) (fun v => ?_)
  · have e1 : w64 ((k : Int) + 1) = ((k + 1 : Nat) : Int) := by rw [w64_id (by omega) (by omega)]; omega
    unfold sha_Hash_turns384.b2
    simp only [e1, Int.toNat_natCast]
    refine if_i (by omega) (if_i (by omega) (if_i (by omega) (if_i (by omega) (ltt_i fun m hm => ?_))))
    rw [hm, hv k (Nat.le_refl _) hk]
  · unfold sha_Hash_turns384.b2
    exact if_n (by omega) rfl
theorem r512_b4 (h s : Vector (BitVec 64) 8) : loop (halberdref1_block512.b4 s) BIG (0, h) = some (Vector.ofFn fun i => vg h i.val + vg s i.val) := by
  refine loop_fill (body := halberdref1_block512.b4 s) h (fun i => vg h i + vg s i) id (by omega) (fun k v hk hv => ?_) (fun v => ?_)
  · have e1 : w64 ((k : Int) + 1) = ((k + 1 : Nat) : Int) := by rw [w64_id (by omega) (by omega)]; omega
    unfold halberdref1_block512.b4
    simp only [e1, Int.toNat_natCast]
    refine if_i (by omega) (if_i (by omega) (if_i (by omega) (if_i (by omega) (ltt_i fun m hm => ltt_i fun i hi => ?_))))
    rw [hi, hm, hv k (Nat.le_refl _) hk]
  · unfold halberdref1_block512.b4
    exact if_n (by omega) rfl
theorem turns384_eq (n : Int) (h : Vector (BitVec 64) 8) (rest : Str) (all : BitVec 64) (b : Str) (hb : 128 ≤ b.length) (hb2 : b.length < 1152921504606846976) : sha_Hash_turns384 n h KV rest all b = some (R512 h b) := by
  unfold sha_Hash_turns384
  exact bind_i (t384_b0 b hb hb2) (bind_i (t384_b1 b h) (bind_i (t384_b2 h _) rfl))
set_option maxRecDepth 100000 in
theorem block512_eq (h : Vector (BitVec 64) 8) (b : Str) (hb : 128 ≤ b.length) (hb2 : b.length < 1152921504606846976) : halberdref1_block512 h b = some (R512 h b) := by
  unfold halberdref1_block512
  refine ltt_i fun m hm => bind_i (r512_b0 b hb hb2) (bind_i (r512_b2 b) (bind_i (v := iter (rnd512 (W512 b)) 80 h) ?_ (bind_i (r512_b4 h _) rfl)))
  have : m = KV := hm
  rw [this]
  exact r512_b3 b h
end Go.Proofs
end

section
/-
  A hash in the making: what its state is behind any text.
-/
namespace Go.Proofs
open Go Go.Kx
set_option linter.unusedVariables false
set_option linter.unusedSimpArgs false
/-- A block's size. -/
def bsz (n : Int) : Nat := if n = 256 then 64 else 128
theorem bsz_or (n : Int) : bsz n = 64 ∨ bsz n = 128 := by unfold bsz; split <;> simp
/-- One block worked in. -/
def comp (n : Int) (h : Vector (BitVec 64) 8) (b : Str) : Vector (BitVec 64) 8 := if n = 256 then up (R256 (down h) b) else R512 h b
theorem turn_eq (n : Int) (h : Vector (BitVec 64) 8) (rest : Str) (all : BitVec 64) (b : Str) (hb : bsz n ≤ b.length) (hb2 : b.length < 1152921504606846976) : sha_Hash_turn n h KV rest all b = some (comp n h b) := by
  unfold sha_Hash_turn comp
  unfold bsz at hb
  by_cases hn : n = 256
  · rw [if_pos hn] at hb
    refine if_i hn (bind_i (turns256_eq n h rest all b hb hb2) ?_)
    rw [if_pos hn]
  · rw [if_neg hn] at hb
    refine if_n hn (bind_i (turns384_eq n h rest all b hb hb2) ?_)
    rw [if_neg hn]
theorem hblock_eq (n : Int) (h k r a) : sha_Hash_block n h k r a = some (bsz n : Int) := by
  unfold sha_Hash_block bsz
  by_cases hn : n = 256
  · rw [if_pos hn, if_pos hn]; rfl
  · rw [if_neg hn, if_neg hn]; rfl
/-- So many blocks of a text worked in. -/
def blks (n : Int) (s : Str) (j : Nat) (h : Vector (BitVec 64) 8) : Vector (BitVec 64) 8 := comp n h (sub s (bsz n * j) (bsz n * j + bsz n))
def begn (n : Int) : Vector (BitVec 64) 8 := (sha_begin n).getD (Vector.replicate 8 0#64)
theorem begin_eq (n : Int) : sha_begin n = some (begn n) := by
  unfold begn
  have : ∃ v, sha_begin n = some v := by
    unfold sha_begin
    by_cases hn : n = 256
    · rw [if_pos hn]; exact ⟨_, rfl⟩
    · rw [if_neg hn]; exact ⟨_, rfl⟩
  obtain ⟨v, hv⟩ := this
  rw [hv]; rfl
/-- What is worked in behind a text; what is left. -/
def stH (n : Int) (s : Str) : Vector (BitVec 64) 8 := iter (blks n s) (s.length / bsz n) (begn n)
def stR (n : Int) (s : Str) : Str := s.drop (bsz n * (s.length / bsz n))
theorem stR_length (n : Int) (s : Str) : (stR n s).length = s.length % bsz n := by
  unfold stR
  rw [List.length_drop]
  have := Nat.div_add_mod s.length (bsz n)
  omega
theorem stR_lt (n : Int) (s : Str) : (stR n s).length < bsz n := by
  rw [stR_length]
  exact Nat.mod_lt _ (by rcases bsz_or n with h | h <;> omega)
theorem st_app (n : Int) (s t : Str) : stH n (s ++ t) = iter (blks n (stR n s ++ t)) ((stR n s ++ t).length / bsz n) (stH n s) ∧ stR n (s ++ t) = (stR n s ++ t).drop (bsz n * ((stR n s ++ t).length / bsz n)) := by
  have hB := bsz_or n
  have hR := stR_length n s
  have hdrop : (s ++ t).drop (bsz n * (s.length / bsz n)) = stR n s ++ t := by
    have : bsz n * (s.length / bsz n) ≤ s.length := Nat.mul_div_le _ _
    rw [List.drop_append_of_le_length this]; rfl
  have hlen : (s ++ t).length / bsz n = s.length / bsz n + (stR n s ++ t).length / bsz n := by
    rw [List.length_append, List.length_append, hR]
    rcases hB with h | h <;> rw [h] <;> omega
  refine ⟨?_, ?_⟩
  · unfold stH
    rw [hlen, iter_add]
    have h1 : iter (blks n (s ++ t)) (s.length / bsz n) (begn n) = iter (blks n s) (s.length / bsz n) (begn n) := iter_congr fun k hk h => by
      unfold blks
      rw [sub_app_l]
      have := Nat.mul_le_mul_left (bsz n) (show k + 1 ≤ s.length / bsz n by omega)
      have := Nat.mul_div_le s.length (bsz n)
      rw [Nat.mul_add, Nat.mul_one] at *
      omega
    rw [h1]
    refine iter_congr fun k hk h => ?_
    unfold blks
    rw [← hdrop]
    unfold sub
    rw [List.drop_drop, Nat.mul_add]
    congr 2
    omega
  · rw [← hdrop, List.drop_drop]
    unfold stR
    rw [hlen, Nat.mul_add, hdrop]
theorem write_eq (n : Int) (s t : Str) (all : BitVec 64) (ht : s.length % bsz n + t.length ≤ 140737488355328) :
    sha_Hash_Write n (stH n s) KV (stR n s) all t = some (stH n (s ++ t), stR n (s ++ t), all + BitVec.ofNat 64 t.length) := by
  have hB := bsz_or n
  have hR := stR_length n s
  obtain ⟨hH, hD⟩ := st_app n s t
  generalize hL : stR n s ++ t = L at hH hD
  have hLl : L.length = s.length % bsz n + t.length := by rw [← hL, List.length_append, hR]
  unfold sha_Hash_Write
  refine if_i (by rw [hR]; exact ht) (ltt_i fun l1 hl1 => ?_)
  rw [hL] at hl1
  subst hl1
  generalize hq : l1.length / bsz n = q at hH hD
  have hq1 : bsz n * q ≤ l1.length := by rw [← hq]; exact Nat.mul_div_le _ _
  have hq2 : l1.length < bsz n * q + bsz n := by
    have := Nat.div_add_mod l1.length (bsz n)
    have := Nat.mod_lt l1.length (show bsz n > 0 by omega)
    rw [← hq]; omega
  have hq3 : q ≤ l1.length := by rw [← hq]; exact Nat.div_le_self _ _
  refine bind_i (hblock_eq n _ _ _ _) ?_
  refine bind_i (v := (((bsz n * q : Nat) : Int), iter (blks n l1) q (stH n s))) (loop_pl (fun k h => (((bsz n * k : Nat) : Int), h)) q (blks n l1) _ _ (by omega) (fun k h hk => ?_) ?_) ?_
  · have h2 : bsz n * k + bsz n ≤ bsz n * q := by
      have := Nat.mul_le_mul_left (bsz n) (show k + 1 ≤ q by omega)
      rwa [Nat.mul_add, Nat.mul_one] at this
    have e1 : w64 ((l1.length : Int) - ((bsz n * k : Nat) : Int)) = ((l1.length - bsz n * k : Nat) : Int) := by rw [w64_id (by omega) (by omega)]; omega
    have e2 : w64 (((bsz n * k : Nat) : Int) + (bsz n : Int)) = ((bsz n * k + bsz n : Nat) : Int) := by rw [w64_id (by omega) (by omega)]; omega
    unfold sha_Hash_Write.b0
    simp only [e1, e2, Int.toNat_natCast]
    clear e1 e2 hH hD hL
    refine if_i (by omega) ?_
    iterate 6 refine if_i (by omega) ?_
    have hl : (sub l1 (bsz n * k) (bsz n * k + bsz n)).length = bsz n := by rw [sub_length (by omega)]; omega
    refine bind_i (turn_eq n h l1 _ (sub l1 (bsz n * k) (bsz n * k + bsz n)) (by rw [hl]; exact Nat.le_refl _) (by rw [hl]; omega)) (ltt_i fun a ha => ?_)
    rw [ha, Nat.mul_add, Nat.mul_one]
    rfl
  · have e1 : w64 ((l1.length : Int) - ((bsz n * q : Nat) : Int)) = ((l1.length - bsz n * q : Nat) : Int) := by rw [w64_id (by omega) (by omega)]; omega
    unfold sha_Hash_Write.b0
    simp only [e1]
    exact if_n (by omega) rfl
  · simp only [Int.toNat_natCast]
    have hs : sub l1 (bsz n * q) l1.length = stR n (s ++ t) := by
      rw [hD]
      unfold sub
      exact List.take_of_length_le (by rw [List.length_drop]; omega)
    have hl : (stR n (s ++ t)).length ≤ l1.length := by rw [hD, List.length_drop]; omega
    rw [hs]
    refine if_i (by omega) (if_i hq1 (if_i (by simp; omega) (ltt_i fun l2 hl2 => ?_)))
    rw [hl2, hH, List.nil_append, BitVec.ofInt_natCast]
theorem new_eq (n : Int) (hn : n = 256 ∨ n = 384) : sha_New n = some (.inr (n, begn n, KV, [])) := by
  unfold sha_New
  rcases hn with h | h
  · exact if_n (by omega) (bind_i (begin_eq n) (bind_i constants_eq rfl))
  · exact if_i (by omega) (if_n (by omega) (bind_i (begin_eq n) (bind_i constants_eq rfl)))
theorem new_none (n : Int) (hn : ¬ (n = 256 ∨ n = 384)) : sha_New n = some (.inl ()) := by
  unfold sha_New
  exact if_i (by omega) (if_i (by omega) rfl)
theorem stH_nil (n : Int) : stH n [] = begn n := by simp [stH, iter]
theorem stR_nil (n : Int) : stR n [] = [] := by simp [stR]
end Go.Proofs
end

section
/-
  Digests: the program's and the reference's.
-/
namespace Go.Proofs
open Go Go.Kx
set_option linter.unusedVariables false
set_option linter.unusedSimpArgs false
/-- How long what is put behind a text is. -/
def padP (B L : Nat) : Nat := 1 + (2 * B - 1 - B / 8 - L % B) % B + B / 8
def padF (P L k i : Nat) : BitVec 8 := if i = 0 then 128#8 else if i + k < P then 0#8 else BitVec.ofInt 8 ((8 * L : Int) / 256 ^ (P - 1 - i))
def padT (B L : Nat) : Str := (List.range (padP B L)).map (padF (padP B L) L 8)
theorem padT_length (B L : Nat) : (padT B L).length = padP B L := by simp [padT]
theorem padT_eq (B L Z : Nat) (hZ : padP B L = Z + 9) : ([128#8] : Str) ++ List.replicate Z 0#8 ++ bytesI (8 * L) 8 = padT B L := by
  unfold padT
  rw [hZ]
  refine List.ext_getElem (by simp [bytesI]) fun i h1 h2 => ?_
  simp only [List.length_map, List.length_range] at h2
  simp only [List.getElem_map, List.getElem_range, padF]
  by_cases c0 : i = 0
  · subst c0; simp
  · rw [if_neg c0]
    by_cases c1 : i + 8 < Z + 9
    · rw [if_pos c1, List.getElem_append_left (by simp; omega), List.getElem_append_right (by simp; omega), List.getElem_replicate]
    · rw [if_neg c1, List.getElem_append_right (by simp; omega)]
      simp only [bytesI, List.getElem_map, List.getElem_range, List.length_append, List.length_cons, List.length_nil, List.length_replicate]
      rw [show 8 - 1 - (i - (0 + 1 + Z)) = Z + 9 - 1 - i by omega]
theorem padP_ge (B L : Nat) (hB : B = 64 ∨ B = 128) : 9 ≤ padP B L ∧ padP B L ≤ 200 := by
  unfold padP
  rcases hB with h | h <;> subst h <;> omega
theorem pad_z (L B : Nat) (hB : B = 64 ∨ B = 128) : padP B L = ((if B - (L + 1 + B / 8) % B = B then 0 else B - (L + 1 + B / 8) % B) + B / 8 - 8) + 9 ∧ 8 ≤ (if B - (L + 1 + B / 8) % B = B then 0 else B - (L + 1 + B / 8) % B) + B / 8 ∧ (if B - (L + 1 + B / 8) % B = B then 0 else B - (L + 1 + B / 8) % B) ≤ 128 := by
  unfold padP
  rcases hB with h | h <;> subst h <;> split <;> omega
theorem padded_eq (s : Str) (B : Nat) (hB : B = 64 ∨ B = 128) (hs : s.length < 1152921504606846976) : halberdref1_padded s (B : Int) ((B / 8 : Nat) : Int) = some (s ++ padT B s.length) := by
  obtain ⟨hZ, hj8, hj⟩ := pad_z s.length B hB
  have hm : (s.length + 1 + B / 8) % B < B := Nat.mod_lt _ (by omega)
  have hT := padT_eq B s.length _ hZ
  clear hZ
  have e1 : w64 ((s.length : Int) + 1) = ((s.length + 1 : Nat) : Int) := w64_add (b := 1) (by omega)
  have e2 : w64 (((s.length + 1 : Nat) : Int) + ((B / 8 : Nat) : Int)) = ((s.length + 1 + B / 8 : Nat) : Int) := w64_add (by omega)
  have e3 : (((s.length + 1 + B / 8 : Nat) : Int)).tmod (B : Int) = (((s.length + 1 + B / 8) % B : Nat) : Int) := tmodN' _ _
  have e4 : w64 ((B : Int) - (((s.length + 1 + B / 8) % B : Nat) : Int)) = ((B - (s.length + 1 + B / 8) % B : Nat) : Int) := w64_sub (by omega) (by omega)
  have e8 : w64 (8 * (s.length : Int)) = 8 * (s.length : Int) := w64_id (by omega) (by omega)
  unfold halberdref1_padded
  simp only [e1, e2, e3, e4, e8]
  clear e1 e2 e3 e4 e8
  refine if_i (by omega) (ltt_i fun z1 hz1 => bind_i (v := ((if B - (s.length + 1 + B / 8) % B = B then 0 else B - (s.length + 1 + B / 8) % B : Nat) : Int)) ?_ ?_)
  · rw [hz1]
    by_cases c : B - (s.length + 1 + B / 8) % B = B
    · rw [if_pos c, if_pos (by omega)]; rfl
    · rw [if_neg c, if_neg (by omega)]
  · clear hz1
    generalize (if B - (s.length + 1 + B / 8) % B = B then 0 else B - (s.length + 1 + B / 8) % B) = j at hT hj8 hj
    have e5 : w64 ((j : Int) + ((B / 8 : Nat) : Int)) = ((j + B / 8 : Nat) : Int) := w64_add (by omega)
    have e6 : w64 (((j + B / 8 : Nat) : Int) - 8) = ((j + B / 8 - 8 : Nat) : Int) := w64_sub (b := 8) (by omega) (by omega)
    simp only [e5, e6, Int.toNat_natCast]
    clear e5 e6
    generalize hZ : j + B / 8 - 8 = Z at hT
    have hZ2 : Z < 1000 := by omega
    refine if_i (by simp; omega) (if_i (by omega) (if_i (by simp) (if_i (by simp; omega) (bind_i (Be_eq (8 * (s.length : Int)) 8 (by decide)) (if_i (by simp [bytesI]; omega) (ltt_i fun x hx => ?_))))))
    rw [hx, ← hT]
    simp only [List.append_assoc]

def outW (v : Vector (BitVec 64) 8) (z k : Nat) : Str := (List.range k).flatMap fun j => hexW (vg v j) z
theorem outW_succ (v : Vector (BitVec 64) 8) (z k : Nat) : outW v z (k + 1) = outW v z k ++ hexW (vg v k) z := by
  simp [outW, List.range_succ, List.flatMap_append]
theorem outW_length (v : Vector (BitVec 64) 8) (z : Nat) : ∀ k, (outW v z k).length = z * k
  | 0 => rfl
  | k + 1 => by rw [outW_succ, List.length_append, outW_length v z k, hexW_length, Nat.mul_add, Nat.mul_one]
/-- The digest. -/
def dig (n : Int) (s : Str) : Str := sub (outW (stH n (s ++ padT (bsz n) s.length)) (bsz n / 16) 8) 0 (n.toNat / 8)

theorem pad_w (n : Int) (s : Str) : w64 ((w64 (1 + ((w64 ((w64 ((w64 ((w64 (2 * (bsz n : Int))) - 1)) - (w64 ((bsz n : Int).tdiv 8)))) - ((stR n s).length : Int))).tmod (bsz n : Int)))) + (w64 ((bsz n : Int).tdiv 8))) = ((padP (bsz n) s.length : Nat) : Int) := by
  have hB := bsz_or n
  have hr := stR_length n s
  have hrl := stR_lt n s
  have hm : (2 * bsz n - 1 - bsz n / 8 - s.length % bsz n) % bsz n < bsz n := Nat.mod_lt _ (by omega)
  rw [hr] at *
  have h1 : s.length % bsz n ≤ 2 * bsz n - 1 - bsz n / 8 := by omega
  have e1 : w64 (2 * (bsz n : Int)) = ((2 * bsz n : Nat) : Int) := w64_mul (a := 2) (by omega)
  have e2 : w64 (((2 * bsz n : Nat) : Int) - 1) = ((2 * bsz n - 1 : Nat) : Int) := w64_sub (b := 1) (by omega) (by omega)
  have e3 : w64 ((bsz n : Int).tdiv 8) = ((bsz n / 8 : Nat) : Int) := w64_div (b := 8) (by omega)
  have e4 : w64 (((2 * bsz n - 1 : Nat) : Int) - ((bsz n / 8 : Nat) : Int)) = ((2 * bsz n - 1 - bsz n / 8 : Nat) : Int) := w64_sub (by omega) (by omega)
  have e5 : w64 (((2 * bsz n - 1 - bsz n / 8 : Nat) : Int) - ((s.length % bsz n : Nat) : Int)) = ((2 * bsz n - 1 - bsz n / 8 - s.length % bsz n : Nat) : Int) := w64_sub h1 (by omega)
  have e6 : (((2 * bsz n - 1 - bsz n / 8 - s.length % bsz n : Nat) : Int)).tmod (bsz n : Int) = (((2 * bsz n - 1 - bsz n / 8 - s.length % bsz n) % bsz n : Nat) : Int) := tmodN' _ _
  rw [e1, e2, e3, e4, e5, e6]
  clear e1 e2 e3 e4 e5 e6
  unfold padP
  generalize (2 * bsz n - 1 - bsz n / 8 - s.length % bsz n) % bsz n = m at *
  have e7 : w64 (1 + (m : Int)) = ((1 + m : Nat) : Int) := w64_add (a := 1) (by omega)
  rw [e7]
  exact w64_add (by omega)
theorem sum_b0 (n : Int) (s : Str) (hs : s.length < 1152921504606846976) :
    loop (sha_Hash_Sum.b0 (BitVec.ofNat 64 s.length) (n, stH n s, KV, stR n s, BitVec.ofNat 64 s.length) (bsz n : Int)) BIG (0, (List.replicate (padP (bsz n) s.length) 0#8).set 0 128#8) = some (padT (bsz n) s.length) := by
  have hPg := padP_ge (bsz n) s.length (bsz_or n)
  have ePw := pad_w n s
  generalize hP : padP (bsz n) s.length = P at hPg ePw
  have e8 : w64 ((P : Int) - 1) = ((P - 1 : Nat) : Int) := w64_sub (b := 1) (by omega) (by omega)
  have hpT : padT (bsz n) s.length = (List.range P).map (padF P s.length 8) := by rw [padT, hP]
  rw [hpT]
  refine loop_fn (fun k => ((k : Int), (List.range P).map (padF P s.length k))) 8 _ (by omega) ?_ (fun k hk => ?_) ?_
  · refine Prod.ext rfl ?_
    refine List.ext_getElem (by simp) fun i h1 h2 => ?_
    simp only [List.getElem_set, List.getElem_replicate, List.getElem_map, List.getElem_range, padF]
    simp only [List.length_map, List.length_range] at h2
    by_cases c : i = 0
    · subst c; simp
    · rw [if_neg (by omega), if_neg c, if_pos (by omega)]
  · have e9 : w64 (8 * (k : Int)) = ((8 * k : Nat) : Int) := by rw [w64_id (by omega) (by omega)]; omega
    have e10 : w64 ((k : Int) + 1) = ((k + 1 : Nat) : Int) := by rw [w64_id (by omega) (by omega)]; omega
    have e11 : w64 (((P - 1 : Nat) : Int) - (k : Int)) = ((P - 1 - k : Nat) : Int) := w64_sub (by omega) (by omega)
    unfold sha_Hash_Sum.b0
    simp only [ePw, e8, e9, e10, e11, Int.toNat_natCast]
    clear ePw e8 e9 e10 e11 hpT
    refine if_i (by omega) (if_i (by omega) (if_i (by omega) (if_i (by simp; omega) (ltt_i fun m hm => ?_))))
    rw [hm]
    refine congrArg some (congrArg Sum.inl (congrArg (Prod.mk _) ?_))
    refine List.ext_getElem (by simp) fun i h1 h2 => ?_
    simp only [List.getElem_set, List.getElem_map, List.getElem_range, padF]
    simp only [List.length_map, List.length_range] at h2
    by_cases c : i = 0
    · rw [if_neg (by omega), if_pos c, if_pos c]
    · rw [if_neg c, if_neg c]
      by_cases c2 : P - 1 - k = i
      · rw [if_pos c2, if_neg (by omega), show P - 1 - i = k by omega]
        apply BitVec.eq_of_toNat_eq
        simp only [BitVec.toNat_setWidth, BitVec.toNat_ushiftRight, BitVec.toNat_mul, BitVec.toNat_ofNat, BitVec.toNat_ofInt, Nat.shiftRight_eq_div_pow]
        have h1 : (s.length % 2 ^ 64) * (8 % 2 ^ 64) % 2 ^ 64 = 8 * s.length := by omega
        have h3 : ((8 * (s.length : Int)) / 256 ^ k) = ((8 * s.length / 2 ^ (8 * k) : Nat) : Int) := by
          rw [Nat.pow_mul]
          simp
        rw [h1, h3]
        omega
      · rw [if_neg c2]
        by_cases c3 : i + k < P
        · rw [if_pos c3, if_pos (by omega)]
        · rw [if_neg c3, if_neg (by omega)]
  · unfold sha_Hash_Sum.b0
    exact if_n (by show ¬ (((8 : Nat) : Int) < 8); omega) rfl
theorem sum_b2 (w : BitVec 64) (z : Nat) (hz : z = 4 ∨ z = 8) (acc : Str) (ha : acc.length < 1000) : loop (sha_Hash_Sum.b2 w) BIG ((z : Int) - 1, acc) = some (acc ++ hexW w z) := by
  refine loop_fn (fun k => ((z : Int) - 1 - k, acc ++ (hexW w z).take k)) z _ (by omega) (by simp) (fun k hk => ?_) ?_
  · have e1 : w64 ((z : Int) - 1 - k - 1) = (z : Int) - 1 - ((k + 1 : Nat) : Int) := by rw [w64_id (by omega) (by omega)]; omega
    have e2 : w64 (8 * ((z : Int) - 1 - k)) = ((8 * (z - 1 - k) : Nat) : Int) := by rw [w64_id (by omega) (by omega)]; omega
    unfold sha_Hash_Sum.b2
    simp only [e1, e2, Int.toNat_natCast]
    clear e1 e2
    have hl := hexW_length w z
    refine if_i (by omega) (if_i (by omega) (if_i (by simp; omega) (ltt_i fun l hl2 => ltt_i fun i hi => ?_)))
    have : (hexW w z).take (k + 1) = (hexW w z).take k ++ [(w >>> (8 * (z - 1 - k))).setWidth 8] := by
      rw [List.take_succ_eq_append_getElem (by omega)]
      simp [hexW]
    rw [hi, hl2, this, List.append_assoc]
  · unfold sha_Hash_Sum.b2
    refine if_n (by omega) ?_
    rw [List.take_of_length_le (by rw [hexW_length]; omega)]
theorem sum_b1 (r : Vector (BitVec 64) 8 × List (BitVec 8) × BitVec 64) (z : Nat) (hz : z = 4 ∨ z = 8) : loop (sha_Hash_Sum.b1 r (z : Int)) BIG (0, []) = some (outW r.1 z 8) := by
  refine loop_fn (fun k => ((k : Int), outW r.1 z k)) 8 _ (by omega) rfl (fun k hk => ?_) ?_
  · have e1 : w64 ((k : Int) + 1) = ((k + 1 : Nat) : Int) := by rw [w64_id (by omega) (by omega)]; omega
    have e2 : w64 ((z : Int) - 1) = (z : Int) - 1 := by rw [w64_id (by omega) (by omega)]
    unfold sha_Hash_Sum.b1
    simp only [e1, e2, Int.toNat_natCast]
    clear e1 e2
    have hl := outW_length r.1 z k
    have : z * k ≤ 8 * 8 := Nat.mul_le_mul (by omega) (by omega)
    refine if_i (by omega) (if_i (by omega) (ltt_i fun w hw => ltt_i fun i hi => ?_))
    rw [hi, hw]
    refine bind_i (sum_b2 _ z hz _ (by omega)) ?_
    rw [outW_succ]
  · unfold sha_Hash_Sum.b1
    exact if_n (by show ¬ (((8 : Nat) : Int) < 8); omega) rfl
theorem fork_eq (n : Int) (h k) (r : Str) (a) (hr : r.length ≤ 140737488355328) : sha_Hash_Fork n h k r a = some (n, h, k, r, a) := by
  unfold sha_Hash_Fork
  exact if_i (by simpa using hr) (ltt_i fun l hl => by rw [hl]; rfl)
theorem sum_eq (n : Int) (hn : n = 256 ∨ n = 384) (s : Str) (hs : s.length < 1152921504606846976) : sha_Hash_Sum n (stH n s) KV (stR n s) (BitVec.ofNat 64 s.length) = some (dig n s) := by
  have hB := bsz_or n
  have hr := stR_length n s
  have hrl := stR_lt n s
  have hPg := padP_ge (bsz n) s.length hB
  have hb0 := sum_b0 n s hs
  have ePw := pad_w n s
  generalize hP : padP (bsz n) s.length = P at hPg hb0 ePw
  have e9 : w64 ((bsz n : Int).tdiv 16) = ((bsz n / 16 : Nat) : Int) := w64_div (b := 16) (by omega)
  have e10 : w64 (n.tdiv 8) = ((n.toNat / 8 : Nat) : Int) := by rcases hn with h | h <;> subst h <;> rfl
  unfold sha_Hash_Sum
  refine bind_i (fork_eq n _ _ _ _ (by omega)) (bind_i (hblock_eq n _ _ _ _) ?_)
  simp only [ePw, e9, e10, Int.toNat_natCast]
  clear ePw e9 e10
  refine if_i (by omega) (if_i (by omega) (if_i (by omega) (if_i (by simp; omega) (ltt_i fun m hm1 => ?_))))
  rw [hm1]
  have hpl := padT_length (bsz n) s.length
  rw [hP] at hpl
  refine bind_i hb0 (if_i hpl (bind_i (write_eq n s _ _ (by omega)) (ltt_i fun z hz => ?_)))
  rw [hz]
  refine bind_i (sum_b1 _ (bsz n / 16) (by omega)) ?_
  have hol := outW_length (stH n (s ++ padT (bsz n) s.length)) (bsz n / 16) 8
  have h8 : n.toNat / 8 ≤ (outW (stH n (s ++ padT (bsz n) s.length)) (bsz n / 16) 8).length := by
    rw [hol]
    rcases hn with h | h <;> subst h <;> decide
  refine if_i (by omega) (if_i h8 (if_i h8 (ltt_i fun x hx => ?_)))
  rw [hx]; rfl
theorem Sum_eq (n : Int) (s : Str) (hs : s.length ≤ 140737488355328) : sha_Sum n s = some (if n = 256 ∨ n = 384 then (dig n s, 0) else ([], 200)) := by
  unfold sha_Sum
  by_cases hn : n = 256 ∨ n = 384
  · rw [if_pos hn]
    refine bind_i (new_eq n hn) ?_
    have hw := write_eq n [] s 0#64 (by simpa using hs)
    rw [stH_nil, stR_nil, List.nil_append, BitVec.zero_add] at hw
    exact bind_i hw (bind_i (sum_eq n hn s (by omega)) rfl)
  · rw [if_neg hn]
    exact bind_i (new_none n hn) rfl

/-! The reference. -/
def h256 : Vector (BitVec 32) 8 := #v[1779033703#32, 3144134277#32, 1013904242#32, 2773480762#32, 1359893119#32, 2600822924#32, 528734635#32, 1541459225#32]
theorem begn256 : begn 256 = up h256 := by decide +kernel
theorem stH256 (p : Str) : ∀ k, iter (blks 256 p) k (up h256) = up (iter (fun j h => R256 h (sub p (64 * j) (64 * j + 64))) k h256)
  | 0 => rfl
  | k + 1 => by
    show blks 256 p k (iter (blks 256 p) k (up h256)) = _
    rw [stH256 p k]
    show comp 256 (up _) _ = _
    unfold comp
    rw [if_pos rfl, down_up]
    rfl
theorem be4_eq (x : BitVec 32) : bytesI (x.toNat : Int) 4 = hexW (x.setWidth 64) 4 := by
  unfold bytesI hexW
  refine List.map_congr_left fun i hi => ?_
  have hi4 : i < 4 := by simpa using hi
  apply BitVec.eq_of_toNat_eq
  simp only [BitVec.toNat_setWidth, BitVec.toNat_ushiftRight, BitVec.toNat_ofInt, Nat.shiftRight_eq_div_pow, Nat.pow_mul]
  have h3 : ((x.toNat : Int) / 256 ^ (4 - 1 - i)) = ((x.toNat / (2 ^ 8) ^ (4 - 1 - i) : Nat) : Int) := by simp
  have hx := x.isLt
  rw [h3, Nat.mod_eq_of_lt (a := x.toNat) (by omega)]
  omega
theorem ref256_b1 (v : Vector (BitVec 32) 8) : loop (halberdref1_Sum.b1 v) BIG ([], 0) = some (outW (up v) 4 8) := by
  refine loop_fn (fun k => (outW (up v) 4 k, (k : Int))) 8 _ (by omega) rfl (fun k hk => ?_) ?_
  · have e1 : w64 ((k : Int) + 1) = ((k + 1 : Nat) : Int) := by rw [w64_id (by omega) (by omega)]; omega
    unfold halberdref1_Sum.b1
    simp only [e1, Int.toNat_natCast]
    clear e1
    have hl := outW_length (up v) 4 k
    refine if_i (by omega) (if_i (by omega) (bind_i (Be_eq _ 4 (by decide)) (if_i (by rw [hl, bytesI_length]; omega) (ltt_i fun i hi => ?_))))
    rw [hi, be4_eq, outW_succ, up, vg_ofFn hk]
  · exact if_n (by show ¬ (((8 : Nat) : Int) < 8); omega) rfl
theorem be8_eq (x : BitVec 64) : bytesI (w64 ((x >>> 32).toNat : Int)) 4 ++ bytesI (w64 ((x &&& 4294967295#64).toNat : Int)) 4 = hexW x 8 := by
  have hx := x.isLt
  have h1 : (x >>> 32).toNat = x.toNat / 2 ^ 32 := by rw [BitVec.toNat_ushiftRight, Nat.shiftRight_eq_div_pow]
  have h2 : (x &&& 4294967295#64).toNat = x.toNat % 2 ^ 32 := by
    rw [BitVec.toNat_and]
    exact Nat.and_two_pow_sub_one_eq_mod _ 32
  rw [h1, h2, w64_nat (by omega), w64_nat (by omega)]
  have key : ∀ (y : Nat) (j : Nat), BitVec.ofInt 8 ((y : Int) / 256 ^ j) = BitVec.ofNat 8 (y / 256 ^ j) := fun y j => by
    rw [← BitVec.ofInt_natCast]
    simp
  have key2 : ∀ j : Nat, (x >>> (8 * j)).setWidth 8 = BitVec.ofNat 8 (x.toNat / 256 ^ j) := fun j => by
    apply BitVec.eq_of_toNat_eq
    simp only [BitVec.toNat_setWidth, BitVec.toNat_ushiftRight, BitVec.toNat_ofNat, Nat.shiftRight_eq_div_pow, Nat.pow_mul]
  unfold bytesI hexW
  simp only [key, key2]
  have r4 : List.range 4 = [0, 1, 2, 3] := rfl
  have r8 : List.range 8 = [0, 1, 2, 3, 4, 5, 6, 7] := rfl
  rw [r4, r8]
  have m8 : ∀ a b : Nat, a % 256 = b % 256 → BitVec.ofNat 8 a = BitVec.ofNat 8 b := fun a b h => by
    apply BitVec.eq_of_toNat_eq
    simpa using h
  simp only [List.map_cons, List.map_nil, List.cons_append, List.nil_append, List.cons.injEq, and_true]
  refine ⟨?_, ?_, ?_, ?_, ?_, ?_, ?_, ?_⟩ <;> refine m8 _ _ ?_ <;> simp only [Nat.reduceSub, Nat.reducePow] <;> omega
theorem ref384_b3 (v : Vector (BitVec 64) 8) : loop (halberdref1_Sum.b3 v) BIG ([], 0) = some (outW v 8 6) := by
  refine loop_fn (fun k => (outW v 8 k, (k : Int))) 6 _ (by omega) rfl (fun k hk => ?_) ?_
  · have e1 : w64 ((k : Int) + 1) = ((k + 1 : Nat) : Int) := by rw [w64_id (by omega) (by omega)]; omega
    unfold halberdref1_Sum.b3
    simp only [e1, Int.toNat_natCast]
    clear e1
    have hl := outW_length v 8 k
    refine if_i (by omega) (if_i (by omega) (bind_i (Be_eq _ 4 (by decide)) (if_i (by rw [hl, bytesI_length]; omega) (if_i (by omega) (bind_i (Be_eq _ 4 (by decide)) (if_i (by simp [bytesI_length]; omega) (ltt_i fun o ho => ltt_i fun i hi => ?_)))))))
    rw [hi, ho, List.append_assoc, be8_eq, outW_succ]
  · exact if_n (by show ¬ (((6 : Nat) : Int) < 6); omega) rfl
theorem refSum_eq (n : Int) (s : Str) (hs : s.length < 1000000000000000000) : halberdref1_Sum n s = some (if n = 256 ∨ n = 384 then (dig n s, 0) else ([], 200)) := by
  have hPd : ∀ B, (B = 64 ∨ B = 128) → ∃ q, (s ++ padT B s.length).length = B * q := fun B hB => by
    rw [List.length_append, padT_length, padP]
    rcases hB with h | h <;> subst h
    · exact ⟨(s.length + (1 + (2 * 64 - 1 - 64 / 8 - s.length % 64) % 64 + 64 / 8)) / 64, by omega⟩
    · exact ⟨(s.length + (1 + (2 * 128 - 1 - 128 / 8 - s.length % 128) % 128 + 128 / 8)) / 128, by omega⟩
  have hPl : ∀ B, (B = 64 ∨ B = 128) → (s ++ padT B s.length).length ≤ s.length + 200 := fun B hB => by
    rw [List.length_append, padT_length]
    have := padP_ge B s.length hB
    omega
  unfold halberdref1_Sum
  refine ltt_i fun x1 hx1 => ?_
  by_cases h256' : n = 256
  · refine if_i (by rw [hx1]; simp [h256']) (ltt_i fun m hm => bind_i (padded_eq s 64 (.inl rfl) (by omega)) ?_)
    obtain ⟨q, hq⟩ := hPd 64 (.inl rfl)
    have hl := hPl 64 (.inl rfl)
    rw [if_pos (.inl h256'), h256']
    have hd : dig 256 s = outW (up (iter (fun j h => R256 h (sub (s ++ padT 64 s.length) (64 * j) (64 * j + 64))) q h256)) 4 8 := by
      show sub (outW (iter (blks 256 (s ++ padT 64 s.length)) ((s ++ padT 64 s.length).length / 64) (begn 256)) 4 8) 0 32 = _
      rw [hq, Nat.mul_div_cancel_left _ (by decide), begn256, stH256]
      generalize hg : outW (up (iter (fun j h => R256 h (sub (s ++ padT 64 s.length) (64 * j) (64 * j + 64))) q h256)) 4 8 = g
      have hgl : g.length = 4 * 8 := by rw [← hg]; exact outW_length _ 4 8
      unfold sub
      rw [List.drop_zero, List.take_of_length_le (by omega)]
    have hm' : m = h256 := hm
    rw [hm', hd]
    generalize s ++ padT 64 s.length = p at hq hl
    refine bind_i (loop_pl (fun k h => (((64 * k : Nat) : Int), h)) q (fun j h => R256 h (sub p (64 * j) (64 * j + 64))) h256 _ (by omega) (fun k h hk => ?_) ?_) (bind_i (ref256_b1 _) rfl)
    · have e1 : w64 (((64 * k : Nat) : Int) + 64) = ((64 * k + 64 : Nat) : Int) := by rw [w64_id (by omega) (by omega)]; omega
      unfold halberdref1_Sum.b0
      simp only [e1, Int.toNat_natCast]
      clear e1
      iterate 5 refine if_i (by omega) ?_
      have hl : (sub p (64 * k) (64 * k + 64)).length = 64 := by rw [sub_length (by omega)]; omega
      refine bind_i (block256_eq h _ (by omega) (by omega)) (ltt_i fun i hi => ?_)
      rw [hi]; rfl
    · unfold halberdref1_Sum.b0
      exact if_n (by show ¬ (((64 * q : Nat) : Int) < _); omega) rfl
  · refine if_n (by rw [hx1]; simp [h256']) (ltt_i fun x2 hx2 => ?_)
    by_cases h384 : n = 384
    · refine if_i (by rw [hx2]; simp [h384]) (ltt_i fun m hm => bind_i (padded_eq s 128 (.inr rfl) (by omega)) ?_)
      obtain ⟨q, hq⟩ := hPd 128 (.inr rfl)
      have hl := hPl 128 (.inr rfl)
      rw [if_pos (.inr h384), h384]
      have hd : dig 384 s = outW (iter (fun j h => R512 h (sub (s ++ padT 128 s.length) (128 * j) (128 * j + 128))) q (begn 384)) 8 6 := by
        show sub (outW (iter (blks 384 (s ++ padT 128 s.length)) ((s ++ padT 128 s.length).length / 128) (begn 384)) 8 8) 0 48 = _
        rw [hq, Nat.mul_div_cancel_left _ (by decide)]
        have hb : blks 384 (s ++ padT 128 s.length) = (fun j h => R512 h (sub (s ++ padT 128 s.length) (128 * j) (128 * j + 128))) := rfl
        rw [hb, outW_succ, outW_succ]
        generalize hg : outW (iter (fun j h => R512 h (sub (s ++ padT 128 s.length) (128 * j) (128 * j + 128))) q (begn 384)) 8 6 = g
        have hgl : g.length = 8 * 6 := by rw [← hg]; exact outW_length _ 8 6
        unfold sub
        rw [List.drop_zero, List.append_assoc, List.take_append_of_le_length (by omega), List.take_of_length_le (by omega)]
      have hm' : m = begn 384 := hm
      rw [hm', hd]
      generalize s ++ padT 128 s.length = p at hq hl
      refine bind_i (loop_pl (fun k h => (((128 * k : Nat) : Int), h)) q (fun j h => R512 h (sub p (128 * j) (128 * j + 128))) (begn 384) _ (by omega) (fun k h hk => ?_) ?_) (bind_i (ref384_b3 _) rfl)
      · have e1 : w64 (((128 * k : Nat) : Int) + 128) = ((128 * k + 128 : Nat) : Int) := by rw [w64_id (by omega) (by omega)]; omega
        unfold halberdref1_Sum.b2
        simp only [e1, Int.toNat_natCast]
        clear e1
        iterate 5 refine if_i (by omega) ?_
        have hl : (sub p (128 * k) (128 * k + 128)).length = 128 := by rw [sub_length (by omega)]; omega
        refine bind_i (block512_eq h _ (by omega) (by omega)) (ltt_i fun i hi => ?_)
        rw [hi]; rfl
      · unfold halberdref1_Sum.b2
        exact if_n (by show ¬ (((128 * q : Nat) : Int) < _); omega) rfl
    · refine if_n (by rw [hx2]; simp [h384]) ?_
      rw [if_neg (c := n = 256 ∨ n = 384) (fun h => h.elim h256' h384)]
theorem Hash_eq (n : Int) (hn : n = 256 ∨ n = 384) (s : Str) (hs : s.length < 1000000000000000000) : halberdref1_Hash n s = some (dig n s) := by
  unfold halberdref1_Hash
  refine bind_i (refSum_eq n s hs) ?_
  rw [if_pos hn]
end Go.Proofs
end

section
/-
  A hash object behind a text.
-/
namespace Go.Proofs
open Go Go.Kx
set_option linter.unusedVariables false
set_option linter.unusedSimpArgs false
theorem dig_length (n : Int) (hn : n = 256 ∨ n = 384) (s : Str) : (dig n s).length = n.toNat / 8 := by
  unfold dig
  rw [sub_length, Nat.sub_zero]
  rw [outW_length]
  rcases hn with h | h <;> subst h <;> decide
/-- A hash object behind a text. -/
abbrev ob (n : Int) (s : Str) : Vector (BitVec 64) 8 × Str × BitVec 64 := (stH n s, stR n s, BitVec.ofNat 64 s.length)
theorem write_ob (n : Int) (s t : Str) (ht : s.length % bsz n + t.length ≤ 140737488355328) :
    sha_Hash_Write n (ob n s).1 KV (ob n s).2.1 (ob n s).2.2 t = some (ob n (s ++ t)) := by
  refine (write_eq n s t _ ht).trans ?_
  unfold ob
  rw [List.length_append, BitVec.ofNat_add]
theorem modB_lt (n : Int) (s : Str) : s.length % bsz n < 128 := by
  have := Nat.mod_lt s.length (show bsz n > 0 by have := bsz_or n; omega)
  have := bsz_or n
  omega
theorem fork_ob (n : Int) (s : Str) : sha_Hash_Fork n (ob n s).1 KV (ob n s).2.1 (ob n s).2.2 = some (n, (ob n s).1, KV, (ob n s).2.1, (ob n s).2.2) := by
  refine fork_eq n _ _ _ _ ?_
  have := stR_lt n s
  have := bsz_or n
  show (stR n s).length ≤ _
  omega
theorem ob_nil (n : Int) : ob n [] = (begn n, [], 0#64) := by simp [ob, stH_nil, stR_nil]
theorem sum_ob (n : Int) (hn : n = 256 ∨ n = 384) (s : Str) (hs : s.length < 1152921504606846976) : sha_Hash_Sum n (ob n s).1 KV (ob n s).2.1 (ob n s).2.2 = some (dig n s) := sum_eq n hn s hs

end Go.Proofs
end

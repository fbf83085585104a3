/-
  Part KA3 of the proofs of this seat: AesT, AesE, AesR, AesK, AesN, F3, AesB.
-/
import Derived.Test.YtfdnfkpalbihaaaK2
import Derived.Test.YtfdnfkpalbihaaaKA2
section
namespace Go.Proofs
open Go Go.Kx
def BOXV : Vector (BitVec 8) 256 := ⟨halberdref4_schedule.k1.toArray, by kernel_rfl⟩
set_option maxRecDepth 100000 in
theorem table_eq : aes_table = some BOXV := by kernel_rfl
set_option maxRecDepth 100000 in
theorem awake4 : halberdlaw4_awake = some true := by kernel_rfl
end Go.Proofs
end

section
namespace Go.Proofs
open Go Go.Kx
set_option linter.unusedVariables false
set_option linter.unusedSimpArgs false
abbrev V16 := Vector (BitVec 8) 16
abbrev V4 := Vector (BitVec 8) 4
def xorV (a b : V16) : V16 := Vector.ofFn fun i => vg a i.val ^^^ vg b i.val
def subV (s : V16) : V16 := Vector.ofFn fun i => vg BOXV (vg s ((i.val + 4 * (i.val % 4)) % 16)).toNat

theorem enc_b0 (keys : List V16) (b : V16) (h : 0 < keys.length) (h2 : keys.length < 1000) : loop (aes_Cipher_Encrypt.b0 keys) BIG (0, b) = some (xorV b (lg keys 0)) := by
  refine loop_fill b (fun i => vg b i ^^^ vg (lg keys 0) i) id (by omega) (fun k v hk hv => ?_) (fun v => ?_)
  · have e := hv k (Nat.le_refl _) hk
    simp (disch := omega) only [aes_Cipher_Encrypt.b0, ltt, if_pos, w64_id, Int.toNat_natCast, e]
    rfl
  · simp (disch := omega) only [aes_Cipher_Encrypt.b0, ltt, if_neg, id]
theorem enc_b2 (s1 : Int × V16) : loop (aes_Cipher_Encrypt.b2 BOXV s1) BIG (0, Vector.replicate 16 0#8) = some (subV s1.2) := by
  refine loop_fill _ (fun i => vg BOXV (vg s1.2 ((i + 4 * (i % 4)) % 16)).toNat) id (by omega) (fun k v hk hv => ?_) (fun v => ?_)
  · have e1 : ((k : Int).tmod 4) = ((k % 4 : Nat) : Int) := by rw [Int.tmod_eq_emod_of_nonneg (by omega)]; omega
    have e2 : ((k : Int) + 4 * ((k % 4 : Nat) : Int)).tmod 16 = (((k + 4 * (k % 4)) % 16 : Nat) : Int) := by rw [Int.tmod_eq_emod_of_nonneg (by omega)]; omega
    simp (disch := omega) only [aes_Cipher_Encrypt.b2, ltt, w64_id, e1, e2, if_pos, Int.toNat_natCast]
    rfl
  · simp (disch := omega) only [aes_Cipher_Encrypt.b2, ltt, if_neg, id]
theorem enc_b3 (keys : List V16) (s1 : Int × V16) (j : V16) (h0 : 0 ≤ s1.1) (h1 : s1.1 < keys.length) : loop (aes_Cipher_Encrypt.b3 keys s1 j) BIG (0, s1.2) = some (xorV j (lg keys s1.1.toNat)) := by
  refine loop_fill _ (fun i => vg j i ^^^ vg (lg keys s1.1.toNat) i) id (by omega) (fun k v hk hv => ?_) (fun v => ?_)
  · simp (disch := omega) only [aes_Cipher_Encrypt.b3, ltt, w64_id, if_pos, Int.toNat_natCast]
    rfl
  · simp (disch := omega) only [aes_Cipher_Encrypt.b3, ltt, if_neg, id]
def tw (x : BitVec 8) : BitVec 8 := (x <<< 1) ^^^ (27#8 &&& (-(x >>> 7)))
theorem twice_eq (x : BitVec 8) : aes_twice x = some (tw x) := rfl
theorem double_eq (x : BitVec 8) : halberdref4_double x = some (tw x) := by
  have : ∀ n : Fin 256, halberdref4_double (BitVec.ofFin n) = some (tw (BitVec.ofFin n)) := by decide +kernel
  exact this x.toFin
def mixS (k : Nat) (v : V16) : V16 :=
  vp (vp (vp (vp v (4 * k) (vg v (4 * k) ^^^ (vg v (4 * k) ^^^ vg v (4 * k + 1) ^^^ vg v (4 * k + 2) ^^^ vg v (4 * k + 3) ^^^ tw (vg v (4 * k) ^^^ vg v (4 * k + 1)))))
    (4 * k + 1) (vg v (4 * k + 1) ^^^ (vg v (4 * k) ^^^ vg v (4 * k + 1) ^^^ vg v (4 * k + 2) ^^^ vg v (4 * k + 3) ^^^ tw (vg v (4 * k + 1) ^^^ vg v (4 * k + 2)))))
    (4 * k + 2) (vg v (4 * k + 2) ^^^ (vg v (4 * k) ^^^ vg v (4 * k + 1) ^^^ vg v (4 * k + 2) ^^^ vg v (4 * k + 3) ^^^ tw (vg v (4 * k + 2) ^^^ vg v (4 * k + 3)))))
    (4 * k + 3) (vg v (4 * k + 3) ^^^ (vg v (4 * k) ^^^ vg v (4 * k + 1) ^^^ vg v (4 * k + 2) ^^^ vg v (4 * k + 3) ^^^ tw (vg v (4 * k + 3) ^^^ vg v (4 * k))))
def mixV (v : V16) : V16 := iter mixS 4 v
theorem enc_b4_step (k : Nat) (hk : k < 4) (u : V16) : aes_Cipher_Encrypt.b4 (((4 * k : Nat) : Int), u) = some (.inl (((4 * (k + 1) : Nat) : Int), mixS k u)) := by
  have e1 : w64 (((4 * k : Nat) : Int) + 1) = ((4 * k + 1 : Nat) : Int) := by rw [w64_id (by omega) (by omega)]; omega
  have e2 : w64 (((4 * k : Nat) : Int) + 2) = ((4 * k + 2 : Nat) : Int) := by rw [w64_id (by omega) (by omega)]; omega
  have e3 : w64 (((4 * k : Nat) : Int) + 3) = ((4 * k + 3 : Nat) : Int) := by rw [w64_id (by omega) (by omega)]; omega
  have e4 : w64 (((4 * k : Nat) : Int) + 4) = ((4 * (k + 1) : Nat) : Int) := by rw [w64_id (by omega) (by omega)]; omega
  unfold aes_Cipher_Encrypt.b4
  simp only [e1, e2, e3, e4]
  iterate 5 refine if_i (by omega) ?_
  refine ltt_i fun p hp => ltt_i fun q hq => ltt_i fun r hr => ltt_i fun s hs => ltt_i fun all hall => if_i (by omega) (bind_i (twice_eq _) (if_i (by omega) ?_))
  refine ltt_i fun m4 h4 => if_i (by omega) (bind_i (twice_eq _) (if_i (by omega) ?_))
  refine ltt_i fun m5 h5 => if_i (by omega) (bind_i (twice_eq _) (if_i (by omega) ?_))
  refine ltt_i fun m6 h6 => if_i (by omega) (bind_i (twice_eq _) (if_i (by omega) ?_))
  refine ltt_i fun m7 h7 => ltt_i fun i hi => ?_
  subst hi
  simp only [Int.toNat_natCast] at *
  have a5 : vg m4 (4 * k + 1) = q := by rw [h4, vg_vp (by omega) (by omega), if_neg (by omega), hq]
  have a6 : vg m5 (4 * k + 2) = r := by rw [h5, vg_vp (by omega) (by omega), if_neg (by omega), h4, vg_vp (by omega) (by omega), if_neg (by omega), hr]
  have a7 : vg m6 (4 * k + 3) = s := by rw [h6, vg_vp (by omega) (by omega), if_neg (by omega), h5, vg_vp (by omega) (by omega), if_neg (by omega), h4, vg_vp (by omega) (by omega), if_neg (by omega), hs]
  have : m7 = mixS k u := by
    rw [h7, a7, h6, a6, h5, a5, h4, ← hp, hall]
    unfold mixS
    rw [← hp, ← hq, ← hr, ← hs]
  rw [this]
theorem enc_b4 (v : V16) : loop aes_Cipher_Encrypt.b4 BIG (0, v) = some (mixV v) := by
  refine loop_iter (fun k => (((4 * k : Nat) : Int), iter mixS k v)) 4 _ (by omega) (fun k hk => enc_b4_step k hk _) ?_
  show (if (((4 * 4 : Nat) : Int)) < 16 then _ else _) = _
  rw [if_neg (by omega)]
  rfl
/-- One round. -/
def roundV (keys : List V16) (r : Nat) (v : V16) : V16 := xorV (if r + 1 < keys.length then mixV (subV v) else subV v) (lg keys r)
def encV (keys : List V16) (b : V16) : V16 := iter (fun k v => roundV keys (k + 1) v) (keys.length - 1) (xorV b (lg keys 0))
theorem enc_eq (keys : List V16) (b : V16) (h : 0 < keys.length) (h2 : keys.length < 1000) : aes_Cipher_Encrypt BOXV keys b = some (encV keys b) := by
  have hl : loop (aes_Cipher_Encrypt.b1 BOXV keys) BIG (1, xorV b (lg keys 0)) = some (encV keys b) := by
    refine loop_iter (fun k => (((k + 1 : Nat) : Int), iter (fun k v => roundV keys (k + 1) v) k (xorV b (lg keys 0)))) (keys.length - 1) _ (by omega) (fun k hk => ?_) ?_
    · generalize hu : iter (fun k v => roundV keys (k + 1) v) k (xorV b (lg keys 0)) = u
      have hu2 : iter (fun k v => roundV keys (k + 1) v) (k + 1) (xorV b (lg keys 0)) = roundV keys (k + 1) u := by rw [← hu]; rfl
      have e1 : w64 (((k + 1 : Nat) : Int) + 1) = ((k + 1 + 1 : Nat) : Int) := by rw [w64_id (by omega) (by omega)]; omega
      have e2 : w64 ((keys.length : Int) - 1) = (keys.length : Int) - 1 := w64_id (by omega) (by omega)
      have h3 := fun j => enc_b3 keys (((k + 1 : Nat) : Int), u) j (by omega) (by show ((k + 1 : Nat) : Int) < _; omega)
      simp only [hu2, aes_Cipher_Encrypt.b1, ltt, enc_b2, enc_b4, h3, Option.bind_some, e1, e2, Int.toNat_natCast]
      rw [if_pos (by omega)]
      by_cases hc : k + 1 + 1 < keys.length
      · rw [if_pos (by omega)]
        simp only [Option.bind_some, h3, roundV, if_pos hc]
      · rw [if_neg (by omega)]
        simp only [Option.bind_some, h3, roundV, if_neg hc]
    · have e : (((keys.length - 1 + 1 : Nat)) : Int) = keys.length := by omega
      simp (disch := omega) only [aes_Cipher_Encrypt.b1, if_neg]
      rfl
  unfold aes_Cipher_Encrypt
  rw [enc_b0 keys b h h2]
  simp only [Option.bind_some, hl]
end Go.Proofs
end

section
namespace Go.Proofs
open Go Go.Kx
set_option linter.unusedVariables false
set_option linter.unusedSimpArgs false
def keyV (w : List V4) (r : Nat) : V16 := Vector.ofFn fun i => vg (lg w (4 * r + i.val / 4)) (i.val % 4)
def keysOf (w : List V4) : List V16 := (List.range (w.length / 4)).map (keyV w)
theorem keysOf_length (w : List V4) : (keysOf w).length = w.length / 4 := by simp [keysOf]
theorem keysOf_lg (w : List V4) (r : Nat) (h : r < w.length / 4) : lg (keysOf w) r = keyV w r := by
  simp [lg, keysOf, List.getElem?_range h]
def toV (s : Str) : V16 := Vector.ofFn fun i => s.getD i.val 0#8

theorem tmodN (k m : Nat) : ((k : Int).tmod (m : Int)) = ((k % m : Nat) : Int) := by
  rw [Int.tmod_eq_emod_of_nonneg (by omega)]; omega
theorem tdivN (k m : Nat) : ((k : Int).tdiv (m : Int)) = ((k / m : Nat) : Int) := by
  rw [Int.tdiv_eq_ediv_of_nonneg (by omega)]; omega

theorem ref_b0 (w : List V4) (s : Str) (hw : 4 ≤ w.length) (hw2 : w.length < 1000) (hs : s.length = 16) : loop (halberdref4_cipher.b0 w s) BIG (0, Vector.replicate 16 0#8) = some (xorV (toV s) (keyV w 0)) := by
  have h := loop_fill (body := halberdref4_cipher.b0 w s) (Vector.replicate 16 0#8) (fun i => s.getD i 0#8 ^^^ vg (lg w (i / 4)) (i % 4)) id (by omega) (fun k v hk hv => ?_) (fun v => ?_)
  · refine h.trans (congrArg some (vec_ext fun i hi => ?_))
    simp only [id, vg_ofFn hi, xorV, toV, keyV, Nat.mul_zero, Nat.zero_add]
  · have e1 : w64 ((k : Int).tdiv 4) = ((k / 4 : Nat) : Int) := by rw [show (4 : Int) = ((4 : Nat) : Int) from rfl, tdivN, w64_nat (by omega)]
    have e2 : (k : Int).tmod 4 = ((k % 4 : Nat) : Int) := tmodN k 4
    have e3 : w64 ((k : Int) + 1) = ((k + 1 : Nat) : Int) := by rw [w64_id (by omega) (by omega)]; omega
    unfold halberdref4_cipher.b0
    simp only [e1, e2, e3]
    iterate 5 refine if_i (by omega) ?_
    refine ltt_i fun m hm => ltt_i fun i hi => ?_
    simp only [hi, hm, Int.toNat_natCast, sg]
  · unfold halberdref4_cipher.b0
    exact if_n (by omega) rfl
theorem box_len : halberdref4_cipher.k1.length = 256 := by kernel_rfl
theorem box_at (x : BitVec 8) : sg halberdref4_cipher.k1 (x.toNat : Int) = vg BOXV x.toNat := by
  simp only [sg, Int.toNat_natCast, vg, BOXV]
  rfl
theorem ref_b2 (s1 : Int × V16) : loop (halberdref4_cipher.b2 s1) BIG (0, Vector.replicate 16 0#8) = some (subV s1.2) := by
  refine loop_fill _ (fun i => vg BOXV (vg s1.2 ((i + 4 * (i % 4)) % 16)).toNat) id (by omega) (fun k v hk hv => ?_) (fun v => ?_)
  · have e1 : ((k : Int).tmod 4) = ((k % 4 : Nat) : Int) := tmodN k 4
    have e2 : w64 (4 * ((k % 4 : Nat) : Int)) = 4 * ((k % 4 : Nat) : Int) := w64_id (by omega) (by omega)
    have e3 : w64 ((k : Int) + 4 * ((k % 4 : Nat) : Int)) = ((k + 4 * (k % 4) : Nat) : Int) := by rw [w64_id (by omega) (by omega)]; omega
    have e4 : (((k + 4 * (k % 4) : Nat) : Int)).tmod 16 = (((k + 4 * (k % 4)) % 16 : Nat) : Int) := tmodN _ 16
    have e5 : w64 ((k : Int) + 1) = ((k + 1 : Nat) : Int) := by rw [w64_id (by omega) (by omega)]; omega
    unfold halberdref4_cipher.b2
    simp only [e1, e2, e3, e4, e5, box_len, box_at, Int.toNat_natCast]
    have hb := (vg s1.2 ((k + 4 * (k % 4)) % 16)).isLt
    iterate 4 refine if_i (by omega) ?_
    refine ltt_i fun m hm => ltt_i fun i hi => ?_
    simp only [hi, hm]
  · unfold halberdref4_cipher.b2
    exact if_n (by omega) rfl
theorem ref_b3 (w : List V4) (u : V16) (j : V16) (r : Nat) (h1 : r < w.length / 4) (hw2 : w.length < 1000) : loop (halberdref4_cipher.b3 w (((r : Nat) : Int), u) j) BIG (0, u) = some (xorV j (keyV w r)) := by
  have h := loop_fill (body := halberdref4_cipher.b3 w (((r : Nat) : Int), u) j) u (fun i => vg j i ^^^ vg (lg w (4 * r + i / 4)) (i % 4)) id (by omega) (fun k v hk hv => ?_) (fun v => ?_)
  · refine h.trans (congrArg some (vec_ext fun i hi => ?_))
    simp only [id, vg_ofFn hi, xorV, keyV]
  · have e1 : w64 ((k : Int).tdiv 4) = ((k / 4 : Nat) : Int) := by rw [show (4 : Int) = ((4 : Nat) : Int) from rfl, tdivN, w64_nat (by omega)]
    have e2 : (k : Int).tmod 4 = ((k % 4 : Nat) : Int) := tmodN k 4
    have e3 : w64 ((k : Int) + 1) = ((k + 1 : Nat) : Int) := by rw [w64_id (by omega) (by omega)]; omega
    have e4 : w64 (4 * ((r : Nat) : Int)) = ((4 * r : Nat) : Int) := by rw [w64_id (by omega) (by omega)]; omega
    have e5 : w64 (((4 * r : Nat) : Int) + ((k / 4 : Nat) : Int)) = ((4 * r + k / 4 : Nat) : Int) := by rw [w64_id (by omega) (by omega)]; omega
    unfold halberdref4_cipher.b3
    simp only [e1, e2, e3, e4, e5]
    iterate 5 refine if_i (by omega) ?_
    refine ltt_i fun m hm => ltt_i fun i hi => ?_
    simp only [hi, hm, Int.toNat_natCast]
  · unfold halberdref4_cipher.b3
    exact if_n (by omega) rfl

/-- One column of the reference's mixing. -/
theorem ref_b5 (k : Nat) (hk : k < 4) (u : V16) (all : BitVec 8) : loop (halberdref4_cipher.b5 (((4 * k : Nat) : Int), u) all) BIG (0, u) =
    some (vp (vp (vp u (4 * k) ((vg u (4 * k) ^^^ all) ^^^ tw (vg u (4 * k) ^^^ vg u (4 * k + 1)))) (4 * k + 1) ((vg u (4 * k + 1) ^^^ all) ^^^ tw (vg u (4 * k + 1) ^^^ vg u (4 * k + 2)))) (4 * k + 2) ((vg u (4 * k + 2) ^^^ all) ^^^ tw (vg u (4 * k + 2) ^^^ vg u (4 * k + 3)))) := by
  refine loop_count 3 (fun j v => vp v (4 * k + j) ((vg u (4 * k + j) ^^^ all) ^^^ tw (vg u (4 * k + j) ^^^ vg u (4 * k + j + 1)))) u _ (fun j v => ∀ i, 4 * k + j ≤ i → i < 16 → vg v i = vg u i) (by omega) (fun i _ _ => rfl) (fun j v hj hv => ⟨?_, fun i h1 h2 => ?_⟩) (fun v hv he => ?_)
  · have e1 : w64 (((4 * k : Nat) : Int) + (j : Int)) = ((4 * k + j : Nat) : Int) := by rw [w64_id (by omega) (by omega)]; omega
    have e2 : w64 (((4 * k + j : Nat) : Int) + 1) = ((4 * k + j + 1 : Nat) : Int) := by rw [w64_id (by omega) (by omega)]; omega
    have e3 : w64 ((j : Int) + 1) = ((j + 1 : Nat) : Int) := by rw [w64_id (by omega) (by omega)]; omega
    unfold halberdref4_cipher.b5
    simp only [e1, e2, e3, Int.toNat_natCast]
    iterate 4 refine if_i (by omega) ?_
    refine bind_i (double_eq _) (if_i (by omega) ?_)
    refine ltt_i fun m hm => ltt_i fun i hi => ?_
    rw [hi, hm, hv (4 * k + j) (by omega) (by omega), hv (4 * k + j + 1) (by omega) (by omega)]
  · rw [vg_vp (by omega) h2, if_neg (by omega)]
    exact hv i (by omega) h2
  · unfold halberdref4_cipher.b5
    refine if_n (by omega) ?_
    rw [he]
    rfl
theorem ref_b4_step (k : Nat) (hk : k < 4) (u : V16) : halberdref4_cipher.b4 (((4 * k : Nat) : Int), u) = some (.inl (((4 * (k + 1) : Nat) : Int), mixS k u)) := by
  have e1 : w64 (((4 * k : Nat) : Int) + 1) = ((4 * k + 1 : Nat) : Int) := by rw [w64_id (by omega) (by omega)]; omega
  have e2 : w64 (((4 * k : Nat) : Int) + 2) = ((4 * k + 2 : Nat) : Int) := by rw [w64_id (by omega) (by omega)]; omega
  have e3 : w64 (((4 * k : Nat) : Int) + 3) = ((4 * k + 3 : Nat) : Int) := by rw [w64_id (by omega) (by omega)]; omega
  have e4 : w64 (((4 * k : Nat) : Int) + 4) = ((4 * (k + 1) : Nat) : Int) := by rw [w64_id (by omega) (by omega)]; omega
  unfold halberdref4_cipher.b4
  simp only [e1, e2, e3, e4, Int.toNat_natCast]
  iterate 5 refine if_i (by omega) ?_
  refine ltt_i fun all hall => if_i (by omega) (ltt_i fun first hf => bind_i (ref_b5 k hk u all) ?_)
  iterate 2 refine if_i (by omega) ?_
  refine bind_i (double_eq _) (if_i (by omega) ?_)
  refine ltt_i fun m hm => ltt_i fun i hi => ?_
  have a3 : ∀ (x y z : BitVec 8), vg (vp (vp (vp u (4 * k) x) (4 * k + 1) y) (4 * k + 2) z) (4 * k + 3) = vg u (4 * k + 3) := fun x y z => by
    rw [vg_vp (by omega) (by omega), if_neg (by omega), vg_vp (by omega) (by omega), if_neg (by omega), vg_vp (by omega) (by omega), if_neg (by omega)]
  rw [a3] at hm
  have : m = mixS k u := by
    rw [hm, hf, hall]
    unfold mixS
    simp only [BitVec.xor_assoc]
  rw [hi, this]
theorem ref_b4 (v : V16) : loop halberdref4_cipher.b4 BIG (0, v) = some (mixV v) := by
  refine loop_iter (fun k => (((4 * k : Nat) : Int), iter mixS k v)) 4 _ (by omega) (fun k hk => ref_b4_step k hk _) ?_
  show (if (((4 * 4 : Nat) : Int)) < 16 then _ else _) = _
  rw [if_neg (by omega)]
  rfl
theorem cipher_eq (w : List V4) (s : Str) (L : Nat) (hL : w.length = 4 * L) (h0 : 1 ≤ L) (h2 : L < 200) (hs : s.length = 16) : halberdref4_cipher w s = some (encV (keysOf w) (toV s)).toList := by
  have hlen : (keysOf w).length = L := by rw [keysOf_length]; omega
  have hk : ∀ r, r < L → lg (keysOf w) r = keyV w r := fun r hr => keysOf_lg w r (by omega)
  have e0 : w64 ((w64 ((w.length : Int).tdiv 4)) - 1) = (L : Int) - 1 := by
    rw [show (4 : Int) = ((4 : Nat) : Int) from rfl, tdivN, w64_nat (by omega), w64_id (by omega) (by omega)]; omega
  have hl : loop (halberdref4_cipher.b1 w ((L : Int) - 1)) BIG (1, xorV (toV s) (keyV w 0)) = some (encV (keysOf w) (toV s)) := by
    refine loop_iter (fun k => (((k + 1 : Nat) : Int), iter (fun k v => roundV (keysOf w) (k + 1) v) k (xorV (toV s) (keyV w 0)))) (L - 1) _ (by omega) (fun k hk1 => ?_) ?_
    · generalize hu : iter (fun k v => roundV (keysOf w) (k + 1) v) k (xorV (toV s) (keyV w 0)) = u
      have hu2 : iter (fun k v => roundV (keysOf w) (k + 1) v) (k + 1) (xorV (toV s) (keyV w 0)) = roundV (keysOf w) (k + 1) u := by rw [← hu]; rfl
      have e1 : w64 (((k + 1 : Nat) : Int) + 1) = ((k + 1 + 1 : Nat) : Int) := by rw [w64_id (by omega) (by omega)]; omega
      have h3 := fun j => ref_b3 w u j (k + 1) (by omega) (by omega)
      simp only [hu2, halberdref4_cipher.b1, e1]
      refine if_i (by omega) (bind_i (ref_b2 _) ?_)
      by_cases hc : k + 1 + 1 < L
      · refine bind_i (if_i (by omega) (bind_i (ref_b4 _) rfl)) (bind_i (h3 _) (ltt_i fun i hi => ?_))
        rw [hi]
        simp only [roundV, hlen, if_pos hc, hk (k + 1) (by omega)]
      · refine bind_i (if_n (by omega) rfl) (bind_i (h3 _) (ltt_i fun i hi => ?_))
        rw [hi]
        simp only [roundV, hlen, if_neg hc, hk (k + 1) (by omega)]
    · simp only [halberdref4_cipher.b1]
      refine if_n (by omega) ?_
      unfold encV
      rw [hlen, hk 0 (by omega)]
  unfold halberdref4_cipher
  refine bind_i (ref_b0 w s (by omega) (by omega) hs) (ltt_i fun r hr => ?_)
  rw [hr, e0]
  exact bind_i hl rfl
end Go.Proofs
end

section
namespace Go.Proofs
open Go Go.Kx
set_option linter.unusedVariables false
set_option linter.unusedSimpArgs false
def subW (t : V4) : V4 := #v[vg BOXV (vg t 0).toNat, vg BOXV (vg t 1).toNat, vg BOXV (vg t 2).toNat, vg BOXV (vg t 3).toNat]
def rotW (t : V4) (r : BitVec 8) : V4 := #v[vg BOXV (vg t 1).toNat ^^^ r, vg BOXV (vg t 2).toNat, vg BOXV (vg t 3).toNat, vg BOXV (vg t 0).toNat]
def tempW (n i : Nat) (s : BitVec 8 × List V4) : BitVec 8 × V4 :=
  if i % n = 0 then (tw s.1, rotW (lg s.2 (i - 1)) s.1) else if n = 8 ∧ i % n = 4 then (s.1, subW (lg s.2 (i - 1))) else (s.1, lg s.2 (i - 1))
def kwV (key : Str) (i : Nat) : V4 := #v[key.getD (4 * i) 0#8, key.getD (4 * i + 1) 0#8, key.getD (4 * i + 2) 0#8, key.getD (4 * i + 3) 0#8]
def xorW (a b : V4) : V4 := Vector.ofFn fun k => vg a k.val ^^^ vg b k.val
def stepK (key : Str) (n i : Nat) (s : BitVec 8 × List V4) : BitVec 8 × List V4 :=
  if i < n then (s.1, s.2 ++ [kwV key i]) else ((tempW n i s).1, s.2 ++ [xorW (tempW n i s).2 (lg s.2 (i - n))])
def Wst (key : Str) (n i : Nat) : BitVec 8 × List V4 := iter (stepK key n) i (1#8, [])
theorem Wst_succ (key : Str) (n i : Nat) : Wst key n (i + 1) = stepK key n i (Wst key n i) := rfl
theorem Wst_len (key : Str) (n : Nat) : ∀ i, (Wst key n i).2.length = i
  | 0 => rfl
  | i + 1 => by
    rw [Wst_succ]; unfold stepK
    have := Wst_len key n i
    split <;> simp [this]
theorem box_len' : halberdref4_schedule.k1.length = 256 := by kernel_rfl
theorem box_at' (x : BitVec 8) : sg halberdref4_schedule.k1 (x.toNat : Int) = vg BOXV x.toNat := by
  simp only [sg, Int.toNat_natCast, vg, BOXV]
  rfl
theorem sg_nat (s : Str) (n : Nat) : sg s (n : Int) = s.getD n 0#8 := by unfold sg; rw [Int.toNat_natCast]
theorem v4_congr {a b c d a' b' c' d' : BitVec 8} (ha : a = a') (hb : b = b') (hc : c = c') (hd : d = d') : (#v[a, b, c, d] : V4) = #v[a', b', c', d'] := by
  subst ha; subst hb; subst hc; subst hd; rfl
theorem sch_b0 (key : Str) (n : Nat) (hn : n = 4 ∨ n = 8) (hk : key.length = 4 * n) : loop (halberdref4_schedule.b0 key (n : Int)) BIG (0, []) = some (Wst key n n).2 := by
  refine loop_iter (fun i => ((i : Int), (Wst key n i).2)) n _ (by omega) (fun i hi => ?_) ?_
  · have hl := Wst_len key n i
    have e0 : w64 (4 * (i : Int)) = ((4 * i : Nat) : Int) := by rw [w64_id (by omega) (by omega)]; omega
    have e1 : w64 (w64 (4 * (i : Int)) + 1) = ((4 * i + 1 : Nat) : Int) := by rw [e0, w64_id (by omega) (by omega)]; omega
    have e2 : w64 (w64 (4 * (i : Int)) + 2) = ((4 * i + 2 : Nat) : Int) := by rw [e0, w64_id (by omega) (by omega)]; omega
    have e3 : w64 (w64 (4 * (i : Int)) + 3) = ((4 * i + 3 : Nat) : Int) := by rw [e0, w64_id (by omega) (by omega)]; omega
    have e4 : w64 ((i : Int) + 1) = ((i + 1 : Nat) : Int) := by rw [w64_id (by omega) (by omega)]; omega
    unfold halberdref4_schedule.b0
    dsimp only
    iterate 5 refine if_i (by omega) ?_
    refine if_i (by simp only [hl, List.length_cons, List.length_nil]; omega) ?_
    refine ltt_i fun m hm => ltt_i fun j hj => ?_
    rw [hj, hm, Wst_succ, e4]
    unfold stepK
    rw [if_pos hi]
    dsimp only
    rw [v4_congr (by rw [e0, sg_nat]) (by rw [e1, sg_nat]) (by rw [e2, sg_nat]) (by rw [e3, sg_nat])]
    rfl
  · unfold halberdref4_schedule.b0
    exact if_n (by omega) rfl
theorem sch_b2 (n i : Nat) (r : BitVec 8) (ws : List V4) (t : V4) (h : n ≤ i) (hi : ws.length = i) (hn : 0 < n) (h2 : i < 1000) : loop (halberdref4_schedule.b2 (n : Int) (r, (i : Int), ws)) BIG (0, t) = some (xorW t (lg ws (i - n))) := by
  refine loop_fill _ (fun k => vg t k ^^^ vg (lg ws (i - n)) k) id (by omega) (fun k v hk hv => ?_) (fun v => ?_)
  · have e := hv k (Nat.le_refl _) hk
    have e1 : w64 ((i : Int) - (n : Int)) = ((i - n : Nat) : Int) := by rw [w64_id (by omega) (by omega)]; omega
    have e2 : w64 ((k : Int) + 1) = ((k + 1 : Nat) : Int) := by rw [w64_id (by omega) (by omega)]; omega
    unfold halberdref4_schedule.b2
    simp only [e1, e2]
    iterate 5 refine if_i (by omega) ?_
    refine ltt_i fun m hm => ltt_i fun j hj => ?_
    simp only [hj, hm, Int.toNat_natCast, e]
  · unfold halberdref4_schedule.b2
    exact if_n (by omega) rfl
theorem sch_b1_step (key : Str) (n i : Nat) (hn : n = 4 ∨ n = 8) (h : n ≤ i) (hi : i < 4 * (n + 7)) :
    halberdref4_schedule.b1 (n : Int) ((Wst key n i).1, (i : Int), (Wst key n i).2) = some (.inl ((Wst key n (i + 1)).1, ((i + 1 : Nat) : Int), (Wst key n (i + 1)).2)) := by
  have hl := Wst_len key n i
  rw [Wst_succ]
  generalize Wst key n i = s at hl
  obtain ⟨r, ws⟩ := s
  simp only at hl
  have e0 : w64 (4 * w64 ((n : Int) + 7)) = ((4 * (n + 7) : Nat) : Int) := by rw [w64_id (x := (n : Int) + 7) (by omega) (by omega), w64_id (by omega) (by omega)]; omega
  have e1 : w64 ((i : Int) - 1) = ((i - 1 : Nat) : Int) := by rw [w64_id (by omega) (by omega)]; omega
  have e2 : (i : Int).tmod (n : Int) = ((i % n : Nat) : Int) := tmodN i n
  have e3 : w64 ((i : Int) + 1) = ((i + 1 : Nat) : Int) := by rw [w64_id (by omega) (by omega)]; omega
  unfold halberdref4_schedule.b1
  simp only [e0, e1, e2, e3, box_len', box_at', Int.toNat_natCast]
  iterate 2 refine if_i (by omega) ?_
  refine ltt_i fun m hm => if_i (by omega) (ltt_i fun x1 hx1 => ?_)
  have hb := fun k => (vg m k).isLt
  have hb0 := hb 0
  have hb1 := hb 1
  have hb2 := hb 2
  have hb3 := hb 3
  clear hb
  have key2 : ∀ j : BitVec 8 × V4, j = tempW n i (r, ws) → ((loop (halberdref4_schedule.b2 (n : Int) (r, (i : Int), ws)) BIG (0, j.2)).bind fun (t_3 : V4) => (if (ws).length + (([t_3] : List V4)).length ≤ 35184372088832 then (ltt (ws ++ ([t_3] : List V4)) fun (l2 : List V4) => (ltt ((i + 1 : Nat) : Int) fun (i2 : Int) => (some (Sum.inl (β := List V4) (j.1, i2, l2))))) else none)) = some (.inl ((stepK key n i (r, ws)).1, ((i + 1 : Nat) : Int), (stepK key n i (r, ws)).2)) := by
    intro j hj
    refine bind_i (sch_b2 n i r ws j.2 h hl (by omega) (by omega)) (if_i (by simp only [hl, List.length_cons, List.length_nil]; omega) (ltt_i fun l2 h2 => ltt_i fun i2 hi2 => ?_))
    rw [h2, hi2, hj]
    unfold stepK
    rw [if_neg (by omega)]
  by_cases c0 : i % n = 0
  · refine bind_i (v := (tw r, rotW m r)) (if_i (by rw [hx1, decide_eq_true_eq]; omega) ?_) (key2 _ ?_)
    · iterate 4 refine if_i (by omega) ?_
      exact ltt_i fun m3 h3 => bind_i (double_eq _) (by rw [h3]; rfl)
    · unfold tempW; rw [if_pos c0, hm]
  · by_cases c1 : n = 8 ∧ i % n = 4
    · refine bind_i (v := (r, subW m)) (if_n (by rw [hx1, decide_eq_true_eq]; omega) ?_) (key2 _ ?_)
      · iterate 2 refine if_i (by omega) ?_
        refine ltt_i fun x2 hx2 => if_i (by rw [hx2, decide_eq_true_eq]; omega) ?_
        iterate 4 refine if_i (by omega) ?_
        exact ltt_i fun m3 h3 => (by rw [h3]; rfl)
      · unfold tempW; rw [if_neg c0, if_pos c1, hm]
    · refine bind_i (v := (r, m)) (if_n (by rw [hx1, decide_eq_true_eq]; omega) ?_) (key2 _ ?_)
      · by_cases c2 : 6 < (n : Int)
        · refine if_i c2 (if_i (by omega) (ltt_i fun x2 hx2 => if_n (by rw [hx2, decide_eq_true_eq]; omega) rfl))
        · exact if_n c2 rfl
      · unfold tempW; rw [if_neg c0, if_neg c1, hm]
theorem sch_eq (key : Str) (n : Nat) (hn : n = 4 ∨ n = 8) (hk : key.length = 4 * n) : halberdref4_schedule key = some (Wst key n (4 * (n + 7))).2 := by
  have e0 : w64 ((key.length : Int).tdiv 4) = (n : Int) := by
    rw [show (4 : Int) = ((4 : Nat) : Int) from rfl, tdivN, w64_nat (by omega)]; omega
  unfold halberdref4_schedule
  refine ltt_i fun k hk1 => ?_
  rw [hk1, e0]
  refine bind_i (sch_b0 key n hn hk) (bind_i (v := (Wst key n (4 * (n + 7))).2) ?_ rfl)
  have hr : (Wst key n n).1 = 1#8 := by
    have : ∀ i, i ≤ n → (Wst key n i).1 = 1#8 := by
      intro i
      induction i with
      | zero => intro _; rfl
      | succ i ih => intro h; rw [Wst_succ]; unfold stepK; rw [if_pos (by omega)]; exact ih (by omega)
    exact this n (Nat.le_refl _)
  have := loop_iter (body := halberdref4_schedule.b1 (n : Int)) (fun k => ((Wst key n (n + k)).1, (((n + k : Nat)) : Int), (Wst key n (n + k)).2)) (4 * (n + 7) - n) (Wst key n (4 * (n + 7))).2 (by omega) (fun k hk2 => sch_b1_step key n (n + k) hn (by omega) (by omega)) ?_
  · rw [Nat.add_zero, hr] at this
    exact this
  · have e : n + (4 * (n + 7) - n) = 4 * (n + 7) := by omega
    rw [e]
    unfold halberdref4_schedule.b1
    refine if_n ?_ rfl
    rw [w64_id (x := (n : Int) + 7) (by omega) (by omega), w64_id (by omega) (by omega)]
    show ¬ (((4 * (n + 7) : Nat) : Int) < _)
    omega
end Go.Proofs
end

section
namespace Go.Proofs
open Go Go.Kx
set_option linter.unusedVariables false
set_option linter.unusedSimpArgs false
theorem vg_vsp {α : Type} [Inhabited α] {n : Nat} : ∀ (l : List α) (V : Vector α n) (o i : Nat), o + l.length ≤ n → i < n → vg (vsp V o l) i = if o ≤ i ∧ i < o + l.length then l.getD (i - o) default else vg V i
  | [], V, o, i, h, hi => by
    rw [if_neg (by simp)]; rfl
  | x :: r, V, o, i, h, hi => by
    simp only [List.length_cons] at h
    show vg (vsp (vp V o x) (o + 1) r) i = _
    rw [vg_vsp r (vp V o x) (o + 1) i (by omega) hi, vg_vp (by omega) hi]
    simp only [List.length_cons]
    by_cases h1 : o = i
    · subst h1
      rw [if_neg (by omega), if_pos rfl, if_pos (by omega)]
      simp
    · by_cases h2 : o + 1 ≤ i ∧ i < o + 1 + r.length
      · rw [if_pos h2, if_pos (by omega)]
        have : i - o = (i - (o + 1)) + 1 := by omega
        rw [this]; simp
      · rw [if_neg h2, if_neg h1, if_neg (by omega)]
theorem vec_take {α : Type} [Inhabited α] {n : Nat} {V : Vector α n} {l : List α} (h : l.length = n) (i : Nat) (hi : i < n) : vg (vsp V 0 l) i = l.getD i default := by
  rw [vg_vsp l V 0 i (by omega) hi, if_pos (by omega), Nat.sub_zero]
theorem lg_app_l {α : Type} [Inhabited α] {a b : List α} {i : Nat} (h : i < a.length) : lg (a ++ b) i = lg a i := by
  simp [lg, List.getElem?_append_left h]
theorem lg_app_r {α : Type} [Inhabited α] {a : List α} {b : List α} {x : α} : lg (a ++ x :: b) a.length = x := by
  simp [lg]
theorem set_app {α : Type} {a b : List α} {x y : α} : (a ++ x :: b).set a.length y = a ++ y :: b := by
  rw [List.set_append_right _ _ (Nat.le_refl _), Nat.sub_self]; rfl

def zW : V4 := Vector.replicate 4 0#8
/-- The words that stand, and the room that is left. -/
def padW (ws : List V4) (N : Nat) : List V4 := ws ++ List.replicate (N - ws.length) zW
theorem padW_length (ws : List V4) (N : Nat) (h : ws.length ≤ N) : (padW ws N).length = N := by simp [padW]; omega
theorem padW_lg (ws : List V4) (N i : Nat) (h : i < ws.length) : lg (padW ws N) i = lg ws i := lg_app_l h
theorem padW_split (ws : List V4) (N : Nat) (h : ws.length < N) : padW ws N = ws ++ zW :: List.replicate (N - ws.length - 1) zW := by
  unfold padW
  have : N - ws.length = (N - ws.length - 1) + 1 := by omega
  rw [this, List.replicate_succ]; simp
theorem padW_set (ws : List V4) (N : Nat) (x : V4) (h : ws.length < N) : (padW ws N).set ws.length x = padW (ws ++ [x]) N := by
  rw [padW_split ws N h, set_app]
  unfold padW
  simp [Nat.sub_sub]
theorem getD_take_sub (key : Str) (a k : Nat) (hk : k < 4) (h : a + 4 ≤ key.length) : ((sub key a key.length).take 4).getD k default = key.getD (a + k) 0#8 := by
  simp only [sub, List.getD_eq_getElem?_getD]
  rw [List.getElem?_take, if_pos hk, List.getElem?_take, if_pos (by omega), List.getElem?_drop]
  rfl
theorem kw_at (key : Str) (i k : Nat) (hk : k < 4) : vg (kwV key i) k = key.getD (4 * i + k) 0#8 := by
  have : k = 0 ∨ k = 1 ∨ k = 2 ∨ k = 3 := by omega
  rcases this with rfl | rfl | rfl | rfl <;> rfl

theorem new_b1 (n i N : Nat) (r r0 : BitVec 8) (ws : List V4) (t : V4) (h : n ≤ i) (hi : ws.length = i) (hn : 0 < n) (h2 : i < N) (hN : N = 4 * (n + 7)) (h3 : N < 1000) :
    loop (aes_New.b1 (n : Int) (r0, (i : Int), padW ws N) (r, t)) BIG (0, padW ws N) = some (padW (ws ++ [xorW t (lg ws (i - n))]) N) := by
  have hlen : ∀ x : V4, (ws ++ x :: List.replicate (N - ws.length - 1) zW).length = N := fun x => by simp; omega
  have e1 : w64 ((i : Int) - (n : Int)) = ((i - n : Nat) : Int) := by rw [w64_id (by omega) (by omega)]; omega
  have e0 : w64 (4 * w64 ((n : Int) + 7)) = (N : Int) := by rw [w64_id (x := (n : Int) + 7) (by omega) (by omega), w64_id (by omega) (by omega)]; omega
  let g : Nat → BitVec 8 := fun k => vg (lg ws (i - n)) k ^^^ vg t k
  have hg : iter (fun k v => vp v k (g k)) 4 zW = xorW t (lg ws (i - n)) := by
    refine vec_ext fun k hk => ?_
    have : k = 0 ∨ k = 1 ∨ k = 2 ∨ k = 3 := by omega
    have hx : vg (xorW t (lg ws (i - n))) k = g k := by
      unfold xorW; rw [vg_ofFn hk]; exact BitVec.xor_comm _ _
    rw [hx]
    show vg (vp (vp (vp (vp zW 0 (g 0)) 1 (g 1)) 2 (g 2)) 3 (g 3)) k = g k
    rcases this with rfl | rfl | rfl | rfl <;> simp (disch := omega) only [vg_vp, if_pos, if_neg] <;> simp
  have := loop_iter (body := aes_New.b1 (n : Int) (r0, (i : Int), padW ws N) (r, t)) (fun k => ((k : Int), ws ++ (iter (fun k v => vp v k (g k)) k zW) :: List.replicate (N - ws.length - 1) zW)) 4 (padW (ws ++ [xorW t (lg ws (i - n))]) N) (by omega) (fun k hk => ?_) ?_
  · rw [padW_split ws N (by omega)]
    rw [padW_split ws N (by omega)] at this
    exact this
  · generalize hu : iter (fun k v => vp v k (g k)) k zW = u
    have hu2 : iter (fun k v => vp v k (g k)) (k + 1) zW = vp u k (g k) := by rw [← hu]; rfl
    have e2 : w64 ((k : Int) + 1) = ((k + 1 : Nat) : Int) := by rw [w64_id (by omega) (by omega)]; omega
    have hl := hlen u
    unfold aes_New.b1
    simp only [e0, e1, e2, Int.toNat_natCast, hl]
    iterate 8 refine if_i (by omega) ?_
    refine ltt_i fun m hm => ?_
    have a1 : lg (ws ++ u :: List.replicate (N - ws.length - 1) zW) i = u := by rw [← hi]; exact lg_app_r
    have a2 : lg (ws ++ u :: List.replicate (N - ws.length - 1) zW) (i - n) = lg ws (i - n) := lg_app_l (by omega)
    have a3 : ∀ x : V4, (ws ++ u :: List.replicate (N - ws.length - 1) zW).set i x = ws ++ x :: List.replicate (N - ws.length - 1) zW := fun x => by rw [← hi]; exact set_app
    rw [hm, a1, a2, a3, hu2]
  · unfold aes_New.b1
    refine if_n (by omega) ?_
    rw [hg]
    have := padW_set ws N (xorW t (lg ws (i - n))) (by omega)
    rw [padW_split ws N (by omega), set_app] at this
    rw [this]
theorem new_b2 (t : V4) : loop (aes_New.b2 BOXV) BIG (0, t) = some (subW t) := by
  have h := loop_fill (body := aes_New.b2 BOXV) t (fun k => vg BOXV (vg t k).toNat) id (by omega) (fun k v hk hv => ?_) (fun v => ?_)
  · refine h.trans (congrArg some (vec_ext fun k hk => ?_))
    have : k = 0 ∨ k = 1 ∨ k = 2 ∨ k = 3 := by omega
    simp only [id, vg_ofFn hk]
    rcases this with rfl | rfl | rfl | rfl <;> rfl
  · have e := hv k (Nat.le_refl _) hk
    have e2 : w64 ((k : Int) + 1) = ((k + 1 : Nat) : Int) := by rw [w64_id (by omega) (by omega)]; omega
    unfold aes_New.b2
    simp only [e2, Int.toNat_natCast]
    iterate 3 refine if_i (by omega) ?_
    refine ltt_i fun m hm => ?_
    rw [hm, e]
  · unfold aes_New.b2
    exact if_n (by omega) rfl
end Go.Proofs
end

section
namespace Go.Proofs
open Go Go.Kx
set_option linter.unusedVariables false
set_option linter.unusedSimpArgs false
def halberdlaw4_Blocks (key : Str) (s_ : Str) : Option (Bool) :=
  (aes_Block key s_).bind fun (r_1 : Str × Int) => ((halberdref4_Block key s_).bind fun (r_2 : Str × Int) => (if r_1.1 = r_2.1 then ((halberdlaw0_Num r_1.2).bind fun (r_3 : Int) => (if r_3 = r_2.2 then ((halberdlaw4_awake).bind fun (r_4 : Bool) => (some r_4)) else (some false))) else (some false)))

set_option maxHeartbeats 4000000 in
set_option maxRecDepth 20000 in
theorem F3_calls (key : Str) (s_ : Str) (r : Bool) (H : halberdlaw4_Blocks key s_ = some r) :
    Does Try.prog 3 [vs key, vs s_] [] [] (Γ := Unit) (fun g => vb r) (fun g => []) := by
  intro w hmem hro hd
  refine calls_of (N := 33) (m0 := [(0, vs key), (1, vs s_)]) Try.func3 rfl Try.ntmps3 (argM_ok [vs key, vs s_]) rfl hmem hro hd ?_
  unfold halberdlaw4_Blocks at H
  refine TC_seq ?_
  refine TC_region ?_
  refine TL_v rfl rfl rfl (V_assign rfl) ?_
  refine TL_nil ?_
  refine TX_next ?_
  refine TC_seq ?_
  refine TC_region ?_
  refine TL_v rfl rfl rfl (V_move rfl) ?_
  refine TL_v rfl rfl rfl (V_move rfl) ?_
  obtain ⟨r_1, hr_1, H⟩ := bind_elim H
  refine TL_e rfl rfl rfl (E_call (Γ := Unit) (val := fun g => Value.tuple [vs r_1.1, vi r_1.2].toArray) (mem := fun g => []) (vs := [vs key, vs s_]) (Lin := []) (Ro := []) (is := []) rfl Try.call23 (F23_calls key s_ r_1 hr_1) rfl trivial) (fun g_1 => ?_)
  refine TL_v rfl rfl rfl (V_move rfl) ?_
  refine TL_v rfl rfl rfl (V_extract (vs := [vs r_1.1, vi r_1.2]) rfl rfl) ?_
  refine TL_v rfl rfl rfl (V_extract (vs := [vs r_1.1, vi r_1.2]) rfl rfl) ?_
  refine TL_v rfl rfl rfl (V_assign rfl) ?_
  refine TL_v rfl rfl rfl (V_assign rfl) ?_
  refine TL_nil ?_
  refine TX_next ?_
  refine TC_seq ?_
  refine TC_region ?_
  refine TL_v rfl rfl rfl (V_move rfl) ?_
  refine TL_v rfl rfl rfl (V_move rfl) ?_
  obtain ⟨r_2, hr_2, H⟩ := bind_elim H
  refine TL_e rfl rfl rfl (E_call (Γ := Unit) (val := fun g => Value.tuple [vs r_2.1, vi r_2.2].toArray) (mem := fun g => []) (vs := [vs key, vs s_]) (Lin := []) (Ro := []) (is := []) rfl Try.call24 (F24_calls key s_ r_2 hr_2) rfl trivial) (fun g_2 => ?_)
  refine TL_v rfl rfl rfl (V_move rfl) ?_
  refine TL_v rfl rfl rfl (V_extract (vs := [vs r_2.1, vi r_2.2]) rfl rfl) ?_
  refine TL_v rfl rfl rfl (V_extract (vs := [vs r_2.1, vi r_2.2]) rfl rfl) ?_
  refine TL_v rfl rfl rfl (V_assign rfl) ?_
  refine TL_v rfl rfl rfl (V_assign rfl) ?_
  refine TL_nil ?_
  refine TX_next ?_
  refine TC_seq ?_
  refine TC_region ?_
  refine TL_v rfl rfl rfl (V_move rfl) ?_
  refine TL_v rfl rfl rfl (V_move rfl) ?_
  refine TL_v rfl rfl rfl (V_bin rfl rfl (fun w => eqlS w r_1.1 r_2.1)) ?_
  refine TL_v rfl rfl rfl (V_move rfl) ?_
  refine TL_fork (d := 24) (b := (decide (r_1.1 = r_2.1))) rfl (fun hc => ?_) (fun hc => ?_)
  · replace H := ite_t (of_decide_eq_true hc) H
    refine TL_want rfl rfl rfl rfl rfl rfl (V_move rfl) ?_
    obtain ⟨r_3, hr_3, H⟩ := bind_elim H
    refine TL_wantE rfl rfl rfl rfl rfl rfl (E_call (Γ := Unit) (val := fun g => vi r_3) (mem := fun g => []) (vs := [vi r_1.2]) (Lin := []) (Ro := []) (is := []) rfl Try.call25 (F25_calls r_1.2 r_3 hr_3) rfl trivial) (fun g_3 => ?_)
    refine TL_want rfl rfl rfl rfl rfl rfl (V_move rfl) ?_
    refine TL_want rfl rfl rfl rfl rfl rfl (V_bin rfl rfl (fun w => eqlI w r_3 r_2.2)) ?_
    refine TL_v rfl rfl rfl (V_pick (b := true) rfl rfl) ?_
    refine TL_v rfl rfl rfl (V_move rfl) ?_
    refine TL_fork (d := 30) (b := (decide (r_3 = r_2.2))) rfl (fun hc => ?_) (fun hc => ?_)
    · replace H := ite_t (of_decide_eq_true hc) H
      obtain ⟨r_4, hr_4, H⟩ := bind_elim H
      refine TL_wantE rfl rfl rfl rfl rfl rfl (E_call (Γ := Unit) (val := fun g => vb r_4) (mem := fun g => []) (vs := []) (Lin := []) (Ro := []) (is := []) rfl Try.call26 (F26_calls r_4 hr_4) rfl trivial) (fun g_4 => ?_)
      refine TL_v rfl rfl rfl (V_pick (b := true) rfl rfl) ?_
      refine TL_v rfl rfl rfl (V_assign rfl) ?_
      refine TL_nil ?_
      refine TX_next ?_
      refine TC.sub (m' := [(4, vb r_4)]) ⟨rfl, trivial⟩ ?_
      refine TC_ret ?_
      have hrv := Option.some.inj H
      subst hrv
      exact TX_ret (rs := [.tmp 4]) (vs := [vb r_4]) rfl ⟨rfl, trivial⟩ (fun w' hs' => ⟨(), rfl, Step.left (Step.pulled (is := []) (A := []) hs' rfl)⟩)
    · replace H := ite_f (of_decide_eq_false hc) H
      refine TL_skip rfl rfl rfl rfl rfl rfl rfl ?_
      refine TL_v rfl rfl rfl (V_pick (b := false) rfl rfl) ?_
      refine TL_v rfl rfl rfl (V_assign rfl) ?_
      refine TL_nil ?_
      refine TX_next ?_
      refine TC.sub (m' := [(4, vb false)]) ⟨rfl, trivial⟩ ?_
      refine TC_ret ?_
      have hrv := Option.some.inj H
      subst hrv
      exact TX_ret (rs := [.tmp 4]) (vs := [vb false]) rfl ⟨rfl, trivial⟩ (fun w' hs' => ⟨(), rfl, Step.left (Step.pulled (is := []) (A := []) hs' rfl)⟩)
  · replace H := ite_f (of_decide_eq_false hc) H
    refine TL_skip rfl rfl rfl rfl rfl rfl rfl ?_
    refine TL_skip rfl rfl rfl rfl rfl rfl rfl ?_
    refine TL_skip rfl rfl rfl rfl rfl rfl rfl ?_
    refine TL_skip rfl rfl rfl rfl rfl rfl rfl ?_
    refine TL_v rfl rfl rfl (V_pick (b := false) rfl rfl) ?_
    refine TL_v rfl rfl rfl (V_move rfl) ?_
    refine TL_skip rfl rfl rfl rfl rfl rfl rfl ?_
    refine TL_v rfl rfl rfl (V_pick (b := false) rfl rfl) ?_
    refine TL_v rfl rfl rfl (V_assign rfl) ?_
    refine TL_nil ?_
    refine TX_next ?_
    refine TC.sub (m' := [(4, vb false)]) ⟨rfl, trivial⟩ ?_
    refine TC_ret ?_
    have hrv := Option.some.inj H
    subst hrv
    exact TX_ret (rs := [.tmp 4]) (vs := [vb false]) rfl ⟨rfl, trivial⟩ (fun w' hs' => ⟨(), rfl, Step.left (Step.pulled (is := []) (A := []) hs' rfl)⟩)

end Go.Proofs
end

section
namespace Go.Proofs
open Go Go.Kx
set_option linter.unusedVariables false
set_option linter.unusedSimpArgs false
theorem new_b0_step (key : Str) (n i N : Nat) (hn : n = 4 ∨ n = 8) (hk : key.length = 4 * n) (hN : N = 4 * (n + 7)) (hi : i < N) :
    aes_New.b0 key BOXV (n : Int) ((Wst key n i).1, (i : Int), padW (Wst key n i).2 N) = some (.inl ((Wst key n (i + 1)).1, ((i + 1 : Nat) : Int), padW (Wst key n (i + 1)).2 N)) := by
  have hl := Wst_len key n i
  rw [Wst_succ]
  generalize Wst key n i = s at hl
  obtain ⟨r, ws⟩ := s
  simp only at hl
  have hp := padW_length ws N (by omega)
  have e0 : w64 (4 * w64 ((n : Int) + 7)) = (N : Int) := by rw [w64_id (x := (n : Int) + 7) (by omega) (by omega), w64_id (by omega) (by omega)]; omega
  have e2 : (i : Int).tmod (n : Int) = ((i % n : Nat) : Int) := tmodN i n
  have e3 : w64 ((i : Int) + 1) = ((i + 1 : Nat) : Int) := by rw [w64_id (by omega) (by omega)]; omega
  by_cases hc : i < n
  · have e4 : w64 (4 * (i : Int)) = ((4 * i : Nat) : Int) := by rw [w64_id (by omega) (by omega)]; omega
    unfold aes_New.b0
    simp only [e0, e3, e4, Int.toNat_natCast]
    refine if_i (by omega) (if_i (by omega) ?_)
    iterate 4 refine if_i (by omega) ?_
    refine ltt_i fun m hm => ?_
    have a1 : lg (padW ws N) i = zW := by rw [padW_split ws N (by omega), ← hl]; exact lg_app_r
    have hs : (sub key (4 * i) key.length).length = 4 * n - 4 * i := by rw [sub_length (Nat.le_refl _), hk]
    have hmin : min (sub key (4 * i) key.length).length (4 - 0) = 4 := by rw [hs]; omega
    have a2 : vsp zW 0 ((sub key (4 * i) key.length).take 4) = kwV key i := by
      refine vec_ext fun k hk2 => ?_
      rw [vec_take (by rw [List.length_take, hs]; omega) k hk2, getD_take_sub key (4 * i) k hk2 (by omega), kw_at key i k hk2]
    have a3 := padW_set ws N (kwV key i) (by omega)
    rw [hl] at a3
    rw [hm, a1, hmin, a2, a3]
    unfold stepK
    rw [if_pos hc]
  · have e1 : w64 ((i : Int) - 1) = ((i - 1 : Nat) : Int) := by rw [w64_id (by omega) (by omega)]; omega
    unfold aes_New.b0
    simp only [e0, e1, e2, e3, Int.toNat_natCast]
    refine if_i (by omega) (if_n (by omega) ?_)
    iterate 2 refine if_i (by omega) ?_
    refine ltt_i fun m hm => if_i (by omega) ?_
    rw [padW_lg ws N (i - 1) (by omega)] at hm
    have key2 : ∀ j : BitVec 8 × V4, j = tempW n i (r, ws) → ((loop (aes_New.b1 (n : Int) (r, (i : Int), padW ws N) j) BIG (0, padW ws N)).bind fun (t_2 : List V4) => (some (Sum.inl (β := List V4) (j.1, ((i + 1 : Nat) : Int), t_2)))) = some (.inl ((stepK key n i (r, ws)).1, ((i + 1 : Nat) : Int), padW (stepK key n i (r, ws)).2 N)) := by
      intro j hj
      refine bind_i (new_b1 n i N j.1 r ws j.2 (by omega) hl (by omega) (by omega) hN (by omega)) ?_
      rw [hj]
      unfold stepK
      rw [if_neg (by omega)]
    by_cases c0 : i % n = 0
    · refine bind_i (v := (tw r, rotW m r)) (if_i (by omega) ?_) (key2 _ ?_)
      · exact ltt_i fun m3 h3 => bind_i (twice_eq _) (by rw [h3]; rfl)
      · unfold tempW; rw [if_pos c0, hm]
    · by_cases c1 : n = 8 ∧ i % n = 4
      · refine bind_i (v := (r, subW m)) (if_n (by omega) (if_i (by omega) (if_i (by omega) (if_i (by omega) (bind_i (new_b2 m) rfl))))) (key2 _ ?_)
        unfold tempW; rw [if_neg c0, if_pos c1, hm]
      · refine bind_i (v := (r, m)) (if_n (by omega) ?_) (key2 _ ?_)
        · by_cases c2 : (n : Int) = 8
          · exact if_i c2 (if_i (by omega) (if_n (by omega) rfl))
          · exact if_n c2 rfl
        · unfold tempW; rw [if_neg c0, if_neg c1, hm]
theorem new_b0 (key : Str) (n N : Nat) (hn : n = 4 ∨ n = 8) (hk : key.length = 4 * n) (hN : N = 4 * (n + 7)) : loop (aes_New.b0 key BOXV (n : Int)) BIG (1#8, 0, List.replicate N zW) = some (Wst key n N).2 := by
  have e0 : w64 (4 * w64 ((n : Int) + 7)) = (N : Int) := by rw [w64_id (x := (n : Int) + 7) (by omega) (by omega), w64_id (by omega) (by omega)]; omega
  have := loop_iter (body := aes_New.b0 key BOXV (n : Int)) (fun i => ((Wst key n i).1, (i : Int), padW (Wst key n i).2 N)) N (Wst key n N).2 (by omega) (fun i hi => new_b0_step key n i N hn hk hN hi) ?_
  · exact this
  · unfold aes_New.b0
    simp only [e0, Int.toNat_natCast]
    refine if_n (by omega) ?_
    have hl := Wst_len key n N
    have : padW (Wst key n N).2 N = (Wst key n N).2 := by unfold padW; rw [hl, Nat.sub_self]; simp
    rw [this]
/-- The words laid into the rounds' keys. -/
theorem new_b3 (w : List V4) (n N : Nat) (hn : n = 4 ∨ n = 8) (hw : w.length = N) (hN : N = 4 * (n + 7)) : loop (aes_New.b3 (n : Int) w) BIG (0, List.replicate (n + 7) (Vector.replicate 16 0#8)) = some (keysOf w) := by
  have e0 : w64 (4 * w64 ((n : Int) + 7)) = (N : Int) := by rw [w64_id (x := (n : Int) + 7) (by omega) (by omega), w64_id (by omega) (by omega)]; omega
  have e7 : w64 ((n : Int) + 7) = ((n + 7 : Nat) : Int) := by rw [w64_id (by omega) (by omega)]; omega
  refine loop_count N (fun k ks => ks.set (k / 4) (vsp (lg ks (k / 4)) (4 * (k % 4)) (lg w k).toList)) _ _ (fun k ks => ks.length = n + 7 ∧ ∀ r i, r < n + 7 → i < 16 → vg (lg ks r) i = if 4 * r + i / 4 < k then vg (lg w (4 * r + i / 4)) (i % 4) else 0#8) (by omega) ⟨by simp, fun r i hr hi => ?_⟩ (fun k ks hk ⟨h1, h2⟩ => ⟨?_, by simp [h1], fun r i hr hi => ?_⟩) (fun ks ⟨h1, h2⟩ _ => ?_)
  · rw [if_neg (by omega)]
    have : lg (List.replicate (n + 7) (Vector.replicate 16 0#8)) r = Vector.replicate 16 0#8 := by simp [lg, hr]
    rw [this, vg_eq' hi]; simp
  · have e1 : w64 ((k : Int).tdiv 4) = ((k / 4 : Nat) : Int) := by rw [show (4 : Int) = ((4 : Nat) : Int) from rfl, tdivN, w64_nat (by omega)]
    have e2 : (k : Int).tmod 4 = ((k % 4 : Nat) : Int) := tmodN k 4
    have e3 : w64 (4 * ((k % 4 : Nat) : Int)) = ((4 * (k % 4) : Nat) : Int) := by rw [w64_id (by omega) (by omega)]; omega
    have e4 : w64 ((k : Int) + 1) = ((k + 1 : Nat) : Int) := by rw [w64_id (by omega) (by omega)]; omega
    have e8 : w64 (4 * ((n + 7 : Nat) : Int)) = (N : Int) := by rw [w64_id (by omega) (by omega)]; omega
    unfold aes_New.b3
    simp only [e7, e8, e1, e2, e3, e4, Int.toNat_natCast]
    clear e0 e1 e2 e3 e4 e7 e8
    iterate 8 refine if_i (by omega) ?_
    refine ltt_i fun m hm => ?_
    have a1 : (sub ((lg w k).toList) 0 4).take (min (4 - 0) (16 - 4 * (k % 4))) = (lg w k).toList := by
      have hm : min (4 - 0) (16 - 4 * (k % 4)) = 4 := by omega
      have hl4 : (lg w k).toList.length = 4 := by simp
      rw [hm]
      unfold sub
      rw [List.drop_zero, Nat.sub_zero, List.take_of_length_le (l := (lg w k).toList) (by omega), List.take_of_length_le (by omega)]
    rw [hm, a1]
  · have hlw : (lg w k).toList.length = 4 := by simp
    by_cases hr2 : k / 4 = r
    · subst hr2
      have e : lg (ks.set (k / 4) (vsp (lg ks (k / 4)) (4 * (k % 4)) (lg w k).toList)) (k / 4) = vsp (lg ks (k / 4)) (4 * (k % 4)) (lg w k).toList := by
        simp [lg, h1, hr]
      rw [e, vg_vsp _ _ _ _ (by rw [hlw]; omega) hi, hlw]
      by_cases c : 4 * (k % 4) ≤ i ∧ i < 4 * (k % 4) + 4
      · have e4 : 4 * (k / 4) + i / 4 = k := by omega
        rw [if_pos c, if_pos (by omega), e4]
        have e5 : i - 4 * (k % 4) = i % 4 := by omega
        rw [e5]
        rfl
      · rw [if_neg c, h2 (k / 4) i hr hi]
        by_cases c2 : 4 * (k / 4) + i / 4 < k
        · rw [if_pos c2, if_pos (by omega)]
        · rw [if_neg c2, if_neg (by omega)]
    · have e : lg (ks.set (k / 4) (vsp (lg ks (k / 4)) (4 * (k % 4)) (lg w k).toList)) r = lg ks r := by
        simp [lg, List.getElem?_set, hr2]
      rw [e, h2 r i hr hi]
      by_cases c2 : 4 * r + i / 4 < k
      · rw [if_pos c2, if_pos (by omega)]
      · rw [if_neg c2, if_neg (by omega)]
  · unfold aes_New.b3
    simp only [e0, Int.toNat_natCast]
    refine if_n (by omega) (congrArg some (congrArg Sum.inr ?_))
    refine List.ext_getElem (by rw [keysOf_length, h1]; omega) fun r p1 p2 => ?_
    have e1 : ks[r] = lg ks r := by simp [lg, p1]
    have e2 : (keysOf w)[r] = lg (keysOf w) r := by simp [lg, p2]
    rw [e1, e2, keysOf_lg w r (by omega)]
    refine vec_ext fun i hi => ?_
    rw [h2 r i (by omega) hi, if_pos (by omega)]
    simp only [keyV, vg_ofFn hi]
/-- The cipher's tables are the reference's. -/
theorem New_eq (key : Str) (n : Nat) (hn : n = 4 ∨ n = 8) (hk : key.length = 4 * n) : aes_New key = some (.inr (BOXV, n + 7, keysOf (Wst key n (4 * (n + 7))).2)) := by
  have e0 : w64 ((key.length : Int).tdiv 4) = (n : Int) := by
    rw [show (4 : Int) = ((4 : Nat) : Int) from rfl, tdivN, w64_nat (by omega)]; omega
  have e1 : w64 ((n : Int) + 7) = ((n + 7 : Nat) : Int) := by rw [w64_id (by omega) (by omega)]; omega
  have e2 : w64 (4 * ((n + 7 : Nat) : Int)) = ((4 * (n + 7) : Nat) : Int) := by rw [w64_id (by omega) (by omega)]; omega
  have b0 := new_b0 key n (4 * (n + 7)) hn hk rfl
  have b3 := new_b3 (Wst key n (4 * (n + 7))).2 n (4 * (n + 7)) hn (Wst_len key n _) rfl
  have hb4 : aes_New.b4 = aes_New.b0 := rfl
  have hb7 : aes_New.b7 = aes_New.b3 := rfl
  unfold aes_New
  rw [hb4, hb7, e0]
  have rest : (aes_table).bind (fun (r_1 : Vector (BitVec 8) 256) => (ltt (n : Int) fun (n1 : Int) => (if 0 ≤ w64 (4 * (w64 (n1 + 7))) ∧ w64 (4 * (w64 (n1 + 7))) ≤ 17592186044416 then ((loop (aes_New.b0 key r_1 n1) BIG (1#8, 0, List.replicate ((w64 (4 * (w64 (n1 + 7)))).toNat) (Vector.replicate 4 0#8))).bind fun (t_1 : List (Vector (BitVec 8) 4)) => (if 0 ≤ w64 (n1 + 7) ∧ w64 (n1 + 7) ≤ 17592186044416 then ((loop (aes_New.b3 n1 t_1) BIG (0, List.replicate ((w64 (n1 + 7)).toNat) (Vector.replicate 16 0#8))).bind fun (t_4 : List (Vector (BitVec 8) 16)) => (some (Sum.inr (α := Unit) (r_1, (w64 (n1 + 7)).toNat, t_4)))) else none)) else none))) = some (.inr (BOXV, n + 7, keysOf (Wst key n (4 * (n + 7))).2)) := by
    refine bind_i table_eq (ltt_i fun n1 hn1 => ?_)
    rw [hn1, e1, e2, Int.toNat_natCast, Int.toNat_natCast]
    refine if_i (by omega) (bind_i b0 (if_i (by omega) (bind_i b3 rfl)))
  rcases hn with h4 | h8
  · subst h4
    exact if_n (by omega) rest
  · subst h8
    exact if_i (by omega) (if_n (by omega) rest)
theorem toV_eq (s : Str) (h : s.length = 16) : vsp (Vector.replicate 16 0#8) 0 (s.take (min s.length 16)) = toV s := by
  refine vec_ext fun i hi => ?_
  have : s.take (min s.length 16) = s := by rw [h]; exact List.take_of_length_le (by omega)
  rw [this, vec_take h i hi, toV, vg_ofFn hi]
  rfl
/-- The one block, as both say it. -/
def blockV (key s : Str) : Str := (encV (keysOf (Wst key (key.length / 4) (4 * (key.length / 4 + 7))).2) (toV s)).toList
def blockE (key s : Str) : Str × Int := if (key.length = 16 ∨ key.length = 32) ∧ s.length = 16 then (blockV key s, 0) else ([], 400)
theorem blockE_pos {key s : Str} (h : (key.length = 16 ∨ key.length = 32) ∧ s.length = 16) : blockE key s = (blockV key s, 0) := if_pos h
theorem blockE_neg {key s : Str} (h : ¬ ((key.length = 16 ∨ key.length = 32) ∧ s.length = 16)) : blockE key s = ([], 400) := if_neg h
theorem Block_eq (key s : Str) : aes_Block key s = some (blockE key s) := by
  unfold aes_Block
  by_cases hk : key.length = 16 ∨ key.length = 32
  · have hn : key.length / 4 = 4 ∨ key.length / 4 = 8 := by omega
    have hl : key.length = 4 * (key.length / 4) := by omega
    have hw := Wst_len key (key.length / 4) (4 * (key.length / 4 + 7))
    refine bind_i (New_eq key _ hn hl) ?_
    dsimp only
    by_cases hs : s.length = 16
    · rw [blockE_pos ⟨hk, hs⟩]
      refine if_n (by omega) (ltt_i fun m hm => if_i (by rw [keysOf_length, hw]; omega) ?_)
      rw [hm, toV_eq s hs]
      refine bind_i (enc_eq _ _ (by rw [keysOf_length, hw]; omega) (by rw [keysOf_length, hw]; omega)) rfl
    · rw [blockE_neg (fun h => hs h.2)]
      exact if_i (by omega) rfl
  · rw [blockE_neg (fun h => hk h.1)]
    refine bind_i (v := .inl ()) ?_ rfl
    unfold aes_New
    exact if_i (by omega) (if_i (by omega) rfl)
theorem RefBlock_eq (key s : Str) : halberdref4_Block key s = some (blockE key s) := by
  have main : (key.length = 16 ∨ key.length = 32) → s.length = 16 → (halberdref4_schedule key).bind (fun (r_1 : List (Vector (BitVec 8) 4)) => ((halberdref4_cipher r_1 s).bind fun (r_2 : Str) => (some (r_2, (0 : Int))))) = some (blockV key s, 0) := by
    intro hk hs
    have hn : key.length / 4 = 4 ∨ key.length / 4 = 8 := by omega
    have hw := Wst_len key (key.length / 4) (4 * (key.length / 4 + 7))
    exact bind_i (sch_eq key _ hn (by omega)) (bind_i (cipher_eq _ s (key.length / 4 + 7) hw (by omega) (by omega) hs) rfl)
  unfold halberdref4_Block
  by_cases h16 : key.length = 16
  · refine if_n (by omega) ?_
    by_cases hs : s.length = 16
    · rw [blockE_pos ⟨.inl h16, hs⟩]; exact if_n (by omega) (main (.inl h16) hs)
    · rw [blockE_neg (fun h => hs h.2)]; exact if_i (by omega) rfl
  · refine if_i (by omega) ?_
    by_cases h32 : key.length = 32
    · refine if_n (by omega) ?_
      by_cases hs : s.length = 16
      · rw [blockE_pos ⟨.inr h32, hs⟩]; exact if_n (by omega) (main (.inr h32) hs)
      · rw [blockE_neg (fun h => hs h.2)]; exact if_i (by omega) rfl
    · rw [blockE_neg (fun h => h.1.elim h16 h32)]; exact if_i (by omega) rfl
theorem Blocks_true (key s : Str) : halberdlaw4_Blocks key s = some true := by
  unfold halberdlaw4_Blocks
  exact bind_i (Block_eq key s) (bind_i (RefBlock_eq key s) (if_i rfl (bind_i (v := (blockE key s).2) rfl (if_i rfl (bind_i awake4 rfl)))))
end Go.Proofs
end

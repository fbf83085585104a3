/-
  Part KH2 of the proofs of this seat: HkdfA, HkdfW, HkdfB, F18, F19, F20, F21, HkdfL.
-/
import Derived.Test.YtfdnfkpalbihaaaKS4
import Derived.Test.YtfdnfkpalbihaaaKH1
import Derived.Test.YtfdnfkpalbihaaaK2
import Derived.Test.YtfdnfkpalbihaaaKS3
section
/-
  Keys out of keys: the program's and the reference's.
-/
namespace Go.Proofs
open Go Go.Kx
set_option linter.unusedVariables false
set_option linter.unusedSimpArgs false
abbrev okB (n : Int) : Prop := n = 256 ∨ n = 384
def keyP (n : Int) (key : Str) : Str := if bsz n < key.length then dig n key else key
def padB (n : Int) (key : Str) (c : BitVec 8) : Str := (List.range (bsz n)).map fun i => (keyP n key).getD i 0#8 ^^^ c
theorem padB_length (n : Int) (key : Str) (c : BitVec 8) : (padB n key c).length = bsz n := by simp [padB]
theorem keyP_le (n : Int) (hn : okB n) (key : Str) : (keyP n key).length ≤ bsz n := by
  unfold keyP
  split
  · rw [dig_length n hn]; rcases hn with h | h <;> subst h <;> decide
  · omega
def macE (n : Int) (key s : Str) : Str := dig n (padB n key 92#8 ++ dig n (padB n key 54#8 ++ s))
theorem macE_length (n : Int) (hn : okB n) (key s : Str) : (macE n key s).length = n.toNat / 8 := dig_length n hn _
theorem splice_at (z c : Str) (i : Nat) (hc : c.length ≤ z.length) (hi : i < z.length) (hz : ∀ j, z.getD j 0#8 = 0#8) : (splice z 0 c).getD i 0#8 = c.getD i 0#8 := by
  unfold splice
  simp only [List.take_zero, List.nil_append, Nat.zero_add]
  rw [List.getD_eq_getElem?_getD, List.getElem?_append]
  by_cases h : i < c.length
  · rw [if_pos h, List.getD_eq_getElem?_getD]
  · rw [if_neg h, List.getElem?_drop, ← List.getD_eq_getElem?_getD, hz, List.getD_eq_getElem?_getD, List.getElem?_eq_none (by omega)]
    rfl
theorem splice_length (z c : Str) (hc : c.length ≤ z.length) : (splice z 0 c).length = z.length := by
  unfold splice; simp; omega
theorem pads_eq (n : Int) (hn : okB n) (key : Str) (hk : key.length ≤ 140737488355328) : hkdf_pads n key = some (padB n key 54#8, padB n key 92#8) := by
  have hB := bsz_or n
  have hj : (if n = 384 then some (128 : Int) else some (w64 (n.tdiv 4))) = some (bsz n : Int) := by
    rcases hn with h | h <;> subst h <;> rfl
  have hkl := keyP_le n hn key
  unfold hkdf_pads
  refine ltt_i fun n1 hn1 => bind_i (v := (bsz n : Int)) (by rw [hn1]; exact hj) (bind_i (v := keyP n key) ?_ ?_)
  · unfold keyP
    by_cases c : bsz n < key.length
    · rw [if_pos c]
      refine if_i (by omega) ?_
      have hs := Sum_eq n key hk
      rw [if_pos hn] at hs
      exact bind_i hs rfl
    · rw [if_neg c]
      exact if_n (by omega) rfl
  · simp only [Int.toNat_natCast]
    have ht : (keyP n key).take (min (keyP n key).length (bsz n)) = keyP n key := List.take_of_length_le (by omega)
    have hz : ∀ j, (List.replicate (bsz n) 0#8).getD j 0#8 = 0#8 := fun j => by
      rw [List.getD_eq_getElem?_getD, List.getElem?_replicate]; split <;> rfl
    have hsl : (splice (List.replicate (bsz n) 0#8) 0 (keyP n key)).length = bsz n := by rw [splice_length _ _ (by simp; omega)]; simp
    have hsa : ∀ i, i < bsz n → (splice (List.replicate (bsz n) 0#8) 0 (keyP n key)).getD i 0#8 = (keyP n key).getD i 0#8 := fun i hi => splice_at _ _ i (by simp; omega) (by simp; omega) hz
    rw [ht]
    refine if_i (by omega) (if_i (by omega) (if_i (by simp) (ltt_i fun m1 hm1 => if_i (by simp) (ltt_i fun m2 hm2 => ?_))))
    generalize splice (List.replicate (bsz n) 0#8) 0 (keyP n key) = Z at hm1 hm2 hsl hsa
    subst hm1
    subst hm2
    let P : BitVec 8 → Nat → Str := fun c k => (List.range (bsz n)).map fun i => if i < k then (keyP n key).getD i 0#8 ^^^ c else (keyP n key).getD i 0#8
    have hPl : ∀ c k, (P c k).length = bsz n := fun c k => by simp [P]
    have hP0 : ∀ c, m2 = P c 0 := fun c => List.ext_getElem (by rw [hsl, hPl]) fun i h1 h2 => by
      have hs1 := hsa i (by omega)
      rw [List.getD_eq_getElem?_getD, List.getElem?_eq_getElem h1] at hs1
      have hs2 : m2[i] = (keyP n key).getD i 0#8 := hs1
      simp only [P, List.getElem_map, List.getElem_range]
      rw [if_neg (by omega), hs2]
    have hstep : ∀ c k, k < bsz n → (P c k).set k (lg (P c k) k ^^^ c) = P c (k + 1) := fun c k hk => by
      have hlg : lg (P c k) k = (keyP n key).getD k 0#8 := by simp [lg, P, hk]
      rw [hlg]
      refine List.ext_getElem (by simp [P]) fun i h1 h2 => ?_
      simp only [P, List.getElem_set, List.getElem_map, List.getElem_range]
      by_cases c1 : k = i
      · subst c1; rw [if_pos rfl, if_pos (by omega)]
      · rw [if_neg c1]
        by_cases c2 : i < k
        · rw [if_pos c2, if_pos (by omega)]
        · rw [if_neg c2, if_neg (by omega)]
    refine bind_i (v := (P 54#8 (bsz n), P 92#8 (bsz n))) (loop_fn (fun k => ((k : Int), P 54#8 k, P 92#8 k)) (bsz n) _ (by omega) ?_ (fun k hk => ?_) ?_) ?_
    · refine Prod.ext rfl (Prod.ext (hP0 _) (hP0 _))
    · have e1 : w64 ((k : Int) + 1) = ((k + 1 : Nat) : Int) := w64_add (b := 1) (by omega)
      have h1 := hPl 54#8 k
      have h2 := hPl 92#8 k
      unfold hkdf_pads.b0
      simp only [e1, Int.toNat_natCast]
      clear e1
      refine if_i (by omega) (if_i (by omega) (if_i (by omega) (if_i (by omega) (if_i (by omega) (ltt_i fun m3 hm3 => if_i (by omega) (if_i (by omega) (if_i (by omega) (if_i (by omega) (ltt_i fun m4 hm4 => ?_))))))))) 
      rw [hm3, hm4, hstep _ _ hk, hstep _ _ hk]
    · exact if_n (by show ¬ ((bsz n : Int) < _); omega) rfl
    · have hend : ∀ c, P c (bsz n) = padB n key c := fun c => by
        simp only [P]
        unfold padB
        refine List.map_congr_left fun i hi => ?_
        rw [if_pos (by simpa using hi)]
      rw [hend, hend]
      exact if_i (padB_length _ _ _) (if_i (padB_length _ _ _) rfl)
theorem newMac_eq (n : Int) (hn : okB n) (key : Str) (hk : key.length ≤ 140737488355328) :
    hkdf_newMac n key = some (.inr (n, (ob n (padB n key 54#8)).1, KV, (ob n (padB n key 54#8)).2.1, (ob n (padB n key 54#8)).2.2, n, (ob n (padB n key 92#8)).1, KV, (ob n (padB n key 92#8)).2.1, (ob n (padB n key 92#8)).2.2)) := by
  have w : ∀ c, sha_Hash_Write n (begn n) KV [] 0#64 (padB n key c) = some (ob n (padB n key c)) := fun c => by
    have := write_ob n [] (padB n key c) (by rw [padB_length]; have := bsz_or n; simp; omega)
    rwa [ob_nil, List.nil_append] at this
  unfold hkdf_newMac
  refine bind_i (new_eq n hn) ?_
  dsimp only
  refine bind_i (new_eq n hn) ?_
  dsimp only
  exact bind_i (pads_eq n hn key hk) (bind_i (w _) (bind_i (w _) rfl))
theorem newMac_none (n : Int) (hn : ¬ okB n) (key : Str) : hkdf_newMac n key = some (.inl ()) := by
  unfold hkdf_newMac
  exact bind_i (new_none n hn) rfl
theorem mac_eq (n : Int) (hn : okB n) (key s : Str) (hs : s.length ≤ 140737488355328) :
    hkdf_mac_of n (ob n (padB n key 54#8)).1 KV (ob n (padB n key 54#8)).2.1 (ob n (padB n key 54#8)).2.2 n (ob n (padB n key 92#8)).1 KV (ob n (padB n key 92#8)).2.1 (ob n (padB n key 92#8)).2.2 s = some (macE n key s) := by
  have hB := bsz_or n
  have h0 : ∀ c, (padB n key c).length % bsz n = 0 := fun c => by rw [padB_length]; exact Nat.mod_self _
  have hl : ∀ c t, (padB n key c ++ t).length = bsz n + t.length := fun c t => by rw [List.length_append, padB_length]
  have hd := dig_length n hn (padB n key 54#8 ++ s)
  have hd2 : n.toNat / 8 ≤ 48 := by rcases hn with h | h <;> subst h <;> decide
  unfold hkdf_mac_of
  exact bind_i (fork_ob n _) (bind_i (fork_ob n _) (bind_i (write_ob n _ s (by rw [h0]; omega)) (bind_i (sum_ob n hn _ (by rw [hl]; omega)) (bind_i (write_ob n _ _ (by rw [h0, hd]; omega)) (bind_i (sum_ob n hn _ (by rw [hl, hd]; omega)) rfl)))))
theorem xored_eq (n : Int) (key : Str) (c : BitVec 8) : halberdref1_xored (keyP n key) c (bsz n : Int) = some (padB n key c) := by
  have hB := bsz_or n
  let P : Nat → Str := fun k => (List.range (bsz n)).map fun i => if i < k then (keyP n key).getD i 0#8 ^^^ c else 0#8
  have hPl : ∀ k, (P k).length = bsz n := fun k => by simp [P]
  have hend : P (bsz n) = padB n key c := by
    simp only [P]
    unfold padB
    refine List.map_congr_left fun i hi => ?_
    rw [if_pos (by simpa using hi)]
  have hset : ∀ k, k < bsz n → (P k).set k ((keyP n key).getD k 0#8 ^^^ c) = P (k + 1) := fun k hk => by
    refine List.ext_getElem (by simp [P]) fun i h1 h2 => ?_
    simp only [P, List.getElem_set, List.getElem_map, List.getElem_range]
    by_cases c1 : k = i
    · subst c1; rw [if_pos rfl, if_pos (by omega)]
    · rw [if_neg c1]
      by_cases c2 : i < k
      · rw [if_pos c2, if_pos (by omega)]
      · rw [if_neg c2, if_neg (by omega)]
  unfold halberdref1_xored
  refine if_i (by omega) (bind_i (v := P (bsz n)) (loop_fn (fun k => ((k : Int), P k)) (bsz n) _ (by omega) ?_ (fun k hk => ?_) ?_) ?_)
  · refine Prod.ext rfl (List.ext_getElem (by simp [P]) fun i h1 h2 => by simp [P])
  · have e1 : w64 ((k : Int) + 1) = ((k + 1 : Nat) : Int) := w64_add (b := 1) (by omega)
    have h1 := hPl k
    unfold halberdref1_xored.b0
    simp only [e1, Int.toNat_natCast, sg_nat]
    clear e1
    refine if_i (by omega) (if_i (by omega) (if_i (by omega) (ltt_i fun m1 hm1 => ?_)))
    have hml : m1.length = bsz n := by rw [hm1, List.length_set, h1]
    by_cases ck : k < (keyP n key).length
    · refine if_i (by omega) (if_i (by omega) (if_i (by omega) (if_i (by omega) (ltt_i fun m2 hm2 => ltt_i fun i hi => ?_))))
      rw [hi, hm2, hm1, List.set_set, hset k hk]
    · refine if_n (by omega) (ltt_i fun i hi => ?_)
      have : (keyP n key).getD k 0#8 = 0#8 := by rw [List.getD_eq_getElem?_getD, List.getElem?_eq_none (by omega)]; rfl
      have h2 := hset k hk
      rw [this, BitVec.zero_xor] at h2
      rw [hi, hm1, h2]
  · exact if_n (by show ¬ ((bsz n : Int) < _); omega) rfl
  · rw [hend]
    exact if_i (padB_length _ _ _) rfl
theorem Mac_eq (n : Int) (hn : okB n) (key s : Str) (hk : key.length < 100000000000000000) (hs : s.length < 100000000000000000) : halberdref1_Mac n key s = some (macE n key s) := by
  have hB := bsz_or n
  have hl : ∀ c t, (padB n key c ++ t).length = bsz n + t.length := fun c t => by rw [List.length_append, padB_length]
  have hp : ∀ c, (padB n key c).length = bsz n := padB_length n key
  have hd := dig_length n hn (padB n key 54#8 ++ s)
  have hd2 : n.toNat / 8 ≤ 48 := by rcases hn with h | h <;> subst h <;> decide
  unfold halberdref1_Mac
  refine bind_i (v := (bsz n : Int)) (by rcases hn with h | h <;> subst h <;> rfl) (bind_i (v := keyP n key) ?_ ?_)
  · unfold keyP
    by_cases c : bsz n < key.length
    · rw [if_pos c]
      exact if_i (by omega) (bind_i (Hash_eq n hn key (by omega)) rfl)
    · rw [if_neg c]
      exact if_n (by omega) rfl
  · refine bind_i (xored_eq n key _) (bind_i (xored_eq n key _) (if_i (by rw [hp]; omega) (bind_i (Hash_eq n hn _ (by rw [hl]; omega)) (if_i (by rw [hp, hd]; omega) (bind_i (Hash_eq n hn _ (by rw [hl, hd]; omega)) rfl)))))
theorem may1_eq (n : Int) : halberdref1_may n = some (decide (okB n)) := by
  unfold halberdref1_may
  by_cases h : n = 256
  · refine if_i h ?_
    simp [okB, h]
  · refine if_n h (ltt_i fun x hx => ?_)
    rw [hx]
    simp [okB, h]
def hmacE (n : Int) (key s : Str) : Str × Int := if okB n then (macE n key s, 0) else ([], 300)
theorem Hmac_eq (n : Int) (key s : Str) (hk : key.length ≤ 140737488355328) (hs : s.length ≤ 140737488355328) : hkdf_Hmac n key s = some (hmacE n key s) := by
  unfold hkdf_Hmac hmacE
  by_cases hn : okB n
  · rw [if_pos hn]
    exact bind_i (newMac_eq n hn key hk) (bind_i (mac_eq n hn key s hs) rfl)
  · rw [if_neg hn]
    exact bind_i (newMac_none n hn key) rfl
theorem HmacR_eq (n : Int) (key s : Str) (hk : key.length ≤ 140737488355328) (hs : s.length ≤ 140737488355328) : halberdref1_Hmac n key s = some (hmacE n key s) := by
  unfold halberdref1_Hmac hmacE
  refine bind_i (may1_eq n) ?_
  by_cases hn : okB n
  · rw [if_pos hn]
    exact if_n (by simp [hn]) (bind_i (Mac_eq n hn key s (by omega) (by omega)) rfl)
  · rw [if_neg hn]
    exact if_i (by simp [hn]) rfl
theorem Extract_eq (n : Int) (key s : Str) (hk : key.length ≤ 140737488355328) (hs : s.length ≤ 140737488355328) : hkdf_Extract n key s = some (hmacE n key s) := by
  unfold hkdf_Extract
  exact bind_i (Hmac_eq n key s hk hs) rfl

/-! Expand. -/
def tT (n : Int) (key info : Str) : Nat → Str
  | 0 => []
  | k + 1 => macE n key (tT n key info k ++ info ++ [BitVec.ofInt 8 ((k + 1 : Nat) : Int)])
def oT (n : Int) (key info : Str) : Nat → Str
  | 0 => []
  | k + 1 => oT n key info k ++ tT n key info (k + 1)
theorem tT_length (n : Int) (hn : okB n) (key info : Str) (k : Nat) : (tT n key info (k + 1)).length = n.toNat / 8 := macE_length n hn _ _
theorem tT_le (n : Int) (hn : okB n) (key info : Str) (k : Nat) : (tT n key info k).length ≤ 48 := by
  cases k with
  | zero => simp [tT]
  | succ k => rw [tT_length n hn]; rcases hn with h | h <;> subst h <;> decide
theorem oT_length (n : Int) (hn : okB n) (key info : Str) : ∀ k, (oT n key info k).length = n.toNat / 8 * k
  | 0 => rfl
  | k + 1 => by rw [oT, List.length_append, oT_length n hn key info k, tT_length n hn, Nat.mul_add, Nat.mul_one]
theorem oT_pre (n : Int) (key info : Str) (m : Nat) : ∀ d, ∃ u, oT n key info (m + d) = oT n key info m ++ u
  | 0 => ⟨[], by simp⟩
  | d + 1 => by
    obtain ⟨u, hu⟩ := oT_pre n key info m d
    exact ⟨u ++ tT n key info (m + d + 1), by rw [← List.append_assoc, ← hu]; rfl⟩
/-- How many macs so many bytes want. -/
def cnt (n : Int) (size : Nat) : Nat := (size + (n.toNat / 8 - 1)) / (n.toNat / 8)
theorem hl_or (n : Int) (hn : okB n) : n.toNat / 8 = 32 ∨ n.toNat / 8 = 48 := by rcases hn with h | h <;> subst h <;> decide
theorem cnt_spec (n : Int) (hn : okB n) (size : Nat) : size ≤ n.toNat / 8 * cnt n size ∧ (∀ k, k < cnt n size → n.toNat / 8 * k < size) ∧ cnt n size ≤ size := by
  unfold cnt
  rcases hl_or n hn with h | h <;> rw [h]
  · refine ⟨by omega, fun k hk => by omega, by omega⟩
  · refine ⟨by omega, fun k hk => by omega, by omega⟩
def expT (n : Int) (key info : Str) (size : Nat) : Str := sub (oT n key info (cnt n size)) 0 size
theorem expT_length (n : Int) (hn : okB n) (key info : Str) (size : Nat) : (expT n key info size).length = size := by
  unfold expT
  rw [sub_length (by rw [oT_length n hn]; exact (cnt_spec n hn size).1), Nat.sub_zero]
theorem expT_pre (n : Int) (hn : okB n) (key info : Str) (x y : Nat) (h : x ≤ y) : sub (expT n key info y) 0 x = expT n key info x := by
  have hxy : cnt n x ≤ cnt n y := by
    unfold cnt
    exact Nat.div_le_div_right (by omega)
  obtain ⟨d, hd⟩ := Nat.exists_eq_add_of_le hxy
  obtain ⟨u, hu⟩ := oT_pre n key info (cnt n x) d
  unfold expT
  rw [sub_sub _ _ _ _ _ (by omega), hd, hu, Nat.zero_add, Nat.zero_add, sub_app_l]
  rw [oT_length n hn]
  exact (cnt_spec n hn x).1
def mostE (n : Int) : Int := if n = 256 then 8160 else 12240
theorem most_eq (n : Int) (hn : okB n) : w64 ((w64 (255 * n)).tdiv 8) = mostE n := by
  rcases hn with h | h <;> subst h <;> decide
def expE (n : Int) (key info : Str) (size : Int) : Str × Int := if okB n ∧ 0 ≤ size ∧ size ≤ mostE n then (expT n key info size.toNat, 0) else ([], 300)
theorem exp_loop {body : Str × Str × Int → Option ((Str × Str × Int) ⊕ Str)} (n : Int) (hn : okB n) (key info : Str) (size : Nat) (hs : size < 100000)
    (hstep : ∀ (k : Nat) (o t : Str), o.length < size → o.length ≤ 100000 → t.length ≤ 48 → k < 100000 → body (o, t, ((k + 1 : Nat) : Int)) = some (.inl (o ++ macE n key (t ++ info ++ [BitVec.ofInt 8 ((k + 1 : Nat) : Int)]), macE n key (t ++ info ++ [BitVec.ofInt 8 ((k + 1 : Nat) : Int)]), ((k + 1 + 1 : Nat) : Int))))
    (hend : ∀ (k : Nat) (o t : Str), ¬ o.length < size → body (o, t, ((k + 1 : Nat) : Int)) = some (.inr o)) :
    loop body BIG ([], [], 1) = some (oT n key info (cnt n size)) := by
  obtain ⟨h1, h2, h3⟩ := cnt_spec n hn size
  refine loop_fn (fun k => (oT n key info k, tT n key info k, ((k + 1 : Nat) : Int))) (cnt n size) _ (by omega) rfl (fun k hk => ?_) ?_
  · have hl := oT_length n hn key info k
    have := h2 k hk
    exact (hstep k _ _ (by omega) (by omega) (tT_le n hn _ _ _) (by omega)).trans rfl
  · have hl := oT_length n hn key info (cnt n size)
    exact hend _ _ _ (by omega)
theorem Expand_eq (n : Int) (key info : Str) (size : Int) (hk : key.length ≤ 140737488355328) (hi : info.length ≤ 140737488355000) : hkdf_Expand n key info size = some (expE n key info size) := by
  unfold hkdf_Expand expE
  by_cases hn : okB n
  · refine bind_i (newMac_eq n hn key hk) ?_
    dsimp only
    rw [most_eq n hn]
    by_cases c1 : size < 0
    · rw [if_neg (c := okB n ∧ 0 ≤ size ∧ size ≤ mostE n) (fun h => absurd h.2.1 (by omega))]
      exact if_i c1 rfl
    refine if_n c1 ?_
    by_cases c2 : mostE n < size
    · rw [if_neg (c := okB n ∧ 0 ≤ size ∧ size ≤ mostE n) (fun h => absurd h.2.2 (by omega))]
      exact if_i c2 rfl
    refine if_n c2 ?_
    rw [if_pos (c := okB n ∧ 0 ≤ size ∧ size ≤ mostE n) ⟨hn, by omega, by omega⟩]
    have hm : mostE n ≤ 12240 := by unfold mostE; split <;> omega
    obtain ⟨z, rfl⟩ : ∃ z : Nat, size = (z : Int) := ⟨size.toNat, by omega⟩
    have hol := oT_length n hn key info (cnt n z)
    have hcs := (cnt_spec n hn z).1
    refine bind_i (exp_loop n hn key info z (by omega) (fun k o t h1 h2 h3 h4 => ?_) (fun k o t h1 => ?_)) ?_
    · have e1 : w64 (((k + 1 : Nat) : Int) + 1) = ((k + 1 + 1 : Nat) : Int) := w64_add (b := 1) (by omega)
      have hlen : (t ++ info ++ [BitVec.ofInt 8 ((k + 1 : Nat) : Int)]).length = t.length + info.length + 1 := by simp only [List.length_append, List.length_cons, List.length_nil]
      have hml := macE_length n hn key (t ++ info ++ [BitVec.ofInt 8 ((k + 1 : Nat) : Int)])
      have hd2 := hl_or n hn
      unfold hkdf_Expand.b0
      simp only [e1]
      clear e1
      refine if_i (by omega) (if_i (by omega) (if_i rfl (if_i (by simp only [List.length_append, List.length_cons, List.length_nil]; omega) (bind_i (mac_eq n hn key _ (by omega)) (if_i (by omega) (ltt_i fun i hi2 => ?_))))))
      rw [hi2]
    · unfold hkdf_Expand.b0
      exact if_n (by simp only; omega) rfl
    · refine if_i (by omega) (if_i (by simp only [Int.toNat_natCast]; omega) (ltt_i fun x hx => ?_))
      rw [hx]; rfl
  · rw [if_neg (fun h => hn h.1)]
    exact bind_i (newMac_none n hn key) rfl
theorem ExpandR_eq (n : Int) (key info : Str) (size : Int) (hk : key.length ≤ 140737488355328) (hi : info.length ≤ 140737488355000) : halberdref1_Expand n key info size = some (expE n key info size) := by
  unfold halberdref1_Expand expE
  refine bind_i (may1_eq n) ?_
  by_cases hn : okB n
  · refine if_n (by simp [hn]) ?_
    rw [most_eq n hn]
    by_cases c1 : size < 0
    · rw [if_neg (c := okB n ∧ 0 ≤ size ∧ size ≤ mostE n) (fun h => absurd h.2.1 (by omega))]
      exact if_i c1 rfl
    refine if_n c1 ?_
    by_cases c2 : mostE n < size
    · rw [if_neg (c := okB n ∧ 0 ≤ size ∧ size ≤ mostE n) (fun h => absurd h.2.2 (by omega))]
      exact if_i c2 rfl
    refine if_n c2 ?_
    rw [if_pos (c := okB n ∧ 0 ≤ size ∧ size ≤ mostE n) ⟨hn, by omega, by omega⟩]
    have hm : mostE n ≤ 12240 := by unfold mostE; split <;> omega
    obtain ⟨z, rfl⟩ : ∃ z : Nat, size = (z : Int) := ⟨size.toNat, by omega⟩
    have hol := oT_length n hn key info (cnt n z)
    have hcs := (cnt_spec n hn z).1
    refine bind_i (exp_loop n hn key info z (by omega) (fun k o t h1 h2 h3 h4 => ?_) (fun k o t h1 => ?_)) ?_
    · have e1 : w64 (((k + 1 : Nat) : Int) + 1) = ((k + 1 + 1 : Nat) : Int) := w64_add (b := 1) (by omega)
      have hlen : (t ++ info ++ [BitVec.ofInt 8 ((k + 1 : Nat) : Int)]).length = t.length + info.length + 1 := by simp only [List.length_append, List.length_cons, List.length_nil]
      have hml := macE_length n hn key (t ++ info ++ [BitVec.ofInt 8 ((k + 1 : Nat) : Int)])
      have hd2 := hl_or n hn
      unfold halberdref1_Expand.b0
      simp only [e1]
      clear e1
      refine if_i (by omega) (if_i (by omega) (if_i rfl (if_i (by simp only [List.length_append, List.length_cons, List.length_nil]; omega) (bind_i (Mac_eq n hn key _ (by omega) (by omega)) (if_i (by omega) (ltt_i fun i hi2 => ?_))))))
      rw [hi2]
    · unfold halberdref1_Expand.b0
      exact if_n (by simp only; omega) rfl
    · refine if_i (by omega) (if_i (by simp only [Int.toNat_natCast]; omega) (ltt_i fun x hx => ?_))
      rw [hx]; rfl
  · rw [if_neg (c := okB n ∧ 0 ≤ size ∧ size ≤ mostE n) (fun h => hn h.1)]
    exact if_i (by simp [hn]) rfl

/-! Label. -/
def pre6 : Str := [116#8, 108#8, 115#8, 49#8, 51#8, 32#8]
theorem bytesI_one (x : Int) : bytesI x 1 = [BitVec.ofInt 8 x] := by
  have hr : List.range 1 = [0] := rfl
  unfold bytesI
  rw [hr]
  simp
theorem bytesI_two (x : Int) : bytesI x 2 = [BitVec.ofInt 8 (shrI' x 8), BitVec.ofInt 8 x] := by
  have hr : List.range 2 = [0, 1] := rfl
  have hs : shrI' x 8 = x / 256 := rfl
  unfold bytesI
  rw [hr, hs]
  simp
theorem wb1 (x : Int) : wire_Bytes x 1 = some (bytesI x 1) := by
  unfold wire_Bytes
  refine ltt_i fun x1 hx1 => if_n (by rw [hx1]; decide) (ltt_i fun x2 hx2 => if_n (by rw [hx2]; decide) (ltt_i fun x3 hx3 => if_n (by rw [hx3]; decide) (if_i (by simp) (ltt_i fun l hl => ?_))))
  rw [hl, bytesI_one]; rfl
theorem wb2 (x : Int) : wire_Bytes x 2 = some (bytesI x 2) := by
  unfold wire_Bytes
  refine ltt_i fun x1 hx1 => if_n (by rw [hx1]; decide) (ltt_i fun x2 hx2 => if_n (by rw [hx2]; decide) (ltt_i fun x3 hx3 => if_i (by rw [hx3]; decide) (if_i (by simp) (ltt_i fun l hl => if_i (by rw [hl]; simp) (ltt_i fun l2 hl2 => ?_)))))
  rw [hl2, hl, bytesI_two]; rfl
def vec1 (s : Str) : Str := bytesI (s.length : Int) 1 ++ s
theorem vec1_length (s : Str) : (vec1 s).length = s.length + 1 := by
  unfold vec1; rw [List.length_append, bytesI_length]; omega
theorem put1 (s : Str) (h : s.length ≤ 255) : wire_PutVec s 1 = some (vec1 s, 0) := by
  have e1 : w64 (8 * 1) = 8 := by decide
  have hs : shrI' (s.length : Int) 8 = (s.length : Int) / 256 := rfl
  unfold wire_PutVec
  rw [e1, hs]
  exact if_n (by decide) (if_n (by decide) (if_i (by decide) (if_n (by omega) (bind_i (wb1 _) (if_i (by rw [bytesI_length]; omega) rfl)))))
theorem v1 (s : Str) (h : s.length ≤ 255) : halberdref1_V s 1 = some (vec1 s) := by
  unfold halberdref1_V
  exact bind_i (Be_eq _ 1 (by decide)) (if_i (by rw [bytesI_length]; omega) rfl)
def infoE (label context : Str) (size : Int) : Str := bytesI size 2 ++ vec1 (pre6 ++ label) ++ vec1 context
theorem infoE_length (label context : Str) (size : Int) : (infoE label context size).length = label.length + context.length + 10 := by
  unfold infoE
  simp only [List.length_append, bytesI_length, vec1_length]
  have : pre6.length = 6 := rfl
  omega
def labE (n : Int) (key label context : Str) (size : Int) : Str × Int := if label.length ≤ 249 ∧ context.length ≤ 255 ∧ 0 ≤ size ∧ size ≤ 65535 then expE n key (infoE label context size) size else ([], 300)
theorem Label_eq (n : Int) (key label context : Str) (size : Int) (hk : key.length ≤ 140737488355328) : hkdf_Label n key label context size = some (labE n key label context size) := by
  unfold hkdf_Label labE
  by_cases c1 : 249 < (label.length : Int)
  · rw [if_neg (c := label.length ≤ 249 ∧ context.length ≤ 255 ∧ 0 ≤ size ∧ size ≤ 65535) (by omega)]; exact if_i c1 rfl
  refine if_n c1 ?_
  by_cases c2 : 255 < (context.length : Int)
  · rw [if_neg (c := label.length ≤ 249 ∧ context.length ≤ 255 ∧ 0 ≤ size ∧ size ≤ 65535) (by omega)]; exact if_i c2 rfl
  refine if_n c2 ?_
  by_cases c3 : size < 0
  · rw [if_neg (c := label.length ≤ 249 ∧ context.length ≤ 255 ∧ 0 ≤ size ∧ size ≤ 65535) (by omega)]; exact if_i c3 rfl
  refine if_n c3 ?_
  by_cases c4 : 65535 < size
  · rw [if_neg (c := label.length ≤ 249 ∧ context.length ≤ 255 ∧ 0 ≤ size ∧ size ≤ 65535) (by omega)]; exact if_i c4 rfl
  refine if_n c4 ?_
  rw [if_pos (c := label.length ≤ 249 ∧ context.length ≤ 255 ∧ 0 ≤ size ∧ size ≤ 65535) (by omega)]
  have hp : (pre6 ++ label).length = label.length + 6 := by rw [List.length_append]; show 6 + _ = _; omega
  have hv1 := vec1_length (pre6 ++ label)
  have hv2 := vec1_length context
  have hb := bytesI_length size 2
  have hi := infoE_length label context size
  refine if_i (by simp; omega) (bind_i (put1 (pre6 ++ label) (by omega)) (bind_i (put1 context (by omega)) (bind_i (wb2 size) (if_i (by simp only; omega) (if_i (by simp only [List.length_append]; omega) ?_)))))
  exact bind_i (Expand_eq n key (infoE label context size) size hk (by omega)) rfl
theorem LabelR_eq (n : Int) (key label context : Str) (size : Int) (hk : key.length ≤ 140737488355328) : halberdref1_Label n key label context size = some (labE n key label context size) := by
  unfold halberdref1_Label labE
  by_cases c1 : 249 < (label.length : Int)
  · rw [if_neg (c := label.length ≤ 249 ∧ context.length ≤ 255 ∧ 0 ≤ size ∧ size ≤ 65535) (by omega)]; exact if_i c1 rfl
  refine if_n c1 ?_
  by_cases c2 : 255 < (context.length : Int)
  · rw [if_neg (c := label.length ≤ 249 ∧ context.length ≤ 255 ∧ 0 ≤ size ∧ size ≤ 65535) (by omega)]; exact if_i c2 rfl
  refine if_n c2 ?_
  by_cases c3 : size < 0
  · rw [if_neg (c := label.length ≤ 249 ∧ context.length ≤ 255 ∧ 0 ≤ size ∧ size ≤ 65535) (by omega)]; exact if_i c3 rfl
  refine if_n c3 ?_
  by_cases c4 : 65535 < size
  · rw [if_neg (c := label.length ≤ 249 ∧ context.length ≤ 255 ∧ 0 ≤ size ∧ size ≤ 65535) (by omega)]; exact if_i c4 rfl
  refine if_n c4 ?_
  rw [if_pos (c := label.length ≤ 249 ∧ context.length ≤ 255 ∧ 0 ≤ size ∧ size ≤ 65535) (by omega)]
  have hp : (pre6 ++ label).length = label.length + 6 := by rw [List.length_append]; show 6 + _ = _; omega
  have hv1 := vec1_length (pre6 ++ label)
  have hv2 := vec1_length context
  have hb := bytesI_length size 2
  have hi := infoE_length label context size
  refine bind_i (Be_eq size 2 (by decide)) (if_i (by simp; omega) (bind_i (v1 (pre6 ++ label) (by omega)) (if_i (by omega) (bind_i (v1 context (by omega)) (if_i (by simp only [List.length_append]; omega) ?_)))))
  exact bind_i (ExpandR_eq n key (infoE label context size) size hk (by omega)) rfl
end Go.Proofs
end

section
/-
  What every program answers, of keys out of keys: by the kernel.
-/
namespace Go.Proofs
open Go Go.Kx
set_option maxRecDepth 100000 in
theorem awake3 : halberdlaw3_awake = some true := by kernel_rfl
end Go.Proofs
end

section
/-
  What the laws of keys share.
-/
namespace Go.Proofs
open Go Go.Kx
set_option linter.unusedVariables false
set_option linter.unusedSimpArgs false
theorem bits_of (wide : Bool) : ∃ n : Int, okB n ∧ (if wide = true then some (384 : Int) else some 256) = some n := by
  cases wide
  · exact ⟨256, .inl rfl, rfl⟩
  · exact ⟨384, .inr rfl, rfl⟩
theorem most_ge (n : Int) (hn : okB n) : 8160 ≤ mostE n ∧ mostE n ≤ 12240 := by unfold mostE; split <;> omega
theorem expE_ok (n : Int) (hn : okB n) (key info : Str) (z : Nat) (hz : (z : Int) ≤ mostE n) : expE n key info (z : Int) = (expT n key info z, 0) := by
  unfold expE
  rw [if_pos ⟨hn, by omega, hz⟩]; rfl
theorem expE_none (n : Int) (key info : Str) (size : Int) (h : ¬ (okB n ∧ 0 ≤ size ∧ size ≤ mostE n)) : expE n key info size = ([], 300) := by
  unfold expE; rw [if_neg h]
end Go.Proofs
end

section
namespace Go.Proofs
open Go Go.Kx
set_option linter.unusedVariables false
set_option linter.unusedSimpArgs false
def halberdlaw3_HkdfBegins (wide : Bool) (key : Str) (info : Str) (a_ : Int) (b : Int) : Option (Bool) :=
  (halberdlaw3_awake).bind fun (r_1 : Bool) => (if (!r_1) = true then (some false) else ((if wide = true then (some 384) else (some 256)).bind fun (j1 : Int) => (ltt (iop (· &&& ·) a_ 511) fun (x1 : Int) => (ltt (iop (· &&& ·) b 511) fun (y1 : Int) => ((hkdf_Expand j1 key info (min x1 y1)).bind fun (r_2 : Str × Int) => ((hkdf_Expand j1 key info (max x1 y1)).bind fun (r_3 : Str × Int) => ((hkdf_Expand j1 key info (w64 ((w64 ((w64 (255 * j1)).tdiv 8)) + 1))).bind fun (r_4 : Str × Int) => ((hkdf_Expand j1 key info (w64 ((w64 (255 * j1)).tdiv 8))).bind fun (r_5 : Str × Int) => ((halberdlaw0_Num r_2.2).bind fun (r_6 : Int) => (if r_6 = 0 then ((halberdlaw0_Num r_3.2).bind fun (r_7 : Int) => (if r_7 = 0 then (if ((r_2.1).length : Int) = (min x1 y1) then (if ((r_3.1).length : Int) = (max x1 y1) then (if 0 ≤ ((r_2.1).length : Int) then (if (((r_2.1).length : Int)).toNat ≤ (r_3.1).length then (if sub r_3.1 0 ((((r_2.1).length : Int)).toNat) = r_2.1 then ((halberdlaw0_Num r_4.2).bind fun (r_8 : Int) => (if r_8 = 300 then ((halberdlaw0_Num r_5.2).bind fun (r_9 : Int) => (if r_9 = 0 then (ltt (decide (((r_5.1).length : Int) = (w64 ((w64 (255 * j1)).tdiv 8)))) fun (x2 : Bool) => (some x2)) else (some false))) else (some false))) else (some false)) else none) else none) else (some false)) else (some false)) else (some false))) else (some false)))))))))))

set_option maxHeartbeats 4000000 in
set_option maxRecDepth 20000 in
theorem F18_calls (wide : Bool) (key : Str) (info : Str) (a_ : Int) (b : Int) (r : Bool) (H : halberdlaw3_HkdfBegins wide key info a_ b = some r) :
    Does Try.prog 18 [vb wide, vs key, vs info, vi a_, vi b] [] [] (Γ := Unit) (fun g => vb r) (fun g => []) := by
  intro w hmem hro hd
  refine calls_of (N := 120) (m0 := [(0, vb wide), (1, vs key), (2, vs info), (3, vi a_), (4, vi b)]) Try.func18 rfl Try.ntmps18 (argM_ok [vb wide, vs key, vs info, vi a_, vi b]) rfl hmem hro hd ?_
  unfold halberdlaw3_HkdfBegins at H
  refine TC_seq ?_
  refine TC_region ?_
  refine TL_v rfl rfl rfl (V_assign rfl) ?_
  refine TL_nil ?_
  refine TX_next ?_
  refine TC_seq ?_
  refine TC_seq ?_
  refine TC_region ?_
  obtain ⟨r_1, hr_1, H⟩ := bind_elim H
  refine TL_e rfl rfl rfl (E_call (Γ := Unit) (val := fun g => vb r_1) (mem := fun g => []) (vs := []) (Lin := []) (Ro := []) (is := []) rfl Try.call42 (F42_calls r_1 hr_1) rfl trivial) (fun g_1 => ?_)
  refine TL_v rfl rfl rfl (V_un rfl (fun w => notB w r_1)) ?_
  refine TL_nil ?_
  refine TX_next ?_
  refine TC_cond (b := (!r_1)) rfl (fun hc => ?_) (fun hc => ?_)
  · replace H := ite_t hc H
    refine TC_seq ?_
    refine TC_region ?_
    refine TL_v rfl rfl rfl (V_assign rfl) ?_
    refine TL_nil ?_
    refine TX_next ?_
    refine TC_ret ?_
    refine TX_then_ret ?_
    have hrv := Option.some.inj H
    subst hrv
    exact TX_ret (rs := [.tmp 10]) (vs := [vb false]) rfl ⟨rfl, trivial⟩ (fun w' hs' => ⟨(), rfl, Step.left (Step.pulled (is := []) (A := []) hs' rfl)⟩)
  · replace H := ite_f (Bool.eq_false_iff.1 hc) H
    refine TC_skip ?_
    refine TX_next ?_
    refine TC_seq ?_
    refine TC_region ?_
    refine TL_v rfl rfl rfl (V_assign rfl) ?_
    refine TL_nil ?_
    refine TX_next ?_
    refine TC_seq ?_
    refine TC_seq ?_
    refine TC_region ?_
    refine TL_v rfl rfl rfl (V_move rfl) ?_
    refine TL_nil ?_
    refine TX_next ?_
    obtain ⟨j1, Hj, H⟩ := bind_elim H
    refine TC_join (Γ := Unit) (fun gj1 => [(1, vs key), (2, vs info), (3, vi a_), (4, vi b), (11, vi j1)]) (fun gj1 => []) ?_ ?_
    · intro gj1
      refine TX_next ?_
      refine TC_seq ?_
      refine TC_region ?_
      refine TL_v rfl rfl rfl (V_move rfl) ?_
      refine TL_v rfl rfl rfl (V_bin rfl rfl (fun w => andI w a_ 511)) ?_
      refine TL_v rfl rfl rfl (V_move rfl) ?_
      refine TL_v rfl rfl rfl (V_bin rfl rfl (fun w => andI w b 511)) ?_
      refine TL_v rfl rfl rfl (V_assign rfl) ?_
      obtain ⟨x1, hx1, H⟩ := ltt_elim H
      refine TL_re (d := 12) (v := vi (iop (· &&& ·) a_ 511)) (v' := vi x1) rfl (congrArg vi hx1) ?_
      refine TL_v rfl rfl rfl (V_assign rfl) ?_
      obtain ⟨y1, hy1, H⟩ := ltt_elim H
      refine TL_re (d := 13) (v := vi (iop (· &&& ·) b 511)) (v' := vi y1) rfl (congrArg vi hy1) ?_
      refine TL_nil ?_
      refine TX_next ?_
      refine TC_seq ?_
      refine TC_region ?_
      refine TL_v rfl rfl rfl (V_move rfl) ?_
      refine TL_v rfl rfl rfl (V_move rfl) ?_
      refine TL_v rfl rfl rfl (V_move rfl) ?_
      refine TL_v rfl rfl rfl (V_move rfl) ?_
      refine TL_v rfl rfl rfl (V_move rfl) ?_
      refine TL_v rfl rfl rfl (V_min rfl rfl) ?_
      obtain ⟨r_2, hr_2, H⟩ := bind_elim H
      refine TL_e rfl rfl rfl (E_call (Γ := Unit) (val := fun g => Value.tuple [vs r_2.1, vi r_2.2].toArray) (mem := fun g => []) (vs := [vi j1, vs key, vs info, vi (min x1 y1)]) (Lin := []) (Ro := []) (is := []) rfl Try.call43 (F43_calls j1 key info (min x1 y1) r_2 hr_2) rfl trivial) (fun g_2 => ?_)
      refine TL_v rfl rfl rfl (V_move rfl) ?_
      refine TL_v rfl rfl rfl (V_extract (vs := [vs r_2.1, vi r_2.2]) rfl rfl) ?_
      refine TL_v rfl rfl rfl (V_extract (vs := [vs r_2.1, vi r_2.2]) rfl rfl) ?_
      refine TL_v rfl rfl rfl (V_assign rfl) ?_
      refine TL_v rfl rfl rfl (V_assign rfl) ?_
      refine TL_nil ?_
      refine TX_next ?_
      refine TC_seq ?_
      refine TC_region ?_
      refine TL_v rfl rfl rfl (V_move rfl) ?_
      refine TL_v rfl rfl rfl (V_move rfl) ?_
      refine TL_v rfl rfl rfl (V_move rfl) ?_
      refine TL_v rfl rfl rfl (V_move rfl) ?_
      refine TL_v rfl rfl rfl (V_move rfl) ?_
      refine TL_v rfl rfl rfl (V_max rfl rfl) ?_
      obtain ⟨r_3, hr_3, H⟩ := bind_elim H
      refine TL_e rfl rfl rfl (E_call (Γ := Unit) (val := fun g => Value.tuple [vs r_3.1, vi r_3.2].toArray) (mem := fun g => []) (vs := [vi j1, vs key, vs info, vi (max x1 y1)]) (Lin := []) (Ro := []) (is := []) rfl Try.call43 (F43_calls j1 key info (max x1 y1) r_3 hr_3) rfl trivial) (fun g_3 => ?_)
      refine TL_v rfl rfl rfl (V_move rfl) ?_
      refine TL_v rfl rfl rfl (V_extract (vs := [vs r_3.1, vi r_3.2]) rfl rfl) ?_
      refine TL_v rfl rfl rfl (V_extract (vs := [vs r_3.1, vi r_3.2]) rfl rfl) ?_
      refine TL_v rfl rfl rfl (V_assign rfl) ?_
      refine TL_v rfl rfl rfl (V_assign rfl) ?_
      refine TL_nil ?_
      refine TX_next ?_
      refine TC.sub (m' := [(1, vs key), (2, vs info), (11, vi j1), (12, vi x1), (13, vi y1), (14, vs r_2.1), (15, vi r_2.2), (16, vs r_3.1), (17, vi r_3.2)]) ⟨rfl, rfl, rfl, rfl, rfl, rfl, rfl, rfl, rfl, trivial⟩ ?_
      refine TC_seq ?_
      refine TC_region ?_
      refine TL_v rfl rfl rfl (V_move rfl) ?_
      refine TL_v rfl rfl rfl (V_move rfl) ?_
      refine TL_v rfl rfl rfl (V_move rfl) ?_
      refine TL_v rfl rfl rfl (V_move rfl) ?_
      refine TL_v rfl rfl rfl (V_bin rfl rfl (fun w => mulI w 255 j1)) ?_
      refine TL_v rfl rfl rfl (V_bin rfl rfl (fun w => quoI w (w64 (255 * j1)) 8 (by decide))) ?_
      refine TL_v rfl rfl rfl (V_bin rfl rfl (fun w => addI w (w64 ((w64 (255 * j1)).tdiv 8)) 1)) ?_
      obtain ⟨r_4, hr_4, H⟩ := bind_elim H
      refine TL_e rfl rfl rfl (E_call (Γ := Unit) (val := fun g => Value.tuple [vs r_4.1, vi r_4.2].toArray) (mem := fun g => []) (vs := [vi j1, vs key, vs info, vi (w64 ((w64 ((w64 (255 * j1)).tdiv 8)) + 1))]) (Lin := []) (Ro := []) (is := []) rfl Try.call43 (F43_calls j1 key info (w64 ((w64 ((w64 (255 * j1)).tdiv 8)) + 1)) r_4 hr_4) rfl trivial) (fun g_4 => ?_)
      refine TL_v rfl rfl rfl (V_move rfl) ?_
      refine TL_v rfl rfl rfl (V_extract (vs := [vs r_4.1, vi r_4.2]) rfl rfl) ?_
      refine TL_v rfl rfl rfl (V_extract (vs := [vs r_4.1, vi r_4.2]) rfl rfl) ?_
      refine TL_v rfl rfl rfl (V_assign rfl) ?_
      refine TL_v rfl rfl rfl (V_assign rfl) ?_
      refine TL_nil ?_
      refine TX_next ?_
      refine TC_seq ?_
      refine TC_region ?_
      refine TL_v rfl rfl rfl (V_move rfl) ?_
      refine TL_v rfl rfl rfl (V_move rfl) ?_
      refine TL_v rfl rfl rfl (V_move rfl) ?_
      refine TL_v rfl rfl rfl (V_move rfl) ?_
      refine TL_v rfl rfl rfl (V_bin rfl rfl (fun w => mulI w 255 j1)) ?_
      refine TL_v rfl rfl rfl (V_bin rfl rfl (fun w => quoI w (w64 (255 * j1)) 8 (by decide))) ?_
      obtain ⟨r_5, hr_5, H⟩ := bind_elim H
      refine TL_e rfl rfl rfl (E_call (Γ := Unit) (val := fun g => Value.tuple [vs r_5.1, vi r_5.2].toArray) (mem := fun g => []) (vs := [vi j1, vs key, vs info, vi (w64 ((w64 (255 * j1)).tdiv 8))]) (Lin := []) (Ro := []) (is := []) rfl Try.call43 (F43_calls j1 key info (w64 ((w64 (255 * j1)).tdiv 8)) r_5 hr_5) rfl trivial) (fun g_5 => ?_)
      refine TL_v rfl rfl rfl (V_move rfl) ?_
      refine TL_v rfl rfl rfl (V_extract (vs := [vs r_5.1, vi r_5.2]) rfl rfl) ?_
      refine TL_v rfl rfl rfl (V_extract (vs := [vs r_5.1, vi r_5.2]) rfl rfl) ?_
      refine TL_v rfl rfl rfl (V_assign rfl) ?_
      refine TL_v rfl rfl rfl (V_assign rfl) ?_
      refine TL_nil ?_
      refine TX_next ?_
      refine TC.sub (m' := [(11, vi j1), (12, vi x1), (13, vi y1), (14, vs r_2.1), (15, vi r_2.2), (16, vs r_3.1), (17, vi r_3.2), (19, vi r_4.2), (20, vs r_5.1), (21, vi r_5.2)]) ⟨rfl, rfl, rfl, rfl, rfl, rfl, rfl, rfl, rfl, rfl, trivial⟩ ?_
      refine TC_seq ?_
      refine TC_region ?_
      refine TL_v rfl rfl rfl (V_move rfl) ?_
      obtain ⟨r_6, hr_6, H⟩ := bind_elim H
      refine TL_e rfl rfl rfl (E_call (Γ := Unit) (val := fun g => vi r_6) (mem := fun g => []) (vs := [vi r_2.2]) (Lin := []) (Ro := []) (is := []) rfl Try.call25 (F25_calls r_2.2 r_6 hr_6) rfl trivial) (fun g_6 => ?_)
      refine TL_v rfl rfl rfl (V_bin rfl rfl (fun w => eqlI w r_6 0)) ?_
      refine TL_v rfl rfl rfl (V_move rfl) ?_
      refine TL_fork (d := 73) (b := (decide (r_6 = 0))) rfl (fun hc => ?_) (fun hc => ?_)
      · replace H := ite_t (of_decide_eq_true hc) H
        refine TL_want rfl rfl rfl rfl rfl rfl (V_move rfl) ?_
        obtain ⟨r_7, hr_7, H⟩ := bind_elim H
        refine TL_wantE rfl rfl rfl rfl rfl rfl (E_call (Γ := Unit) (val := fun g => vi r_7) (mem := fun g => []) (vs := [vi r_3.2]) (Lin := []) (Ro := []) (is := []) rfl Try.call25 (F25_calls r_3.2 r_7 hr_7) rfl trivial) (fun g_7 => ?_)
        refine TL_want rfl rfl rfl rfl rfl rfl (V_bin rfl rfl (fun w => eqlI w r_7 0)) ?_
        refine TL_v rfl rfl rfl (V_pick (b := true) rfl rfl) ?_
        refine TL_v rfl rfl rfl (V_move rfl) ?_
        refine TL_fork (d := 78) (b := (decide (r_7 = 0))) rfl (fun hc => ?_) (fun hc => ?_)
        · replace H := ite_t (of_decide_eq_true hc) H
          refine TL_want rfl rfl rfl rfl rfl rfl (V_move rfl) ?_
          refine TL_want rfl rfl rfl rfl rfl rfl (V_len_str rfl Try.underlying9) ?_
          refine TL_want rfl rfl rfl rfl rfl rfl (V_move rfl) ?_
          refine TL_want rfl rfl rfl rfl rfl rfl (V_move rfl) ?_
          refine TL_want rfl rfl rfl rfl rfl rfl (V_min rfl rfl) ?_
          refine TL_want rfl rfl rfl rfl rfl rfl (V_bin rfl rfl (fun w => eqlI w ((r_2.1).length : Int) (min x1 y1))) ?_
          refine TL_v rfl rfl rfl (V_pick (b := true) rfl rfl) ?_
          refine TL_v rfl rfl rfl (V_move rfl) ?_
          refine TL_fork (d := 86) (b := (decide (((r_2.1).length : Int) = (min x1 y1)))) rfl (fun hc => ?_) (fun hc => ?_)
          · replace H := ite_t (of_decide_eq_true hc) H
            refine TL_want rfl rfl rfl rfl rfl rfl (V_move rfl) ?_
            refine TL_want rfl rfl rfl rfl rfl rfl (V_len_str rfl Try.underlying9) ?_
            refine TL_want rfl rfl rfl rfl rfl rfl (V_move rfl) ?_
            refine TL_want rfl rfl rfl rfl rfl rfl (V_move rfl) ?_
            refine TL_want rfl rfl rfl rfl rfl rfl (V_max rfl rfl) ?_
            refine TL_want rfl rfl rfl rfl rfl rfl (V_bin rfl rfl (fun w => eqlI w ((r_3.1).length : Int) (max x1 y1))) ?_
            refine TL_v rfl rfl rfl (V_pick (b := true) rfl rfl) ?_
            refine TL_v rfl rfl rfl (V_move rfl) ?_
            refine TL_fork (d := 94) (b := (decide (((r_3.1).length : Int) = (max x1 y1)))) rfl (fun hc => ?_) (fun hc => ?_)
            · replace H := ite_t (of_decide_eq_true hc) H
              refine TL_want rfl rfl rfl rfl rfl rfl (V_move rfl) ?_
              refine TL_want rfl rfl rfl rfl rfl rfl (V_move rfl) ?_
              refine TL_want rfl rfl rfl rfl rfl rfl (V_len_str rfl Try.underlying9) ?_
              obtain ⟨h1, H⟩ := if_elim H
              obtain ⟨h2, H⟩ := if_elim H
              refine TL_want rfl rfl rfl rfl rfl rfl (V_sliceStr (l := 0) (h := (((r_2.1).length : Int)).toNat) rfl Try.underlying9 Bnd.none' (Bnd.some' (i := ((r_2.1).length : Int)) rfl h1) (Nat.zero_le _) h2) ?_
              refine TL_want rfl rfl rfl rfl rfl rfl (V_move rfl) ?_
              refine TL_want rfl rfl rfl rfl rfl rfl (V_bin rfl rfl (fun w => eqlS w (sub r_3.1 0 ((((r_2.1).length : Int)).toNat)) r_2.1)) ?_
              refine TL_v rfl rfl rfl (V_pick (b := true) rfl rfl) ?_
              refine TL_v rfl rfl rfl (V_move rfl) ?_
              refine TL_fork (d := 102) (b := (decide (sub r_3.1 0 ((((r_2.1).length : Int)).toNat) = r_2.1))) rfl (fun hc => ?_) (fun hc => ?_)
              · replace H := ite_t (of_decide_eq_true hc) H
                refine TL_want rfl rfl rfl rfl rfl rfl (V_move rfl) ?_
                obtain ⟨r_8, hr_8, H⟩ := bind_elim H
                refine TL_wantE rfl rfl rfl rfl rfl rfl (E_call (Γ := Unit) (val := fun g => vi r_8) (mem := fun g => []) (vs := [vi r_4.2]) (Lin := []) (Ro := []) (is := []) rfl Try.call25 (F25_calls r_4.2 r_8 hr_8) rfl trivial) (fun g_8 => ?_)
                refine TL_want rfl rfl rfl rfl rfl rfl (V_bin rfl rfl (fun w => eqlI w r_8 300)) ?_
                refine TL_v rfl rfl rfl (V_pick (b := true) rfl rfl) ?_
                refine TL_v rfl rfl rfl (V_move rfl) ?_
                refine TL_fork (d := 107) (b := (decide (r_8 = 300))) rfl (fun hc => ?_) (fun hc => ?_)
                · replace H := ite_t (of_decide_eq_true hc) H
                  refine TL_want rfl rfl rfl rfl rfl rfl (V_move rfl) ?_
                  obtain ⟨r_9, hr_9, H⟩ := bind_elim H
                  refine TL_wantE rfl rfl rfl rfl rfl rfl (E_call (Γ := Unit) (val := fun g => vi r_9) (mem := fun g => []) (vs := [vi r_5.2]) (Lin := []) (Ro := []) (is := []) rfl Try.call25 (F25_calls r_5.2 r_9 hr_9) rfl trivial) (fun g_9 => ?_)
                  refine TL_want rfl rfl rfl rfl rfl rfl (V_bin rfl rfl (fun w => eqlI w r_9 0)) ?_
                  refine TL_v rfl rfl rfl (V_pick (b := true) rfl rfl) ?_
                  refine TL_v rfl rfl rfl (V_move rfl) ?_
                  refine TL_fork (d := 112) (b := (decide (r_9 = 0))) rfl (fun hc => ?_) (fun hc => ?_)
                  · replace H := ite_t (of_decide_eq_true hc) H
                    refine TL_want rfl rfl rfl rfl rfl rfl (V_move rfl) ?_
                    refine TL_want rfl rfl rfl rfl rfl rfl (V_len_str rfl Try.underlying9) ?_
                    refine TL_want rfl rfl rfl rfl rfl rfl (V_move rfl) ?_
                    refine TL_want rfl rfl rfl rfl rfl rfl (V_bin rfl rfl (fun w => mulI w 255 j1)) ?_
                    refine TL_want rfl rfl rfl rfl rfl rfl (V_bin rfl rfl (fun w => quoI w (w64 (255 * j1)) 8 (by decide))) ?_
                    refine TL_want rfl rfl rfl rfl rfl rfl (V_bin rfl rfl (fun w => eqlI w ((r_5.1).length : Int) (w64 ((w64 (255 * j1)).tdiv 8)))) ?_
                    refine TL_v rfl rfl rfl (V_pick (b := true) rfl rfl) ?_
                    refine TL_v rfl rfl rfl (V_assign rfl) ?_
                    obtain ⟨x2, hx2, H⟩ := ltt_elim H
                    refine TL_re (d := 10) (v := vb (decide (((r_5.1).length : Int) = (w64 ((w64 (255 * j1)).tdiv 8))))) (v' := vb x2) rfl (congrArg vb hx2) ?_
                    refine TL_nil ?_
                    refine TX_next ?_
                    refine TC.sub (m' := [(10, vb x2)]) ⟨rfl, trivial⟩ ?_
                    refine TC_ret ?_
                    have hrv := Option.some.inj H
                    subst hrv
                    exact TX_ret (rs := [.tmp 10]) (vs := [vb x2]) rfl ⟨rfl, trivial⟩ (fun w' hs' => ⟨(), rfl, Step.left (Step.pulled (is := []) (A := []) hs' rfl)⟩)
                  · replace H := ite_f (of_decide_eq_false hc) H
                    refine TL_skip rfl rfl rfl rfl rfl rfl rfl ?_
                    refine TL_skip rfl rfl rfl rfl rfl rfl rfl ?_
                    refine TL_skip rfl rfl rfl rfl rfl rfl rfl ?_
                    refine TL_skip rfl rfl rfl rfl rfl rfl rfl ?_
                    refine TL_skip rfl rfl rfl rfl rfl rfl rfl ?_
                    refine TL_skip rfl rfl rfl rfl rfl rfl rfl ?_
                    refine TL_v rfl rfl rfl (V_pick (b := false) rfl rfl) ?_
                    refine TL_v rfl rfl rfl (V_assign rfl) ?_
                    refine TL_nil ?_
                    refine TX_next ?_
                    refine TC.sub (m' := [(10, vb false)]) ⟨rfl, trivial⟩ ?_
                    refine TC_ret ?_
                    have hrv := Option.some.inj H
                    subst hrv
                    exact TX_ret (rs := [.tmp 10]) (vs := [vb false]) rfl ⟨rfl, trivial⟩ (fun w' hs' => ⟨(), rfl, Step.left (Step.pulled (is := []) (A := []) hs' rfl)⟩)
                · replace H := ite_f (of_decide_eq_false hc) H
                  refine TL_skip rfl rfl rfl rfl rfl rfl rfl ?_
                  refine TL_skip rfl rfl rfl rfl rfl rfl rfl ?_
                  refine TL_skip rfl rfl rfl rfl rfl rfl rfl ?_
                  refine TL_v rfl rfl rfl (V_pick (b := false) rfl rfl) ?_
                  refine TL_v rfl rfl rfl (V_move rfl) ?_
                  refine TL_skip rfl rfl rfl rfl rfl rfl rfl ?_
                  refine TL_skip rfl rfl rfl rfl rfl rfl rfl ?_
                  refine TL_skip rfl rfl rfl rfl rfl rfl rfl ?_
                  refine TL_skip rfl rfl rfl rfl rfl rfl rfl ?_
                  refine TL_skip rfl rfl rfl rfl rfl rfl rfl ?_
                  refine TL_skip rfl rfl rfl rfl rfl rfl rfl ?_
                  refine TL_v rfl rfl rfl (V_pick (b := false) rfl rfl) ?_
                  refine TL_v rfl rfl rfl (V_assign rfl) ?_
                  refine TL_nil ?_
                  refine TX_next ?_
                  refine TC.sub (m' := [(10, vb false)]) ⟨rfl, trivial⟩ ?_
                  refine TC_ret ?_
                  have hrv := Option.some.inj H
                  subst hrv
                  exact TX_ret (rs := [.tmp 10]) (vs := [vb false]) rfl ⟨rfl, trivial⟩ (fun w' hs' => ⟨(), rfl, Step.left (Step.pulled (is := []) (A := []) hs' rfl)⟩)
              · replace H := ite_f (of_decide_eq_false hc) H
                refine TL_skip rfl rfl rfl rfl rfl rfl rfl ?_
                refine TL_skip rfl rfl rfl rfl rfl rfl rfl ?_
                refine TL_skip rfl rfl rfl rfl rfl rfl rfl ?_
                refine TL_v rfl rfl rfl (V_pick (b := false) rfl rfl) ?_
                refine TL_v rfl rfl rfl (V_move rfl) ?_
                refine TL_skip rfl rfl rfl rfl rfl rfl rfl ?_
                refine TL_skip rfl rfl rfl rfl rfl rfl rfl ?_
                refine TL_skip rfl rfl rfl rfl rfl rfl rfl ?_
                refine TL_v rfl rfl rfl (V_pick (b := false) rfl rfl) ?_
                refine TL_v rfl rfl rfl (V_move rfl) ?_
                refine TL_skip rfl rfl rfl rfl rfl rfl rfl ?_
                refine TL_skip rfl rfl rfl rfl rfl rfl rfl ?_
                refine TL_skip rfl rfl rfl rfl rfl rfl rfl ?_
                refine TL_skip rfl rfl rfl rfl rfl rfl rfl ?_
                refine TL_skip rfl rfl rfl rfl rfl rfl rfl ?_
                refine TL_skip rfl rfl rfl rfl rfl rfl rfl ?_
                refine TL_v rfl rfl rfl (V_pick (b := false) rfl rfl) ?_
                refine TL_v rfl rfl rfl (V_assign rfl) ?_
                refine TL_nil ?_
                refine TX_next ?_
                refine TC.sub (m' := [(10, vb false)]) ⟨rfl, trivial⟩ ?_
                refine TC_ret ?_
                have hrv := Option.some.inj H
                subst hrv
                exact TX_ret (rs := [.tmp 10]) (vs := [vb false]) rfl ⟨rfl, trivial⟩ (fun w' hs' => ⟨(), rfl, Step.left (Step.pulled (is := []) (A := []) hs' rfl)⟩)
            · replace H := ite_f (of_decide_eq_false hc) H
              refine TL_skip rfl rfl rfl rfl rfl rfl rfl ?_
              refine TL_skip rfl rfl rfl rfl rfl rfl rfl ?_
              refine TL_skip rfl rfl rfl rfl rfl rfl rfl ?_
              refine TL_skip rfl rfl rfl rfl rfl rfl rfl ?_
              refine TL_skip rfl rfl rfl rfl rfl rfl rfl ?_
              refine TL_skip rfl rfl rfl rfl rfl rfl rfl ?_
              refine TL_v rfl rfl rfl (V_pick (b := false) rfl rfl) ?_
              refine TL_v rfl rfl rfl (V_move rfl) ?_
              refine TL_skip rfl rfl rfl rfl rfl rfl rfl ?_
              refine TL_skip rfl rfl rfl rfl rfl rfl rfl ?_
              refine TL_skip rfl rfl rfl rfl rfl rfl rfl ?_
              refine TL_v rfl rfl rfl (V_pick (b := false) rfl rfl) ?_
              refine TL_v rfl rfl rfl (V_move rfl) ?_
              refine TL_skip rfl rfl rfl rfl rfl rfl rfl ?_
              refine TL_skip rfl rfl rfl rfl rfl rfl rfl ?_
              refine TL_skip rfl rfl rfl rfl rfl rfl rfl ?_
              refine TL_v rfl rfl rfl (V_pick (b := false) rfl rfl) ?_
              refine TL_v rfl rfl rfl (V_move rfl) ?_
              refine TL_skip rfl rfl rfl rfl rfl rfl rfl ?_
              refine TL_skip rfl rfl rfl rfl rfl rfl rfl ?_
              refine TL_skip rfl rfl rfl rfl rfl rfl rfl ?_
              refine TL_skip rfl rfl rfl rfl rfl rfl rfl ?_
              refine TL_skip rfl rfl rfl rfl rfl rfl rfl ?_
              refine TL_skip rfl rfl rfl rfl rfl rfl rfl ?_
              refine TL_v rfl rfl rfl (V_pick (b := false) rfl rfl) ?_
              refine TL_v rfl rfl rfl (V_assign rfl) ?_
              refine TL_nil ?_
              refine TX_next ?_
              refine TC.sub (m' := [(10, vb false)]) ⟨rfl, trivial⟩ ?_
              refine TC_ret ?_
              have hrv := Option.some.inj H
              subst hrv
              exact TX_ret (rs := [.tmp 10]) (vs := [vb false]) rfl ⟨rfl, trivial⟩ (fun w' hs' => ⟨(), rfl, Step.left (Step.pulled (is := []) (A := []) hs' rfl)⟩)
          · replace H := ite_f (of_decide_eq_false hc) H
            refine TL_skip rfl rfl rfl rfl rfl rfl rfl ?_
            refine TL_skip rfl rfl rfl rfl rfl rfl rfl ?_
            refine TL_skip rfl rfl rfl rfl rfl rfl rfl ?_
            refine TL_skip rfl rfl rfl rfl rfl rfl rfl ?_
            refine TL_skip rfl rfl rfl rfl rfl rfl rfl ?_
            refine TL_skip rfl rfl rfl rfl rfl rfl rfl ?_
            refine TL_v rfl rfl rfl (V_pick (b := false) rfl rfl) ?_
            refine TL_v rfl rfl rfl (V_move rfl) ?_
            refine TL_skip rfl rfl rfl rfl rfl rfl rfl ?_
            refine TL_skip rfl rfl rfl rfl rfl rfl rfl ?_
            refine TL_skip rfl rfl rfl rfl rfl rfl rfl ?_
            refine TL_skip rfl rfl rfl rfl rfl rfl rfl ?_
            refine TL_skip rfl rfl rfl rfl rfl rfl rfl ?_
            refine TL_skip rfl rfl rfl rfl rfl rfl rfl ?_
            refine TL_v rfl rfl rfl (V_pick (b := false) rfl rfl) ?_
            refine TL_v rfl rfl rfl (V_move rfl) ?_
            refine TL_skip rfl rfl rfl rfl rfl rfl rfl ?_
            refine TL_skip rfl rfl rfl rfl rfl rfl rfl ?_
            refine TL_skip rfl rfl rfl rfl rfl rfl rfl ?_
            refine TL_v rfl rfl rfl (V_pick (b := false) rfl rfl) ?_
            refine TL_v rfl rfl rfl (V_move rfl) ?_
            refine TL_skip rfl rfl rfl rfl rfl rfl rfl ?_
            refine TL_skip rfl rfl rfl rfl rfl rfl rfl ?_
            refine TL_skip rfl rfl rfl rfl rfl rfl rfl ?_
            refine TL_v rfl rfl rfl (V_pick (b := false) rfl rfl) ?_
            refine TL_v rfl rfl rfl (V_move rfl) ?_
            refine TL_skip rfl rfl rfl rfl rfl rfl rfl ?_
            refine TL_skip rfl rfl rfl rfl rfl rfl rfl ?_
            refine TL_skip rfl rfl rfl rfl rfl rfl rfl ?_
            refine TL_skip rfl rfl rfl rfl rfl rfl rfl ?_
            refine TL_skip rfl rfl rfl rfl rfl rfl rfl ?_
            refine TL_skip rfl rfl rfl rfl rfl rfl rfl ?_
            refine TL_v rfl rfl rfl (V_pick (b := false) rfl rfl) ?_
            refine TL_v rfl rfl rfl (V_assign rfl) ?_
            refine TL_nil ?_
            refine TX_next ?_
            refine TC.sub (m' := [(10, vb false)]) ⟨rfl, trivial⟩ ?_
            refine TC_ret ?_
            have hrv := Option.some.inj H
            subst hrv
            exact TX_ret (rs := [.tmp 10]) (vs := [vb false]) rfl ⟨rfl, trivial⟩ (fun w' hs' => ⟨(), rfl, Step.left (Step.pulled (is := []) (A := []) hs' rfl)⟩)
        · replace H := ite_f (of_decide_eq_false hc) H
          refine TL_skip rfl rfl rfl rfl rfl rfl rfl ?_
          refine TL_skip rfl rfl rfl rfl rfl rfl rfl ?_
          refine TL_skip rfl rfl rfl rfl rfl rfl rfl ?_
          refine TL_skip rfl rfl rfl rfl rfl rfl rfl ?_
          refine TL_skip rfl rfl rfl rfl rfl rfl rfl ?_
          refine TL_skip rfl rfl rfl rfl rfl rfl rfl ?_
          refine TL_v rfl rfl rfl (V_pick (b := false) rfl rfl) ?_
          refine TL_v rfl rfl rfl (V_move rfl) ?_
          refine TL_skip rfl rfl rfl rfl rfl rfl rfl ?_
          refine TL_skip rfl rfl rfl rfl rfl rfl rfl ?_
          refine TL_skip rfl rfl rfl rfl rfl rfl rfl ?_
          refine TL_skip rfl rfl rfl rfl rfl rfl rfl ?_
          refine TL_skip rfl rfl rfl rfl rfl rfl rfl ?_
          refine TL_skip rfl rfl rfl rfl rfl rfl rfl ?_
          refine TL_v rfl rfl rfl (V_pick (b := false) rfl rfl) ?_
          refine TL_v rfl rfl rfl (V_move rfl) ?_
          refine TL_skip rfl rfl rfl rfl rfl rfl rfl ?_
          refine TL_skip rfl rfl rfl rfl rfl rfl rfl ?_
          refine TL_skip rfl rfl rfl rfl rfl rfl rfl ?_
          refine TL_skip rfl rfl rfl rfl rfl rfl rfl ?_
          refine TL_skip rfl rfl rfl rfl rfl rfl rfl ?_
          refine TL_skip rfl rfl rfl rfl rfl rfl rfl ?_
          refine TL_v rfl rfl rfl (V_pick (b := false) rfl rfl) ?_
          refine TL_v rfl rfl rfl (V_move rfl) ?_
          refine TL_skip rfl rfl rfl rfl rfl rfl rfl ?_
          refine TL_skip rfl rfl rfl rfl rfl rfl rfl ?_
          refine TL_skip rfl rfl rfl rfl rfl rfl rfl ?_
          refine TL_v rfl rfl rfl (V_pick (b := false) rfl rfl) ?_
          refine TL_v rfl rfl rfl (V_move rfl) ?_
          refine TL_skip rfl rfl rfl rfl rfl rfl rfl ?_
          refine TL_skip rfl rfl rfl rfl rfl rfl rfl ?_
          refine TL_skip rfl rfl rfl rfl rfl rfl rfl ?_
          refine TL_v rfl rfl rfl (V_pick (b := false) rfl rfl) ?_
          refine TL_v rfl rfl rfl (V_move rfl) ?_
          refine TL_skip rfl rfl rfl rfl rfl rfl rfl ?_
          refine TL_skip rfl rfl rfl rfl rfl rfl rfl ?_
          refine TL_skip rfl rfl rfl rfl rfl rfl rfl ?_
          refine TL_skip rfl rfl rfl rfl rfl rfl rfl ?_
          refine TL_skip rfl rfl rfl rfl rfl rfl rfl ?_
          refine TL_skip rfl rfl rfl rfl rfl rfl rfl ?_
          refine TL_v rfl rfl rfl (V_pick (b := false) rfl rfl) ?_
          refine TL_v rfl rfl rfl (V_assign rfl) ?_
          refine TL_nil ?_
          refine TX_next ?_
          refine TC.sub (m' := [(10, vb false)]) ⟨rfl, trivial⟩ ?_
          refine TC_ret ?_
          have hrv := Option.some.inj H
          subst hrv
          exact TX_ret (rs := [.tmp 10]) (vs := [vb false]) rfl ⟨rfl, trivial⟩ (fun w' hs' => ⟨(), rfl, Step.left (Step.pulled (is := []) (A := []) hs' rfl)⟩)
      · replace H := ite_f (of_decide_eq_false hc) H
        refine TL_skip rfl rfl rfl rfl rfl rfl rfl ?_
        refine TL_skip rfl rfl rfl rfl rfl rfl rfl ?_
        refine TL_skip rfl rfl rfl rfl rfl rfl rfl ?_
        refine TL_v rfl rfl rfl (V_pick (b := false) rfl rfl) ?_
        refine TL_v rfl rfl rfl (V_move rfl) ?_
        refine TL_skip rfl rfl rfl rfl rfl rfl rfl ?_
        refine TL_skip rfl rfl rfl rfl rfl rfl rfl ?_
        refine TL_skip rfl rfl rfl rfl rfl rfl rfl ?_
        refine TL_skip rfl rfl rfl rfl rfl rfl rfl ?_
        refine TL_skip rfl rfl rfl rfl rfl rfl rfl ?_
        refine TL_skip rfl rfl rfl rfl rfl rfl rfl ?_
        refine TL_v rfl rfl rfl (V_pick (b := false) rfl rfl) ?_
        refine TL_v rfl rfl rfl (V_move rfl) ?_
        refine TL_skip rfl rfl rfl rfl rfl rfl rfl ?_
        refine TL_skip rfl rfl rfl rfl rfl rfl rfl ?_
        refine TL_skip rfl rfl rfl rfl rfl rfl rfl ?_
        refine TL_skip rfl rfl rfl rfl rfl rfl rfl ?_
        refine TL_skip rfl rfl rfl rfl rfl rfl rfl ?_
        refine TL_skip rfl rfl rfl rfl rfl rfl rfl ?_
        refine TL_v rfl rfl rfl (V_pick (b := false) rfl rfl) ?_
        refine TL_v rfl rfl rfl (V_move rfl) ?_
        refine TL_skip rfl rfl rfl rfl rfl rfl rfl ?_
        refine TL_skip rfl rfl rfl rfl rfl rfl rfl ?_
        refine TL_skip rfl rfl rfl rfl rfl rfl rfl ?_
        refine TL_skip rfl rfl rfl rfl rfl rfl rfl ?_
        refine TL_skip rfl rfl rfl rfl rfl rfl rfl ?_
        refine TL_skip rfl rfl rfl rfl rfl rfl rfl ?_
        refine TL_v rfl rfl rfl (V_pick (b := false) rfl rfl) ?_
        refine TL_v rfl rfl rfl (V_move rfl) ?_
        refine TL_skip rfl rfl rfl rfl rfl rfl rfl ?_
        refine TL_skip rfl rfl rfl rfl rfl rfl rfl ?_
        refine TL_skip rfl rfl rfl rfl rfl rfl rfl ?_
        refine TL_v rfl rfl rfl (V_pick (b := false) rfl rfl) ?_
        refine TL_v rfl rfl rfl (V_move rfl) ?_
        refine TL_skip rfl rfl rfl rfl rfl rfl rfl ?_
        refine TL_skip rfl rfl rfl rfl rfl rfl rfl ?_
        refine TL_skip rfl rfl rfl rfl rfl rfl rfl ?_
        refine TL_v rfl rfl rfl (V_pick (b := false) rfl rfl) ?_
        refine TL_v rfl rfl rfl (V_move rfl) ?_
        refine TL_skip rfl rfl rfl rfl rfl rfl rfl ?_
        refine TL_skip rfl rfl rfl rfl rfl rfl rfl ?_
        refine TL_skip rfl rfl rfl rfl rfl rfl rfl ?_
        refine TL_skip rfl rfl rfl rfl rfl rfl rfl ?_
        refine TL_skip rfl rfl rfl rfl rfl rfl rfl ?_
        refine TL_skip rfl rfl rfl rfl rfl rfl rfl ?_
        refine TL_v rfl rfl rfl (V_pick (b := false) rfl rfl) ?_
        refine TL_v rfl rfl rfl (V_assign rfl) ?_
        refine TL_nil ?_
        refine TX_next ?_
        refine TC.sub (m' := [(10, vb false)]) ⟨rfl, trivial⟩ ?_
        refine TC_ret ?_
        have hrv := Option.some.inj H
        subst hrv
        exact TX_ret (rs := [.tmp 10]) (vs := [vb false]) rfl ⟨rfl, trivial⟩ (fun w' hs' => ⟨(), rfl, Step.left (Step.pulled (is := []) (A := []) hs' rfl)⟩)
    · intro hJ
      replace H := Hj
      refine TC_cond (b := wide) rfl (fun hc => ?_) (fun hc => ?_)
      · replace H := ite_t hc H
        refine TC_region ?_
        refine TL_v rfl rfl rfl (V_assign rfl) ?_
        refine TL_nil ?_
        refine TX.sub (m' := [(1, vs key), (2, vs info), (3, vi a_), (4, vi b), (11, vi 384)]) ⟨rfl, rfl, rfl, rfl, rfl, trivial⟩ ?_
        refine TX.pull (is := []) (L' := []) rfl ?_
        obtain rfl := Option.some.inj H
        exact hJ ()
      · replace H := ite_f (Bool.eq_false_iff.1 hc) H
        refine TC_skip ?_
        refine TX.sub (m' := [(1, vs key), (2, vs info), (3, vi a_), (4, vi b), (11, vi 256)]) ⟨rfl, rfl, rfl, rfl, rfl, trivial⟩ ?_
        refine TX.pull (is := []) (L' := []) rfl ?_
        obtain rfl := Option.some.inj H
        exact hJ ()

end Go.Proofs
end

section
namespace Go.Proofs
open Go Go.Kx
set_option linter.unusedVariables false
set_option linter.unusedSimpArgs false
def halberdlaw3_HkdfLabels (wide : Bool) (key : Str) (label : Str) (context : Str) (size : Int) : Option (Bool) :=
  (halberdlaw3_awake).bind fun (r_1 : Bool) => (if (!r_1) = true then (some false) else (if 249 < ((label).length : Int) then (some true) else (if 255 < ((context).length : Int) then (some true) else ((if wide = true then (some 384) else (some 256)).bind fun (j1 : Int) => (ltt (iop (· &&& ·) size 4095) fun (k_1 : Int) => (if (([BitVec.ofInt 8 (shrI' k_1 8), BitVec.ofInt 8 (iop (· &&& ·) k_1 255), BitVec.ofInt 8 (w64 (6 + ((label).length : Int)))] : List (BitVec 8))).length = 3 then (if (([BitVec.ofInt 8 (shrI' k_1 8), BitVec.ofInt 8 (iop (· &&& ·) k_1 255), BitVec.ofInt 8 (w64 (6 + ((label).length : Int)))] : List (BitVec 8))).length + (([116#8, 108#8, 115#8, 49#8, 51#8, 32#8] : Str)).length ≤ 4611686018427387904 then (if (([BitVec.ofInt 8 (shrI' k_1 8), BitVec.ofInt 8 (iop (· &&& ·) k_1 255), BitVec.ofInt 8 (w64 (6 + ((label).length : Int)))] : List (BitVec 8)) ++ ([116#8, 108#8, 115#8, 49#8, 51#8, 32#8] : Str)).length + (label).length ≤ 4611686018427387904 then (if (([BitVec.ofInt 8 ((context).length : Int)] : List (BitVec 8))).length = 1 then (if ((([BitVec.ofInt 8 (shrI' k_1 8), BitVec.ofInt 8 (iop (· &&& ·) k_1 255), BitVec.ofInt 8 (w64 (6 + ((label).length : Int)))] : List (BitVec 8)) ++ ([116#8, 108#8, 115#8, 49#8, 51#8, 32#8] : Str)) ++ label).length + (([BitVec.ofInt 8 ((context).length : Int)] : List (BitVec 8))).length ≤ 4611686018427387904 then (if (((([BitVec.ofInt 8 (shrI' k_1 8), BitVec.ofInt 8 (iop (· &&& ·) k_1 255), BitVec.ofInt 8 (w64 (6 + ((label).length : Int)))] : List (BitVec 8)) ++ ([116#8, 108#8, 115#8, 49#8, 51#8, 32#8] : Str)) ++ label) ++ ([BitVec.ofInt 8 ((context).length : Int)] : List (BitVec 8))).length + (context).length ≤ 4611686018427387904 then (ltt ((((([BitVec.ofInt 8 (shrI' k_1 8), BitVec.ofInt 8 (iop (· &&& ·) k_1 255), BitVec.ofInt 8 (w64 (6 + ((label).length : Int)))] : List (BitVec 8)) ++ ([116#8, 108#8, 115#8, 49#8, 51#8, 32#8] : Str)) ++ label) ++ ([BitVec.ofInt 8 ((context).length : Int)] : List (BitVec 8))) ++ context) fun (info1 : Str) => ((hkdf_Label j1 key label context k_1).bind fun (r_2 : Str × Int) => ((hkdf_Expand j1 key info1 k_1).bind fun (r_3 : Str × Int) => (if (List.replicate 250 0#8).length = 250 then (if (label).length + (List.replicate 250 0#8).length ≤ 4611686018427387904 then ((hkdf_Label j1 key (label ++ (List.replicate 250 0#8)) context k_1).bind fun (r_4 : Str × Int) => (if (List.replicate 256 0#8).length = 256 then (if (context).length + (List.replicate 256 0#8).length ≤ 4611686018427387904 then ((hkdf_Label j1 key label (context ++ (List.replicate 256 0#8)) k_1).bind fun (r_5 : Str × Int) => ((halberdlaw0_Num r_2.2).bind fun (r_6 : Int) => (if r_6 = 0 then ((halberdlaw0_Num r_3.2).bind fun (r_7 : Int) => (if r_7 = 0 then (if r_2.1 = r_3.1 then ((halberdlaw0_Num r_4.2).bind fun (r_8 : Int) => (if r_8 = 300 then ((halberdlaw0_Num r_5.2).bind fun (r_9 : Int) => (ltt (decide (r_9 = 300)) fun (x1 : Bool) => (some x1))) else (some false))) else (some false)) else (some false))) else (some false)))) else none) else none)) else none) else none)))) else none) else none) else none) else none) else none) else none))))))

set_option maxHeartbeats 4000000 in
set_option maxRecDepth 20000 in
theorem F19_calls (wide : Bool) (key : Str) (label : Str) (context : Str) (size : Int) (r : Bool) (H : halberdlaw3_HkdfLabels wide key label context size = some r) :
    Does Try.prog 19 [vb wide, vs key, vs label, vs context, vi size] [] [] (Γ := Unit) (fun g => vb r) (fun g => []) := by
  intro w hmem hro hd
  refine calls_of (N := 122) (m0 := [(0, vb wide), (1, vs key), (2, vs label), (3, vs context), (4, vi size)]) Try.func19 rfl Try.ntmps19 (argM_ok [vb wide, vs key, vs label, vs context, vi size]) rfl hmem hro hd ?_
  unfold halberdlaw3_HkdfLabels at H
  refine TC_seq ?_
  refine TC_region ?_
  refine TL_v rfl rfl rfl (V_assign rfl) ?_
  refine TL_nil ?_
  refine TX_next ?_
  refine TC_seq ?_
  refine TC_seq ?_
  refine TC_region ?_
  obtain ⟨r_1, hr_1, H⟩ := bind_elim H
  refine TL_e rfl rfl rfl (E_call (Γ := Unit) (val := fun g => vb r_1) (mem := fun g => []) (vs := []) (Lin := []) (Ro := []) (is := []) rfl Try.call42 (F42_calls r_1 hr_1) rfl trivial) (fun g_1 => ?_)
  refine TL_v rfl rfl rfl (V_un rfl (fun w => notB w r_1)) ?_
  refine TL_nil ?_
  refine TX_next ?_
  refine TC_cond (b := (!r_1)) rfl (fun hc => ?_) (fun hc => ?_)
  · replace H := ite_t hc H
    refine TC_seq ?_
    refine TC_region ?_
    refine TL_v rfl rfl rfl (V_assign rfl) ?_
    refine TL_nil ?_
    refine TX_next ?_
    refine TC_ret ?_
    refine TX_then_ret ?_
    have hrv := Option.some.inj H
    subst hrv
    exact TX_ret (rs := [.tmp 10]) (vs := [vb false]) rfl ⟨rfl, trivial⟩ (fun w' hs' => ⟨(), rfl, Step.left (Step.pulled (is := []) (A := []) hs' rfl)⟩)
  · replace H := ite_f (Bool.eq_false_iff.1 hc) H
    refine TC_skip ?_
    refine TX_next ?_
    refine TC_seq ?_
    refine TC_seq ?_
    refine TC_region ?_
    refine TL_v rfl rfl rfl (V_move rfl) ?_
    refine TL_v rfl rfl rfl (V_len_str rfl Try.underlying9) ?_
    refine TL_v rfl rfl rfl (V_bin rfl rfl (fun w => gtrI w ((label).length : Int) 249)) ?_
    refine TL_v rfl rfl rfl (V_move rfl) ?_
    refine TL_fork (d := 27) (b := (decide (249 < ((label).length : Int)))) rfl (fun hc => ?_) (fun hc => ?_)
    · replace H := ite_t (of_decide_eq_true hc) H
      refine TL_skip rfl rfl rfl rfl rfl rfl rfl ?_
      refine TL_skip rfl rfl rfl rfl rfl rfl rfl ?_
      refine TL_skip rfl rfl rfl rfl rfl rfl rfl ?_
      refine TL_v rfl rfl rfl (V_pick (b := true) rfl rfl) ?_
      refine TL_nil ?_
      refine TX_next ?_
      refine TC_cond_t rfl ?_
      refine TC_seq ?_
      refine TC_region ?_
      refine TL_v rfl rfl rfl (V_assign rfl) ?_
      refine TL_nil ?_
      refine TX_next ?_
      refine TC_ret ?_
      refine TX_then_ret ?_
      have hrv := Option.some.inj H
      subst hrv
      exact TX_ret (rs := [.tmp 10]) (vs := [vb true]) rfl ⟨rfl, trivial⟩ (fun w' hs' => ⟨(), rfl, Step.left (Step.pulled (is := []) (A := []) hs' rfl)⟩)
    · replace H := ite_f (of_decide_eq_false hc) H
      refine TL_want rfl rfl rfl rfl rfl rfl (V_move rfl) ?_
      refine TL_want rfl rfl rfl rfl rfl rfl (V_len_str rfl Try.underlying9) ?_
      refine TL_want rfl rfl rfl rfl rfl rfl (V_bin rfl rfl (fun w => gtrI w ((context).length : Int) 255)) ?_
      refine TL_v rfl rfl rfl (V_pick (b := false) rfl rfl) ?_
      refine TL_nil ?_
      refine TX_next ?_
      refine TC_cond (b := (decide (255 < ((context).length : Int)))) rfl (fun hc => ?_) (fun hc => ?_)
      · replace H := ite_t (of_decide_eq_true hc) H
        refine TC_seq ?_
        refine TC_region ?_
        refine TL_v rfl rfl rfl (V_assign rfl) ?_
        refine TL_nil ?_
        refine TX_next ?_
        refine TC_ret ?_
        refine TX_then_ret ?_
        have hrv := Option.some.inj H
        subst hrv
        exact TX_ret (rs := [.tmp 10]) (vs := [vb true]) rfl ⟨rfl, trivial⟩ (fun w' hs' => ⟨(), rfl, Step.left (Step.pulled (is := []) (A := []) hs' rfl)⟩)
      · replace H := ite_f (of_decide_eq_false hc) H
        refine TC_skip ?_
        refine TX_next ?_
        refine TC_seq ?_
        refine TC_region ?_
        refine TL_v rfl rfl rfl (V_assign rfl) ?_
        refine TL_nil ?_
        refine TX_next ?_
        refine TC_seq ?_
        refine TC_seq ?_
        refine TC_region ?_
        refine TL_v rfl rfl rfl (V_move rfl) ?_
        refine TL_nil ?_
        refine TX_next ?_
        obtain ⟨j1, Hj, H⟩ := bind_elim H
        refine TC_join (Γ := Unit) (fun gj1 => [(1, vs key), (2, vs label), (3, vs context), (4, vi size), (11, vi j1)]) (fun gj1 => []) ?_ ?_
        · intro gj1
          refine TX_next ?_
          refine TC_seq ?_
          refine TC_region ?_
          refine TL_v rfl rfl rfl (V_move rfl) ?_
          refine TL_v rfl rfl rfl (V_bin rfl rfl (fun w => andI w size 4095)) ?_
          refine TL_v rfl rfl rfl (V_assign rfl) ?_
          obtain ⟨k_1, hk_1, H⟩ := ltt_elim H
          refine TL_re (d := 12) (v := vi (iop (· &&& ·) size 4095)) (v' := vi k_1) rfl (congrArg vi hk_1) ?_
          refine TL_nil ?_
          refine TX_next ?_
          refine TC_seq ?_
          refine TC_region ?_
          refine TL_v rfl rfl rfl (V_move rfl) ?_
          refine TL_v rfl rfl rfl (V_bin rfl rfl (fun w => shrI w k_1 .u64 8 (by decide))) ?_
          refine TL_v rfl rfl rfl (V_conv rfl (fun w => cvI8 w _ _ Try.underlying5 (TryI.und3) .i64 (shrI' k_1 8))) ?_
          refine TL_v rfl rfl rfl (V_move rfl) ?_
          refine TL_v rfl rfl rfl (V_bin rfl rfl (fun w => andI w k_1 255)) ?_
          refine TL_v rfl rfl rfl (V_conv rfl (fun w => cvI8 w _ _ Try.underlying5 (TryI.und3) .i64 (iop (· &&& ·) k_1 255))) ?_
          refine TL_v rfl rfl rfl (V_move rfl) ?_
          refine TL_v rfl rfl rfl (V_len_str rfl Try.underlying9) ?_
          refine TL_v rfl rfl rfl (V_bin rfl rfl (fun w => addI w 6 ((label).length : Int))) ?_
          refine TL_v rfl rfl rfl (V_conv rfl (fun w => cvI8 w _ _ Try.underlying5 (TryI.und3) .i64 (w64 (6 + ((label).length : Int))))) ?_
          refine TL_e rfl rfl rfl (E_buildSlice (pv := [(0, v8 (BitVec.ofInt 8 (shrI' k_1 8))), (1, v8 (BitVec.ofInt 8 (iop (· &&& ·) k_1 255))), (2, v8 (BitVec.ofInt 8 (w64 (6 + ((label).length : Int)))))]) rfl rfl Try.underlying30 TryI.inf5 (s := 1) rfl TryI.zer5 rfl rfl rfl (cs := e8 ([BitVec.ofInt 8 (shrI' k_1 8), BitVec.ofInt 8 (iop (· &&& ·) k_1 255), BitVec.ofInt 8 (w64 (6 + ((label).length : Int)))] : List (BitVec 8))) (by kernel_rfl)) (fun b1 => ?_)
          obtain ⟨h1, H⟩ := if_elim H
          refine TL_v rfl rfl rfl (V_b2s rfl Try.underlying30 Try.underlying5 Try.underlying9 (Src.own (j := 0) rfl) h1) ?_
          obtain ⟨h2, H⟩ := if_elim H
          refine TL_v rfl rfl rfl (V_bin rfl rfl (fun w => addS w ([BitVec.ofInt 8 (shrI' k_1 8), BitVec.ofInt 8 (iop (· &&& ·) k_1 255), BitVec.ofInt 8 (w64 (6 + ((label).length : Int)))] : List (BitVec 8)) ([116#8, 108#8, 115#8, 49#8, 51#8, 32#8] : Str) h2)) ?_
          refine TL_v rfl rfl rfl (V_move rfl) ?_
          obtain ⟨h3, H⟩ := if_elim H
          refine TL_v rfl rfl rfl (V_bin rfl rfl (fun w => addS w (([BitVec.ofInt 8 (shrI' k_1 8), BitVec.ofInt 8 (iop (· &&& ·) k_1 255), BitVec.ofInt 8 (w64 (6 + ((label).length : Int)))] : List (BitVec 8)) ++ ([116#8, 108#8, 115#8, 49#8, 51#8, 32#8] : Str)) label h3)) ?_
          refine TL_v rfl rfl rfl (V_move rfl) ?_
          refine TL_v rfl rfl rfl (V_len_str rfl Try.underlying9) ?_
          refine TL_v rfl rfl rfl (V_conv rfl (fun w => cvI8 w _ _ Try.underlying5 (TryI.und3) .i64 ((context).length : Int))) ?_
          refine TL_e rfl rfl rfl (E_buildSlice (pv := [(0, v8 (BitVec.ofInt 8 ((context).length : Int)))]) rfl rfl Try.underlying30 TryI.inf5 (s := 1) rfl TryI.zer5 rfl rfl rfl (cs := e8 ([BitVec.ofInt 8 ((context).length : Int)] : List (BitVec 8))) (by kernel_rfl)) (fun b2 => ?_)
          obtain ⟨h4, H⟩ := if_elim H
          refine TL_v rfl rfl rfl (V_b2s rfl Try.underlying30 Try.underlying5 Try.underlying9 (Src.own (j := 0) rfl) h4) ?_
          obtain ⟨h5, H⟩ := if_elim H
          refine TL_v rfl rfl rfl (V_bin rfl rfl (fun w => addS w ((([BitVec.ofInt 8 (shrI' k_1 8), BitVec.ofInt 8 (iop (· &&& ·) k_1 255), BitVec.ofInt 8 (w64 (6 + ((label).length : Int)))] : List (BitVec 8)) ++ ([116#8, 108#8, 115#8, 49#8, 51#8, 32#8] : Str)) ++ label) ([BitVec.ofInt 8 ((context).length : Int)] : List (BitVec 8)) h5)) ?_
          refine TL_v rfl rfl rfl (V_move rfl) ?_
          obtain ⟨h6, H⟩ := if_elim H
          refine TL_v rfl rfl rfl (V_bin rfl rfl (fun w => addS w (((([BitVec.ofInt 8 (shrI' k_1 8), BitVec.ofInt 8 (iop (· &&& ·) k_1 255), BitVec.ofInt 8 (w64 (6 + ((label).length : Int)))] : List (BitVec 8)) ++ ([116#8, 108#8, 115#8, 49#8, 51#8, 32#8] : Str)) ++ label) ++ ([BitVec.ofInt 8 ((context).length : Int)] : List (BitVec 8))) context h6)) ?_
          refine TL_v rfl rfl rfl (V_assign rfl) ?_
          obtain ⟨info1, hinfo1, H⟩ := ltt_elim H
          refine TL_re (d := 13) (v := vs ((((([BitVec.ofInt 8 (shrI' k_1 8), BitVec.ofInt 8 (iop (· &&& ·) k_1 255), BitVec.ofInt 8 (w64 (6 + ((label).length : Int)))] : List (BitVec 8)) ++ ([116#8, 108#8, 115#8, 49#8, 51#8, 32#8] : Str)) ++ label) ++ ([BitVec.ofInt 8 ((context).length : Int)] : List (BitVec 8))) ++ context)) (v' := vs info1) rfl (congrArg vs hinfo1) ?_
          refine TL_nil ?_
          refine TX_next ?_
          refine TC.sub (m' := [(1, vs key), (2, vs label), (3, vs context), (11, vi j1), (12, vi k_1), (13, vs info1)]) ⟨rfl, rfl, rfl, rfl, rfl, rfl, trivial⟩ ?_
          refine TC_seq ?_
          refine TC_region ?_
          refine TL_v rfl rfl rfl (V_move rfl) ?_
          refine TL_v rfl rfl rfl (V_move rfl) ?_
          refine TL_v rfl rfl rfl (V_move rfl) ?_
          refine TL_v rfl rfl rfl (V_move rfl) ?_
          refine TL_v rfl rfl rfl (V_move rfl) ?_
          obtain ⟨r_2, hr_2, H⟩ := bind_elim H
          refine TL_e rfl rfl rfl (E_call (Γ := Unit) (val := fun g => Value.tuple [vs r_2.1, vi r_2.2].toArray) (mem := fun g => []) (vs := [vi j1, vs key, vs label, vs context, vi k_1]) (Lin := []) (Ro := []) (is := []) rfl Try.call44 (F44_calls j1 key label context k_1 r_2 hr_2) rfl trivial) (fun g_2 => ?_)
          refine TL_v rfl rfl rfl (V_move rfl) ?_
          refine TL_v rfl rfl rfl (V_extract (vs := [vs r_2.1, vi r_2.2]) rfl rfl) ?_
          refine TL_v rfl rfl rfl (V_extract (vs := [vs r_2.1, vi r_2.2]) rfl rfl) ?_
          refine TL_v rfl rfl rfl (V_assign rfl) ?_
          refine TL_v rfl rfl rfl (V_assign rfl) ?_
          refine TL_nil ?_
          refine TX_next ?_
          refine TC_seq ?_
          refine TC_region ?_
          refine TL_v rfl rfl rfl (V_move rfl) ?_
          refine TL_v rfl rfl rfl (V_move rfl) ?_
          refine TL_v rfl rfl rfl (V_move rfl) ?_
          refine TL_v rfl rfl rfl (V_move rfl) ?_
          obtain ⟨r_3, hr_3, H⟩ := bind_elim H
          refine TL_e rfl rfl rfl (E_call (Γ := Unit) (val := fun g => Value.tuple [vs r_3.1, vi r_3.2].toArray) (mem := fun g => []) (vs := [vi j1, vs key, vs info1, vi k_1]) (Lin := []) (Ro := []) (is := []) rfl Try.call43 (F43_calls j1 key info1 k_1 r_3 hr_3) rfl trivial) (fun g_3 => ?_)
          refine TL_v rfl rfl rfl (V_move rfl) ?_
          refine TL_v rfl rfl rfl (V_extract (vs := [vs r_3.1, vi r_3.2]) rfl rfl) ?_
          refine TL_v rfl rfl rfl (V_extract (vs := [vs r_3.1, vi r_3.2]) rfl rfl) ?_
          refine TL_v rfl rfl rfl (V_assign rfl) ?_
          refine TL_v rfl rfl rfl (V_assign rfl) ?_
          refine TL_nil ?_
          refine TX_next ?_
          refine TC_seq ?_
          refine TC_region ?_
          refine TL_v rfl rfl rfl (V_move rfl) ?_
          refine TL_v rfl rfl rfl (V_move rfl) ?_
          refine TL_v rfl rfl rfl (V_move rfl) ?_
          refine TL_e rfl rfl rfl (E_mk1 rfl rfl Try.underlying30 TryI.inf5 (z := v8 0#8) rfl rfl rfl (B := 1) rfl (by decide) (Int.le_refl _) (by decide) (by decide) (n' := 250) (c' := 250) rfl rfl (cs := e8 (List.replicate 250 0#8)) (rep_map (f := v8))) (fun b3 => ?_)
          obtain ⟨h7, H⟩ := if_elim H
          refine TL_v rfl rfl rfl (V_b2s rfl Try.underlying30 Try.underlying5 Try.underlying9 (Src.own (j := 0) rfl) h7) ?_
          obtain ⟨h8, H⟩ := if_elim H
          refine TL_v rfl rfl rfl (V_bin rfl rfl (fun w => addS w label (List.replicate 250 0#8) h8)) ?_
          refine TL_v rfl rfl rfl (V_move rfl) ?_
          refine TL_v rfl rfl rfl (V_move rfl) ?_
          obtain ⟨r_4, hr_4, H⟩ := bind_elim H
          refine TL_e rfl rfl rfl (E_call (Γ := Unit) (val := fun g => Value.tuple [vs r_4.1, vi r_4.2].toArray) (mem := fun g => []) (vs := [vi j1, vs key, vs (label ++ (List.replicate 250 0#8)), vs context, vi k_1]) (Lin := []) (Ro := []) (is := []) rfl Try.call44 (F44_calls j1 key (label ++ (List.replicate 250 0#8)) context k_1 r_4 hr_4) rfl trivial) (fun g_4 => ?_)
          refine TL_v rfl rfl rfl (V_move rfl) ?_
          refine TL_v rfl rfl rfl (V_extract (vs := [vs r_4.1, vi r_4.2]) rfl rfl) ?_
          refine TL_v rfl rfl rfl (V_extract (vs := [vs r_4.1, vi r_4.2]) rfl rfl) ?_
          refine TL_v rfl rfl rfl (V_assign rfl) ?_
          refine TL_v rfl rfl rfl (V_assign rfl) ?_
          refine TL_nil ?_
          refine TX_next ?_
          refine TC.sub (m' := [(1, vs key), (2, vs label), (3, vs context), (11, vi j1), (12, vi k_1), (14, vs r_2.1), (15, vi r_2.2), (16, vs r_3.1), (17, vi r_3.2), (19, vi r_4.2)]) ⟨rfl, rfl, rfl, rfl, rfl, rfl, rfl, rfl, rfl, rfl, trivial⟩ ?_
          refine TC_seq ?_
          refine TC_region ?_
          refine TL_v rfl rfl rfl (V_move rfl) ?_
          refine TL_v rfl rfl rfl (V_move rfl) ?_
          refine TL_v rfl rfl rfl (V_move rfl) ?_
          refine TL_v rfl rfl rfl (V_move rfl) ?_
          refine TL_e rfl rfl rfl (E_mk1 rfl rfl Try.underlying30 TryI.inf5 (z := v8 0#8) rfl rfl rfl (B := 1) rfl (by decide) (Int.le_refl _) (by decide) (by decide) (n' := 256) (c' := 256) rfl rfl (cs := e8 (List.replicate 256 0#8)) (rep_map (f := v8))) (fun b4 => ?_)
          obtain ⟨h9, H⟩ := if_elim H
          refine TL_v rfl rfl rfl (V_b2s rfl Try.underlying30 Try.underlying5 Try.underlying9 (Src.own (j := 0) rfl) h9) ?_
          obtain ⟨h10, H⟩ := if_elim H
          refine TL_v rfl rfl rfl (V_bin rfl rfl (fun w => addS w context (List.replicate 256 0#8) h10)) ?_
          refine TL_v rfl rfl rfl (V_move rfl) ?_
          obtain ⟨r_5, hr_5, H⟩ := bind_elim H
          refine TL_e rfl rfl rfl (E_call (Γ := Unit) (val := fun g => Value.tuple [vs r_5.1, vi r_5.2].toArray) (mem := fun g => []) (vs := [vi j1, vs key, vs label, vs (context ++ (List.replicate 256 0#8)), vi k_1]) (Lin := []) (Ro := []) (is := []) rfl Try.call44 (F44_calls j1 key label (context ++ (List.replicate 256 0#8)) k_1 r_5 hr_5) rfl trivial) (fun g_5 => ?_)
          refine TL_v rfl rfl rfl (V_move rfl) ?_
          refine TL_v rfl rfl rfl (V_extract (vs := [vs r_5.1, vi r_5.2]) rfl rfl) ?_
          refine TL_v rfl rfl rfl (V_extract (vs := [vs r_5.1, vi r_5.2]) rfl rfl) ?_
          refine TL_v rfl rfl rfl (V_assign rfl) ?_
          refine TL_v rfl rfl rfl (V_assign rfl) ?_
          refine TL_nil ?_
          refine TX_next ?_
          refine TC_seq ?_
          refine TC_region ?_
          refine TL_v rfl rfl rfl (V_move rfl) ?_
          obtain ⟨r_6, hr_6, H⟩ := bind_elim H
          refine TL_e rfl rfl rfl (E_call (Γ := Unit) (val := fun g => vi r_6) (mem := fun g => []) (vs := [vi r_2.2]) (Lin := []) (Ro := []) (is := []) rfl Try.call25 (F25_calls r_2.2 r_6 hr_6) rfl trivial) (fun g_6 => ?_)
          refine TL_v rfl rfl rfl (V_bin rfl rfl (fun w => eqlI w r_6 0)) ?_
          refine TL_v rfl rfl rfl (V_move rfl) ?_
          refine TL_fork (d := 102) (b := (decide (r_6 = 0))) rfl (fun hc => ?_) (fun hc => ?_)
          · replace H := ite_t (of_decide_eq_true hc) H
            refine TL_want rfl rfl rfl rfl rfl rfl (V_move rfl) ?_
            obtain ⟨r_7, hr_7, H⟩ := bind_elim H
            refine TL_wantE rfl rfl rfl rfl rfl rfl (E_call (Γ := Unit) (val := fun g => vi r_7) (mem := fun g => []) (vs := [vi r_3.2]) (Lin := []) (Ro := []) (is := []) rfl Try.call25 (F25_calls r_3.2 r_7 hr_7) rfl trivial) (fun g_7 => ?_)
            refine TL_want rfl rfl rfl rfl rfl rfl (V_bin rfl rfl (fun w => eqlI w r_7 0)) ?_
            refine TL_v rfl rfl rfl (V_pick (b := true) rfl rfl) ?_
            refine TL_v rfl rfl rfl (V_move rfl) ?_
            refine TL_fork (d := 107) (b := (decide (r_7 = 0))) rfl (fun hc => ?_) (fun hc => ?_)
            · replace H := ite_t (of_decide_eq_true hc) H
              refine TL_want rfl rfl rfl rfl rfl rfl (V_move rfl) ?_
              refine TL_want rfl rfl rfl rfl rfl rfl (V_move rfl) ?_
              refine TL_want rfl rfl rfl rfl rfl rfl (V_bin rfl rfl (fun w => eqlS w r_2.1 r_3.1)) ?_
              refine TL_v rfl rfl rfl (V_pick (b := true) rfl rfl) ?_
              refine TL_v rfl rfl rfl (V_move rfl) ?_
              refine TL_fork (d := 112) (b := (decide (r_2.1 = r_3.1))) rfl (fun hc => ?_) (fun hc => ?_)
              · replace H := ite_t (of_decide_eq_true hc) H
                refine TL_want rfl rfl rfl rfl rfl rfl (V_move rfl) ?_
                obtain ⟨r_8, hr_8, H⟩ := bind_elim H
                refine TL_wantE rfl rfl rfl rfl rfl rfl (E_call (Γ := Unit) (val := fun g => vi r_8) (mem := fun g => []) (vs := [vi r_4.2]) (Lin := []) (Ro := []) (is := []) rfl Try.call25 (F25_calls r_4.2 r_8 hr_8) rfl trivial) (fun g_8 => ?_)
                refine TL_want rfl rfl rfl rfl rfl rfl (V_bin rfl rfl (fun w => eqlI w r_8 300)) ?_
                refine TL_v rfl rfl rfl (V_pick (b := true) rfl rfl) ?_
                refine TL_v rfl rfl rfl (V_move rfl) ?_
                refine TL_fork (d := 117) (b := (decide (r_8 = 300))) rfl (fun hc => ?_) (fun hc => ?_)
                · replace H := ite_t (of_decide_eq_true hc) H
                  refine TL_want rfl rfl rfl rfl rfl rfl (V_move rfl) ?_
                  obtain ⟨r_9, hr_9, H⟩ := bind_elim H
                  refine TL_wantE rfl rfl rfl rfl rfl rfl (E_call (Γ := Unit) (val := fun g => vi r_9) (mem := fun g => []) (vs := [vi r_5.2]) (Lin := []) (Ro := []) (is := []) rfl Try.call25 (F25_calls r_5.2 r_9 hr_9) rfl trivial) (fun g_9 => ?_)
                  refine TL_want rfl rfl rfl rfl rfl rfl (V_bin rfl rfl (fun w => eqlI w r_9 300)) ?_
                  refine TL_v rfl rfl rfl (V_pick (b := true) rfl rfl) ?_
                  refine TL_v rfl rfl rfl (V_assign rfl) ?_
                  obtain ⟨x1, hx1, H⟩ := ltt_elim H
                  refine TL_re (d := 10) (v := vb (decide (r_9 = 300))) (v' := vb x1) rfl (congrArg vb hx1) ?_
                  refine TL_nil ?_
                  refine TX_next ?_
                  refine TC.sub (m' := [(10, vb x1)]) ⟨rfl, trivial⟩ ?_
                  refine TC_ret ?_
                  have hrv := Option.some.inj H
                  subst hrv
                  exact TX_ret (rs := [.tmp 10]) (vs := [vb x1]) rfl ⟨rfl, trivial⟩ (fun w' hs' => ⟨(), rfl, Step.left (Step.pulled (is := []) (A := []) hs' rfl)⟩)
                · replace H := ite_f (of_decide_eq_false hc) H
                  refine TL_skip rfl rfl rfl rfl rfl rfl rfl ?_
                  refine TL_skip rfl rfl rfl rfl rfl rfl rfl ?_
                  refine TL_skip rfl rfl rfl rfl rfl rfl rfl ?_
                  refine TL_v rfl rfl rfl (V_pick (b := false) rfl rfl) ?_
                  refine TL_v rfl rfl rfl (V_assign rfl) ?_
                  refine TL_nil ?_
                  refine TX_next ?_
                  refine TC.sub (m' := [(10, vb false)]) ⟨rfl, trivial⟩ ?_
                  refine TC_ret ?_
                  have hrv := Option.some.inj H
                  subst hrv
                  exact TX_ret (rs := [.tmp 10]) (vs := [vb false]) rfl ⟨rfl, trivial⟩ (fun w' hs' => ⟨(), rfl, Step.left (Step.pulled (is := []) (A := []) hs' rfl)⟩)
              · replace H := ite_f (of_decide_eq_false hc) H
                refine TL_skip rfl rfl rfl rfl rfl rfl rfl ?_
                refine TL_skip rfl rfl rfl rfl rfl rfl rfl ?_
                refine TL_skip rfl rfl rfl rfl rfl rfl rfl ?_
                refine TL_v rfl rfl rfl (V_pick (b := false) rfl rfl) ?_
                refine TL_v rfl rfl rfl (V_move rfl) ?_
                refine TL_skip rfl rfl rfl rfl rfl rfl rfl ?_
                refine TL_skip rfl rfl rfl rfl rfl rfl rfl ?_
                refine TL_skip rfl rfl rfl rfl rfl rfl rfl ?_
                refine TL_v rfl rfl rfl (V_pick (b := false) rfl rfl) ?_
                refine TL_v rfl rfl rfl (V_assign rfl) ?_
                refine TL_nil ?_
                refine TX_next ?_
                refine TC.sub (m' := [(10, vb false)]) ⟨rfl, trivial⟩ ?_
                refine TC_ret ?_
                have hrv := Option.some.inj H
                subst hrv
                exact TX_ret (rs := [.tmp 10]) (vs := [vb false]) rfl ⟨rfl, trivial⟩ (fun w' hs' => ⟨(), rfl, Step.left (Step.pulled (is := []) (A := []) hs' rfl)⟩)
            · replace H := ite_f (of_decide_eq_false hc) H
              refine TL_skip rfl rfl rfl rfl rfl rfl rfl ?_
              refine TL_skip rfl rfl rfl rfl rfl rfl rfl ?_
              refine TL_skip rfl rfl rfl rfl rfl rfl rfl ?_
              refine TL_v rfl rfl rfl (V_pick (b := false) rfl rfl) ?_
              refine TL_v rfl rfl rfl (V_move rfl) ?_
              refine TL_skip rfl rfl rfl rfl rfl rfl rfl ?_
              refine TL_skip rfl rfl rfl rfl rfl rfl rfl ?_
              refine TL_skip rfl rfl rfl rfl rfl rfl rfl ?_
              refine TL_v rfl rfl rfl (V_pick (b := false) rfl rfl) ?_
              refine TL_v rfl rfl rfl (V_move rfl) ?_
              refine TL_skip rfl rfl rfl rfl rfl rfl rfl ?_
              refine TL_skip rfl rfl rfl rfl rfl rfl rfl ?_
              refine TL_skip rfl rfl rfl rfl rfl rfl rfl ?_
              refine TL_v rfl rfl rfl (V_pick (b := false) rfl rfl) ?_
              refine TL_v rfl rfl rfl (V_assign rfl) ?_
              refine TL_nil ?_
              refine TX_next ?_
              refine TC.sub (m' := [(10, vb false)]) ⟨rfl, trivial⟩ ?_
              refine TC_ret ?_
              have hrv := Option.some.inj H
              subst hrv
              exact TX_ret (rs := [.tmp 10]) (vs := [vb false]) rfl ⟨rfl, trivial⟩ (fun w' hs' => ⟨(), rfl, Step.left (Step.pulled (is := []) (A := []) hs' rfl)⟩)
          · replace H := ite_f (of_decide_eq_false hc) H
            refine TL_skip rfl rfl rfl rfl rfl rfl rfl ?_
            refine TL_skip rfl rfl rfl rfl rfl rfl rfl ?_
            refine TL_skip rfl rfl rfl rfl rfl rfl rfl ?_
            refine TL_v rfl rfl rfl (V_pick (b := false) rfl rfl) ?_
            refine TL_v rfl rfl rfl (V_move rfl) ?_
            refine TL_skip rfl rfl rfl rfl rfl rfl rfl ?_
            refine TL_skip rfl rfl rfl rfl rfl rfl rfl ?_
            refine TL_skip rfl rfl rfl rfl rfl rfl rfl ?_
            refine TL_v rfl rfl rfl (V_pick (b := false) rfl rfl) ?_
            refine TL_v rfl rfl rfl (V_move rfl) ?_
            refine TL_skip rfl rfl rfl rfl rfl rfl rfl ?_
            refine TL_skip rfl rfl rfl rfl rfl rfl rfl ?_
            refine TL_skip rfl rfl rfl rfl rfl rfl rfl ?_
            refine TL_v rfl rfl rfl (V_pick (b := false) rfl rfl) ?_
            refine TL_v rfl rfl rfl (V_move rfl) ?_
            refine TL_skip rfl rfl rfl rfl rfl rfl rfl ?_
            refine TL_skip rfl rfl rfl rfl rfl rfl rfl ?_
            refine TL_skip rfl rfl rfl rfl rfl rfl rfl ?_
            refine TL_v rfl rfl rfl (V_pick (b := false) rfl rfl) ?_
            refine TL_v rfl rfl rfl (V_assign rfl) ?_
            refine TL_nil ?_
            refine TX_next ?_
            refine TC.sub (m' := [(10, vb false)]) ⟨rfl, trivial⟩ ?_
            refine TC_ret ?_
            have hrv := Option.some.inj H
            subst hrv
            exact TX_ret (rs := [.tmp 10]) (vs := [vb false]) rfl ⟨rfl, trivial⟩ (fun w' hs' => ⟨(), rfl, Step.left (Step.pulled (is := []) (A := []) hs' rfl)⟩)
        · intro hJ
          replace H := Hj
          refine TC_cond (b := wide) rfl (fun hc => ?_) (fun hc => ?_)
          · replace H := ite_t hc H
            refine TC_region ?_
            refine TL_v rfl rfl rfl (V_assign rfl) ?_
            refine TL_nil ?_
            refine TX.sub (m' := [(1, vs key), (2, vs label), (3, vs context), (4, vi size), (11, vi 384)]) ⟨rfl, rfl, rfl, rfl, rfl, trivial⟩ ?_
            refine TX.pull (is := []) (L' := []) rfl ?_
            obtain rfl := Option.some.inj H
            exact hJ ()
          · replace H := ite_f (Bool.eq_false_iff.1 hc) H
            refine TC_skip ?_
            refine TX.sub (m' := [(1, vs key), (2, vs label), (3, vs context), (4, vi size), (11, vi 256)]) ⟨rfl, rfl, rfl, rfl, rfl, trivial⟩ ?_
            refine TX.pull (is := []) (L' := []) rfl ?_
            obtain rfl := Option.some.inj H
            exact hJ ()

end Go.Proofs
end

section
namespace Go.Proofs
open Go Go.Kx
set_option linter.unusedVariables false
set_option linter.unusedSimpArgs false
def halberdlaw3_Hkdfs (bits : Int) (key : Str) (s_ : Str) (label : Str) (size : Int) : Option (Bool) :=
  (hkdf_Hmac bits key s_).bind fun (r_1 : Str × Int) => ((halberdref1_Hmac bits key s_).bind fun (r_2 : Str × Int) => ((hkdf_Extract bits key s_).bind fun (r_3 : Str × Int) => ((hkdf_Expand bits key s_ size).bind fun (r_4 : Str × Int) => ((halberdref1_Expand bits key s_ size).bind fun (r_5 : Str × Int) => ((hkdf_Label bits key label s_ size).bind fun (r_6 : Str × Int) => ((halberdref1_Label bits key label s_ size).bind fun (r_7 : Str × Int) => (if r_1.1 = r_2.1 then ((halberdlaw0_Num r_1.2).bind fun (r_8 : Int) => (if r_8 = r_2.2 then (if r_3.1 = r_2.1 then ((halberdlaw0_Num r_3.2).bind fun (r_9 : Int) => (if r_9 = r_2.2 then (if r_4.1 = r_5.1 then ((halberdlaw0_Num r_4.2).bind fun (r_10 : Int) => (if r_10 = r_5.2 then (if r_6.1 = r_7.1 then ((halberdlaw0_Num r_6.2).bind fun (r_11 : Int) => (if r_11 = r_7.2 then ((halberdlaw3_awake).bind fun (r_12 : Bool) => (some r_12)) else (some false))) else (some false)) else (some false))) else (some false)) else (some false))) else (some false)) else (some false))) else (some false))))))))

set_option maxHeartbeats 4000000 in
set_option maxRecDepth 20000 in
theorem F20_calls (bits : Int) (key : Str) (s_ : Str) (label : Str) (size : Int) (r : Bool) (H : halberdlaw3_Hkdfs bits key s_ label size = some r) :
    Does Try.prog 20 [vi bits, vs key, vs s_, vs label, vi size] [] [] (Γ := Unit) (fun g => vb r) (fun g => []) := by
  intro w hmem hro hd
  refine calls_of (N := 125) (m0 := [(0, vi bits), (1, vs key), (2, vs s_), (3, vs label), (4, vi size)]) Try.func20 rfl Try.ntmps20 (argM_ok [vi bits, vs key, vs s_, vs label, vi size]) rfl hmem hro hd ?_
  unfold halberdlaw3_Hkdfs at H
  refine TC_seq ?_
  refine TC_region ?_
  refine TL_v rfl rfl rfl (V_assign rfl) ?_
  refine TL_nil ?_
  refine TX_next ?_
  refine TC_seq ?_
  refine TC_region ?_
  refine TL_v rfl rfl rfl (V_move rfl) ?_
  refine TL_v rfl rfl rfl (V_move rfl) ?_
  refine TL_v rfl rfl rfl (V_move rfl) ?_
  obtain ⟨r_1, hr_1, H⟩ := bind_elim H
  refine TL_e rfl rfl rfl (E_call (Γ := Unit) (val := fun g => Value.tuple [vs r_1.1, vi r_1.2].toArray) (mem := fun g => []) (vs := [vi bits, vs key, vs s_]) (Lin := []) (Ro := []) (is := []) rfl Try.call45 (F45_calls bits key s_ r_1 hr_1) rfl trivial) (fun g_1 => ?_)
  refine TL_v rfl rfl rfl (V_move rfl) ?_
  refine TL_v rfl rfl rfl (V_extract (vs := [vs r_1.1, vi r_1.2]) rfl rfl) ?_
  refine TL_v rfl rfl rfl (V_extract (vs := [vs r_1.1, vi r_1.2]) rfl rfl) ?_
  refine TL_v rfl rfl rfl (V_assign rfl) ?_
  refine TL_v rfl rfl rfl (V_assign rfl) ?_
  refine TL_nil ?_
  refine TX_next ?_
  refine TC_seq ?_
  refine TC_region ?_
  refine TL_v rfl rfl rfl (V_move rfl) ?_
  refine TL_v rfl rfl rfl (V_move rfl) ?_
  refine TL_v rfl rfl rfl (V_move rfl) ?_
  obtain ⟨r_2, hr_2, H⟩ := bind_elim H
  refine TL_e rfl rfl rfl (E_call (Γ := Unit) (val := fun g => Value.tuple [vs r_2.1, vi r_2.2].toArray) (mem := fun g => []) (vs := [vi bits, vs key, vs s_]) (Lin := []) (Ro := []) (is := []) rfl Try.call46 (F46_calls bits key s_ r_2 hr_2) rfl trivial) (fun g_2 => ?_)
  refine TL_v rfl rfl rfl (V_move rfl) ?_
  refine TL_v rfl rfl rfl (V_extract (vs := [vs r_2.1, vi r_2.2]) rfl rfl) ?_
  refine TL_v rfl rfl rfl (V_extract (vs := [vs r_2.1, vi r_2.2]) rfl rfl) ?_
  refine TL_v rfl rfl rfl (V_assign rfl) ?_
  refine TL_v rfl rfl rfl (V_assign rfl) ?_
  refine TL_nil ?_
  refine TX_next ?_
  refine TC_seq ?_
  refine TC_region ?_
  refine TL_v rfl rfl rfl (V_move rfl) ?_
  refine TL_v rfl rfl rfl (V_move rfl) ?_
  refine TL_v rfl rfl rfl (V_move rfl) ?_
  obtain ⟨r_3, hr_3, H⟩ := bind_elim H
  refine TL_e rfl rfl rfl (E_call (Γ := Unit) (val := fun g => Value.tuple [vs r_3.1, vi r_3.2].toArray) (mem := fun g => []) (vs := [vi bits, vs key, vs s_]) (Lin := []) (Ro := []) (is := []) rfl Try.call47 (F47_calls bits key s_ r_3 hr_3) rfl trivial) (fun g_3 => ?_)
  refine TL_v rfl rfl rfl (V_move rfl) ?_
  refine TL_v rfl rfl rfl (V_extract (vs := [vs r_3.1, vi r_3.2]) rfl rfl) ?_
  refine TL_v rfl rfl rfl (V_extract (vs := [vs r_3.1, vi r_3.2]) rfl rfl) ?_
  refine TL_v rfl rfl rfl (V_assign rfl) ?_
  refine TL_v rfl rfl rfl (V_assign rfl) ?_
  refine TL_nil ?_
  refine TX_next ?_
  refine TC.sub (m' := [(0, vi bits), (1, vs key), (2, vs s_), (3, vs label), (4, vi size), (11, vs r_1.1), (12, vi r_1.2), (13, vs r_2.1), (14, vi r_2.2), (15, vs r_3.1), (16, vi r_3.2)]) ⟨rfl, rfl, rfl, rfl, rfl, rfl, rfl, rfl, rfl, rfl, rfl, trivial⟩ ?_
  refine TC_seq ?_
  refine TC_region ?_
  refine TL_v rfl rfl rfl (V_move rfl) ?_
  refine TL_v rfl rfl rfl (V_move rfl) ?_
  refine TL_v rfl rfl rfl (V_move rfl) ?_
  refine TL_v rfl rfl rfl (V_move rfl) ?_
  obtain ⟨r_4, hr_4, H⟩ := bind_elim H
  refine TL_e rfl rfl rfl (E_call (Γ := Unit) (val := fun g => Value.tuple [vs r_4.1, vi r_4.2].toArray) (mem := fun g => []) (vs := [vi bits, vs key, vs s_, vi size]) (Lin := []) (Ro := []) (is := []) rfl Try.call43 (F43_calls bits key s_ size r_4 hr_4) rfl trivial) (fun g_4 => ?_)
  refine TL_v rfl rfl rfl (V_move rfl) ?_
  refine TL_v rfl rfl rfl (V_extract (vs := [vs r_4.1, vi r_4.2]) rfl rfl) ?_
  refine TL_v rfl rfl rfl (V_extract (vs := [vs r_4.1, vi r_4.2]) rfl rfl) ?_
  refine TL_v rfl rfl rfl (V_assign rfl) ?_
  refine TL_v rfl rfl rfl (V_assign rfl) ?_
  refine TL_nil ?_
  refine TX_next ?_
  refine TC_seq ?_
  refine TC_region ?_
  refine TL_v rfl rfl rfl (V_move rfl) ?_
  refine TL_v rfl rfl rfl (V_move rfl) ?_
  refine TL_v rfl rfl rfl (V_move rfl) ?_
  refine TL_v rfl rfl rfl (V_move rfl) ?_
  obtain ⟨r_5, hr_5, H⟩ := bind_elim H
  refine TL_e rfl rfl rfl (E_call (Γ := Unit) (val := fun g => Value.tuple [vs r_5.1, vi r_5.2].toArray) (mem := fun g => []) (vs := [vi bits, vs key, vs s_, vi size]) (Lin := []) (Ro := []) (is := []) rfl Try.call48 (F48_calls bits key s_ size r_5 hr_5) rfl trivial) (fun g_5 => ?_)
  refine TL_v rfl rfl rfl (V_move rfl) ?_
  refine TL_v rfl rfl rfl (V_extract (vs := [vs r_5.1, vi r_5.2]) rfl rfl) ?_
  refine TL_v rfl rfl rfl (V_extract (vs := [vs r_5.1, vi r_5.2]) rfl rfl) ?_
  refine TL_v rfl rfl rfl (V_assign rfl) ?_
  refine TL_v rfl rfl rfl (V_assign rfl) ?_
  refine TL_nil ?_
  refine TX_next ?_
  refine TC.sub (m' := [(0, vi bits), (1, vs key), (2, vs s_), (3, vs label), (4, vi size), (11, vs r_1.1), (12, vi r_1.2), (13, vs r_2.1), (14, vi r_2.2), (15, vs r_3.1), (16, vi r_3.2), (17, vs r_4.1), (18, vi r_4.2), (19, vs r_5.1), (20, vi r_5.2)]) ⟨rfl, rfl, rfl, rfl, rfl, rfl, rfl, rfl, rfl, rfl, rfl, rfl, rfl, rfl, rfl, trivial⟩ ?_
  refine TC_seq ?_
  refine TC_region ?_
  refine TL_v rfl rfl rfl (V_move rfl) ?_
  refine TL_v rfl rfl rfl (V_move rfl) ?_
  refine TL_v rfl rfl rfl (V_move rfl) ?_
  refine TL_v rfl rfl rfl (V_move rfl) ?_
  refine TL_v rfl rfl rfl (V_move rfl) ?_
  obtain ⟨r_6, hr_6, H⟩ := bind_elim H
  refine TL_e rfl rfl rfl (E_call (Γ := Unit) (val := fun g => Value.tuple [vs r_6.1, vi r_6.2].toArray) (mem := fun g => []) (vs := [vi bits, vs key, vs label, vs s_, vi size]) (Lin := []) (Ro := []) (is := []) rfl Try.call44 (F44_calls bits key label s_ size r_6 hr_6) rfl trivial) (fun g_6 => ?_)
  refine TL_v rfl rfl rfl (V_move rfl) ?_
  refine TL_v rfl rfl rfl (V_extract (vs := [vs r_6.1, vi r_6.2]) rfl rfl) ?_
  refine TL_v rfl rfl rfl (V_extract (vs := [vs r_6.1, vi r_6.2]) rfl rfl) ?_
  refine TL_v rfl rfl rfl (V_assign rfl) ?_
  refine TL_v rfl rfl rfl (V_assign rfl) ?_
  refine TL_nil ?_
  refine TX_next ?_
  refine TC_seq ?_
  refine TC_region ?_
  refine TL_v rfl rfl rfl (V_move rfl) ?_
  refine TL_v rfl rfl rfl (V_move rfl) ?_
  refine TL_v rfl rfl rfl (V_move rfl) ?_
  refine TL_v rfl rfl rfl (V_move rfl) ?_
  refine TL_v rfl rfl rfl (V_move rfl) ?_
  obtain ⟨r_7, hr_7, H⟩ := bind_elim H
  refine TL_e rfl rfl rfl (E_call (Γ := Unit) (val := fun g => Value.tuple [vs r_7.1, vi r_7.2].toArray) (mem := fun g => []) (vs := [vi bits, vs key, vs label, vs s_, vi size]) (Lin := []) (Ro := []) (is := []) rfl Try.call49 (F49_calls bits key label s_ size r_7 hr_7) rfl trivial) (fun g_7 => ?_)
  refine TL_v rfl rfl rfl (V_move rfl) ?_
  refine TL_v rfl rfl rfl (V_extract (vs := [vs r_7.1, vi r_7.2]) rfl rfl) ?_
  refine TL_v rfl rfl rfl (V_extract (vs := [vs r_7.1, vi r_7.2]) rfl rfl) ?_
  refine TL_v rfl rfl rfl (V_assign rfl) ?_
  refine TL_v rfl rfl rfl (V_assign rfl) ?_
  refine TL_nil ?_
  refine TX_next ?_
  refine TC.sub (m' := [(11, vs r_1.1), (12, vi r_1.2), (13, vs r_2.1), (14, vi r_2.2), (15, vs r_3.1), (16, vi r_3.2), (17, vs r_4.1), (18, vi r_4.2), (19, vs r_5.1), (20, vi r_5.2), (21, vs r_6.1), (22, vi r_6.2), (23, vs r_7.1), (24, vi r_7.2)]) ⟨rfl, rfl, rfl, rfl, rfl, rfl, rfl, rfl, rfl, rfl, rfl, rfl, rfl, rfl, trivial⟩ ?_
  refine TC_seq ?_
  refine TC_region ?_
  refine TL_v rfl rfl rfl (V_move rfl) ?_
  refine TL_v rfl rfl rfl (V_move rfl) ?_
  refine TL_v rfl rfl rfl (V_bin rfl rfl (fun w => eqlS w r_1.1 r_2.1)) ?_
  refine TL_v rfl rfl rfl (V_move rfl) ?_
  refine TL_fork (d := 83) (b := (decide (r_1.1 = r_2.1))) rfl (fun hc => ?_) (fun hc => ?_)
  · replace H := ite_t (of_decide_eq_true hc) H
    refine TL_want rfl rfl rfl rfl rfl rfl (V_move rfl) ?_
    obtain ⟨r_8, hr_8, H⟩ := bind_elim H
    refine TL_wantE rfl rfl rfl rfl rfl rfl (E_call (Γ := Unit) (val := fun g => vi r_8) (mem := fun g => []) (vs := [vi r_1.2]) (Lin := []) (Ro := []) (is := []) rfl Try.call25 (F25_calls r_1.2 r_8 hr_8) rfl trivial) (fun g_8 => ?_)
    refine TL_want rfl rfl rfl rfl rfl rfl (V_move rfl) ?_
    refine TL_want rfl rfl rfl rfl rfl rfl (V_bin rfl rfl (fun w => eqlI w r_8 r_2.2)) ?_
    refine TL_v rfl rfl rfl (V_pick (b := true) rfl rfl) ?_
    refine TL_v rfl rfl rfl (V_move rfl) ?_
    refine TL_fork (d := 89) (b := (decide (r_8 = r_2.2))) rfl (fun hc => ?_) (fun hc => ?_)
    · replace H := ite_t (of_decide_eq_true hc) H
      refine TL_want rfl rfl rfl rfl rfl rfl (V_move rfl) ?_
      refine TL_want rfl rfl rfl rfl rfl rfl (V_move rfl) ?_
      refine TL_want rfl rfl rfl rfl rfl rfl (V_bin rfl rfl (fun w => eqlS w r_3.1 r_2.1)) ?_
      refine TL_v rfl rfl rfl (V_pick (b := true) rfl rfl) ?_
      refine TL_v rfl rfl rfl (V_move rfl) ?_
      refine TL_fork (d := 94) (b := (decide (r_3.1 = r_2.1))) rfl (fun hc => ?_) (fun hc => ?_)
      · replace H := ite_t (of_decide_eq_true hc) H
        refine TL_want rfl rfl rfl rfl rfl rfl (V_move rfl) ?_
        obtain ⟨r_9, hr_9, H⟩ := bind_elim H
        refine TL_wantE rfl rfl rfl rfl rfl rfl (E_call (Γ := Unit) (val := fun g => vi r_9) (mem := fun g => []) (vs := [vi r_3.2]) (Lin := []) (Ro := []) (is := []) rfl Try.call25 (F25_calls r_3.2 r_9 hr_9) rfl trivial) (fun g_9 => ?_)
        refine TL_want rfl rfl rfl rfl rfl rfl (V_move rfl) ?_
        refine TL_want rfl rfl rfl rfl rfl rfl (V_bin rfl rfl (fun w => eqlI w r_9 r_2.2)) ?_
        refine TL_v rfl rfl rfl (V_pick (b := true) rfl rfl) ?_
        refine TL_v rfl rfl rfl (V_move rfl) ?_
        refine TL_fork (d := 100) (b := (decide (r_9 = r_2.2))) rfl (fun hc => ?_) (fun hc => ?_)
        · replace H := ite_t (of_decide_eq_true hc) H
          refine TL_want rfl rfl rfl rfl rfl rfl (V_move rfl) ?_
          refine TL_want rfl rfl rfl rfl rfl rfl (V_move rfl) ?_
          refine TL_want rfl rfl rfl rfl rfl rfl (V_bin rfl rfl (fun w => eqlS w r_4.1 r_5.1)) ?_
          refine TL_v rfl rfl rfl (V_pick (b := true) rfl rfl) ?_
          refine TL_v rfl rfl rfl (V_move rfl) ?_
          refine TL_fork (d := 105) (b := (decide (r_4.1 = r_5.1))) rfl (fun hc => ?_) (fun hc => ?_)
          · replace H := ite_t (of_decide_eq_true hc) H
            refine TL_want rfl rfl rfl rfl rfl rfl (V_move rfl) ?_
            obtain ⟨r_10, hr_10, H⟩ := bind_elim H
            refine TL_wantE rfl rfl rfl rfl rfl rfl (E_call (Γ := Unit) (val := fun g => vi r_10) (mem := fun g => []) (vs := [vi r_4.2]) (Lin := []) (Ro := []) (is := []) rfl Try.call25 (F25_calls r_4.2 r_10 hr_10) rfl trivial) (fun g_10 => ?_)
            refine TL_want rfl rfl rfl rfl rfl rfl (V_move rfl) ?_
            refine TL_want rfl rfl rfl rfl rfl rfl (V_bin rfl rfl (fun w => eqlI w r_10 r_5.2)) ?_
            refine TL_v rfl rfl rfl (V_pick (b := true) rfl rfl) ?_
            refine TL_v rfl rfl rfl (V_move rfl) ?_
            refine TL_fork (d := 111) (b := (decide (r_10 = r_5.2))) rfl (fun hc => ?_) (fun hc => ?_)
            · replace H := ite_t (of_decide_eq_true hc) H
              refine TL_want rfl rfl rfl rfl rfl rfl (V_move rfl) ?_
              refine TL_want rfl rfl rfl rfl rfl rfl (V_move rfl) ?_
              refine TL_want rfl rfl rfl rfl rfl rfl (V_bin rfl rfl (fun w => eqlS w r_6.1 r_7.1)) ?_
              refine TL_v rfl rfl rfl (V_pick (b := true) rfl rfl) ?_
              refine TL_v rfl rfl rfl (V_move rfl) ?_
              refine TL_fork (d := 116) (b := (decide (r_6.1 = r_7.1))) rfl (fun hc => ?_) (fun hc => ?_)
              · replace H := ite_t (of_decide_eq_true hc) H
                refine TL_want rfl rfl rfl rfl rfl rfl (V_move rfl) ?_
                obtain ⟨r_11, hr_11, H⟩ := bind_elim H
                refine TL_wantE rfl rfl rfl rfl rfl rfl (E_call (Γ := Unit) (val := fun g => vi r_11) (mem := fun g => []) (vs := [vi r_6.2]) (Lin := []) (Ro := []) (is := []) rfl Try.call25 (F25_calls r_6.2 r_11 hr_11) rfl trivial) (fun g_11 => ?_)
                refine TL_want rfl rfl rfl rfl rfl rfl (V_move rfl) ?_
                refine TL_want rfl rfl rfl rfl rfl rfl (V_bin rfl rfl (fun w => eqlI w r_11 r_7.2)) ?_
                refine TL_v rfl rfl rfl (V_pick (b := true) rfl rfl) ?_
                refine TL_v rfl rfl rfl (V_move rfl) ?_
                refine TL_fork (d := 122) (b := (decide (r_11 = r_7.2))) rfl (fun hc => ?_) (fun hc => ?_)
                · replace H := ite_t (of_decide_eq_true hc) H
                  obtain ⟨r_12, hr_12, H⟩ := bind_elim H
                  refine TL_wantE rfl rfl rfl rfl rfl rfl (E_call (Γ := Unit) (val := fun g => vb r_12) (mem := fun g => []) (vs := []) (Lin := []) (Ro := []) (is := []) rfl Try.call42 (F42_calls r_12 hr_12) rfl trivial) (fun g_12 => ?_)
                  refine TL_v rfl rfl rfl (V_pick (b := true) rfl rfl) ?_
                  refine TL_v rfl rfl rfl (V_assign rfl) ?_
                  refine TL_nil ?_
                  refine TX_next ?_
                  refine TC.sub (m' := [(10, vb r_12)]) ⟨rfl, trivial⟩ ?_
                  refine TC_ret ?_
                  have hrv := Option.some.inj H
                  subst hrv
                  exact TX_ret (rs := [.tmp 10]) (vs := [vb r_12]) rfl ⟨rfl, trivial⟩ (fun w' hs' => ⟨(), rfl, Step.left (Step.pulled (is := []) (A := []) hs' rfl)⟩)
                · replace H := ite_f (of_decide_eq_false hc) H
                  refine TL_skip rfl rfl rfl rfl rfl rfl rfl ?_
                  refine TL_v rfl rfl rfl (V_pick (b := false) rfl rfl) ?_
                  refine TL_v rfl rfl rfl (V_assign rfl) ?_
                  refine TL_nil ?_
                  refine TX_next ?_
                  refine TC.sub (m' := [(10, vb false)]) ⟨rfl, trivial⟩ ?_
                  refine TC_ret ?_
                  have hrv := Option.some.inj H
                  subst hrv
                  exact TX_ret (rs := [.tmp 10]) (vs := [vb false]) rfl ⟨rfl, trivial⟩ (fun w' hs' => ⟨(), rfl, Step.left (Step.pulled (is := []) (A := []) hs' rfl)⟩)
              · replace H := ite_f (of_decide_eq_false hc) H
                refine TL_skip rfl rfl rfl rfl rfl rfl rfl ?_
                refine TL_skip rfl rfl rfl rfl rfl rfl rfl ?_
                refine TL_skip rfl rfl rfl rfl rfl rfl rfl ?_
                refine TL_skip rfl rfl rfl rfl rfl rfl rfl ?_
                refine TL_v rfl rfl rfl (V_pick (b := false) rfl rfl) ?_
                refine TL_v rfl rfl rfl (V_move rfl) ?_
                refine TL_skip rfl rfl rfl rfl rfl rfl rfl ?_
                refine TL_v rfl rfl rfl (V_pick (b := false) rfl rfl) ?_
                refine TL_v rfl rfl rfl (V_assign rfl) ?_
                refine TL_nil ?_
                refine TX_next ?_
                refine TC.sub (m' := [(10, vb false)]) ⟨rfl, trivial⟩ ?_
                refine TC_ret ?_
                have hrv := Option.some.inj H
                subst hrv
                exact TX_ret (rs := [.tmp 10]) (vs := [vb false]) rfl ⟨rfl, trivial⟩ (fun w' hs' => ⟨(), rfl, Step.left (Step.pulled (is := []) (A := []) hs' rfl)⟩)
            · replace H := ite_f (of_decide_eq_false hc) H
              refine TL_skip rfl rfl rfl rfl rfl rfl rfl ?_
              refine TL_skip rfl rfl rfl rfl rfl rfl rfl ?_
              refine TL_skip rfl rfl rfl rfl rfl rfl rfl ?_
              refine TL_v rfl rfl rfl (V_pick (b := false) rfl rfl) ?_
              refine TL_v rfl rfl rfl (V_move rfl) ?_
              refine TL_skip rfl rfl rfl rfl rfl rfl rfl ?_
              refine TL_skip rfl rfl rfl rfl rfl rfl rfl ?_
              refine TL_skip rfl rfl rfl rfl rfl rfl rfl ?_
              refine TL_skip rfl rfl rfl rfl rfl rfl rfl ?_
              refine TL_v rfl rfl rfl (V_pick (b := false) rfl rfl) ?_
              refine TL_v rfl rfl rfl (V_move rfl) ?_
              refine TL_skip rfl rfl rfl rfl rfl rfl rfl ?_
              refine TL_v rfl rfl rfl (V_pick (b := false) rfl rfl) ?_
              refine TL_v rfl rfl rfl (V_assign rfl) ?_
              refine TL_nil ?_
              refine TX_next ?_
              refine TC.sub (m' := [(10, vb false)]) ⟨rfl, trivial⟩ ?_
              refine TC_ret ?_
              have hrv := Option.some.inj H
              subst hrv
              exact TX_ret (rs := [.tmp 10]) (vs := [vb false]) rfl ⟨rfl, trivial⟩ (fun w' hs' => ⟨(), rfl, Step.left (Step.pulled (is := []) (A := []) hs' rfl)⟩)
          · replace H := ite_f (of_decide_eq_false hc) H
            refine TL_skip rfl rfl rfl rfl rfl rfl rfl ?_
            refine TL_skip rfl rfl rfl rfl rfl rfl rfl ?_
            refine TL_skip rfl rfl rfl rfl rfl rfl rfl ?_
            refine TL_skip rfl rfl rfl rfl rfl rfl rfl ?_
            refine TL_v rfl rfl rfl (V_pick (b := false) rfl rfl) ?_
            refine TL_v rfl rfl rfl (V_move rfl) ?_
            refine TL_skip rfl rfl rfl rfl rfl rfl rfl ?_
            refine TL_skip rfl rfl rfl rfl rfl rfl rfl ?_
            refine TL_skip rfl rfl rfl rfl rfl rfl rfl ?_
            refine TL_v rfl rfl rfl (V_pick (b := false) rfl rfl) ?_
            refine TL_v rfl rfl rfl (V_move rfl) ?_
            refine TL_skip rfl rfl rfl rfl rfl rfl rfl ?_
            refine TL_skip rfl rfl rfl rfl rfl rfl rfl ?_
            refine TL_skip rfl rfl rfl rfl rfl rfl rfl ?_
            refine TL_skip rfl rfl rfl rfl rfl rfl rfl ?_
            refine TL_v rfl rfl rfl (V_pick (b := false) rfl rfl) ?_
            refine TL_v rfl rfl rfl (V_move rfl) ?_
            refine TL_skip rfl rfl rfl rfl rfl rfl rfl ?_
            refine TL_v rfl rfl rfl (V_pick (b := false) rfl rfl) ?_
            refine TL_v rfl rfl rfl (V_assign rfl) ?_
            refine TL_nil ?_
            refine TX_next ?_
            refine TC.sub (m' := [(10, vb false)]) ⟨rfl, trivial⟩ ?_
            refine TC_ret ?_
            have hrv := Option.some.inj H
            subst hrv
            exact TX_ret (rs := [.tmp 10]) (vs := [vb false]) rfl ⟨rfl, trivial⟩ (fun w' hs' => ⟨(), rfl, Step.left (Step.pulled (is := []) (A := []) hs' rfl)⟩)
        · replace H := ite_f (of_decide_eq_false hc) H
          refine TL_skip rfl rfl rfl rfl rfl rfl rfl ?_
          refine TL_skip rfl rfl rfl rfl rfl rfl rfl ?_
          refine TL_skip rfl rfl rfl rfl rfl rfl rfl ?_
          refine TL_v rfl rfl rfl (V_pick (b := false) rfl rfl) ?_
          refine TL_v rfl rfl rfl (V_move rfl) ?_
          refine TL_skip rfl rfl rfl rfl rfl rfl rfl ?_
          refine TL_skip rfl rfl rfl rfl rfl rfl rfl ?_
          refine TL_skip rfl rfl rfl rfl rfl rfl rfl ?_
          refine TL_skip rfl rfl rfl rfl rfl rfl rfl ?_
          refine TL_v rfl rfl rfl (V_pick (b := false) rfl rfl) ?_
          refine TL_v rfl rfl rfl (V_move rfl) ?_
          refine TL_skip rfl rfl rfl rfl rfl rfl rfl ?_
          refine TL_skip rfl rfl rfl rfl rfl rfl rfl ?_
          refine TL_skip rfl rfl rfl rfl rfl rfl rfl ?_
          refine TL_v rfl rfl rfl (V_pick (b := false) rfl rfl) ?_
          refine TL_v rfl rfl rfl (V_move rfl) ?_
          refine TL_skip rfl rfl rfl rfl rfl rfl rfl ?_
          refine TL_skip rfl rfl rfl rfl rfl rfl rfl ?_
          refine TL_skip rfl rfl rfl rfl rfl rfl rfl ?_
          refine TL_skip rfl rfl rfl rfl rfl rfl rfl ?_
          refine TL_v rfl rfl rfl (V_pick (b := false) rfl rfl) ?_
          refine TL_v rfl rfl rfl (V_move rfl) ?_
          refine TL_skip rfl rfl rfl rfl rfl rfl rfl ?_
          refine TL_v rfl rfl rfl (V_pick (b := false) rfl rfl) ?_
          refine TL_v rfl rfl rfl (V_assign rfl) ?_
          refine TL_nil ?_
          refine TX_next ?_
          refine TC.sub (m' := [(10, vb false)]) ⟨rfl, trivial⟩ ?_
          refine TC_ret ?_
          have hrv := Option.some.inj H
          subst hrv
          exact TX_ret (rs := [.tmp 10]) (vs := [vb false]) rfl ⟨rfl, trivial⟩ (fun w' hs' => ⟨(), rfl, Step.left (Step.pulled (is := []) (A := []) hs' rfl)⟩)
      · replace H := ite_f (of_decide_eq_false hc) H
        refine TL_skip rfl rfl rfl rfl rfl rfl rfl ?_
        refine TL_skip rfl rfl rfl rfl rfl rfl rfl ?_
        refine TL_skip rfl rfl rfl rfl rfl rfl rfl ?_
        refine TL_skip rfl rfl rfl rfl rfl rfl rfl ?_
        refine TL_v rfl rfl rfl (V_pick (b := false) rfl rfl) ?_
        refine TL_v rfl rfl rfl (V_move rfl) ?_
        refine TL_skip rfl rfl rfl rfl rfl rfl rfl ?_
        refine TL_skip rfl rfl rfl rfl rfl rfl rfl ?_
        refine TL_skip rfl rfl rfl rfl rfl rfl rfl ?_
        refine TL_v rfl rfl rfl (V_pick (b := false) rfl rfl) ?_
        refine TL_v rfl rfl rfl (V_move rfl) ?_
        refine TL_skip rfl rfl rfl rfl rfl rfl rfl ?_
        refine TL_skip rfl rfl rfl rfl rfl rfl rfl ?_
        refine TL_skip rfl rfl rfl rfl rfl rfl rfl ?_
        refine TL_skip rfl rfl rfl rfl rfl rfl rfl ?_
        refine TL_v rfl rfl rfl (V_pick (b := false) rfl rfl) ?_
        refine TL_v rfl rfl rfl (V_move rfl) ?_
        refine TL_skip rfl rfl rfl rfl rfl rfl rfl ?_
        refine TL_skip rfl rfl rfl rfl rfl rfl rfl ?_
        refine TL_skip rfl rfl rfl rfl rfl rfl rfl ?_
        refine TL_v rfl rfl rfl (V_pick (b := false) rfl rfl) ?_
        refine TL_v rfl rfl rfl (V_move rfl) ?_
        refine TL_skip rfl rfl rfl rfl rfl rfl rfl ?_
        refine TL_skip rfl rfl rfl rfl rfl rfl rfl ?_
        refine TL_skip rfl rfl rfl rfl rfl rfl rfl ?_
        refine TL_skip rfl rfl rfl rfl rfl rfl rfl ?_
        refine TL_v rfl rfl rfl (V_pick (b := false) rfl rfl) ?_
        refine TL_v rfl rfl rfl (V_move rfl) ?_
        refine TL_skip rfl rfl rfl rfl rfl rfl rfl ?_
        refine TL_v rfl rfl rfl (V_pick (b := false) rfl rfl) ?_
        refine TL_v rfl rfl rfl (V_assign rfl) ?_
        refine TL_nil ?_
        refine TX_next ?_
        refine TC.sub (m' := [(10, vb false)]) ⟨rfl, trivial⟩ ?_
        refine TC_ret ?_
        have hrv := Option.some.inj H
        subst hrv
        exact TX_ret (rs := [.tmp 10]) (vs := [vb false]) rfl ⟨rfl, trivial⟩ (fun w' hs' => ⟨(), rfl, Step.left (Step.pulled (is := []) (A := []) hs' rfl)⟩)
    · replace H := ite_f (of_decide_eq_false hc) H
      refine TL_skip rfl rfl rfl rfl rfl rfl rfl ?_
      refine TL_skip rfl rfl rfl rfl rfl rfl rfl ?_
      refine TL_skip rfl rfl rfl rfl rfl rfl rfl ?_
      refine TL_v rfl rfl rfl (V_pick (b := false) rfl rfl) ?_
      refine TL_v rfl rfl rfl (V_move rfl) ?_
      refine TL_skip rfl rfl rfl rfl rfl rfl rfl ?_
      refine TL_skip rfl rfl rfl rfl rfl rfl rfl ?_
      refine TL_skip rfl rfl rfl rfl rfl rfl rfl ?_
      refine TL_skip rfl rfl rfl rfl rfl rfl rfl ?_
      refine TL_v rfl rfl rfl (V_pick (b := false) rfl rfl) ?_
      refine TL_v rfl rfl rfl (V_move rfl) ?_
      refine TL_skip rfl rfl rfl rfl rfl rfl rfl ?_
      refine TL_skip rfl rfl rfl rfl rfl rfl rfl ?_
      refine TL_skip rfl rfl rfl rfl rfl rfl rfl ?_
      refine TL_v rfl rfl rfl (V_pick (b := false) rfl rfl) ?_
      refine TL_v rfl rfl rfl (V_move rfl) ?_
      refine TL_skip rfl rfl rfl rfl rfl rfl rfl ?_
      refine TL_skip rfl rfl rfl rfl rfl rfl rfl ?_
      refine TL_skip rfl rfl rfl rfl rfl rfl rfl ?_
      refine TL_skip rfl rfl rfl rfl rfl rfl rfl ?_
      refine TL_v rfl rfl rfl (V_pick (b := false) rfl rfl) ?_
      refine TL_v rfl rfl rfl (V_move rfl) ?_
      refine TL_skip rfl rfl rfl rfl rfl rfl rfl ?_
      refine TL_skip rfl rfl rfl rfl rfl rfl rfl ?_
      refine TL_skip rfl rfl rfl rfl rfl rfl rfl ?_
      refine TL_v rfl rfl rfl (V_pick (b := false) rfl rfl) ?_
      refine TL_v rfl rfl rfl (V_move rfl) ?_
      refine TL_skip rfl rfl rfl rfl rfl rfl rfl ?_
      refine TL_skip rfl rfl rfl rfl rfl rfl rfl ?_
      refine TL_skip rfl rfl rfl rfl rfl rfl rfl ?_
      refine TL_skip rfl rfl rfl rfl rfl rfl rfl ?_
      refine TL_v rfl rfl rfl (V_pick (b := false) rfl rfl) ?_
      refine TL_v rfl rfl rfl (V_move rfl) ?_
      refine TL_skip rfl rfl rfl rfl rfl rfl rfl ?_
      refine TL_v rfl rfl rfl (V_pick (b := false) rfl rfl) ?_
      refine TL_v rfl rfl rfl (V_assign rfl) ?_
      refine TL_nil ?_
      refine TX_next ?_
      refine TC.sub (m' := [(10, vb false)]) ⟨rfl, trivial⟩ ?_
      refine TC_ret ?_
      have hrv := Option.some.inj H
      subst hrv
      exact TX_ret (rs := [.tmp 10]) (vs := [vb false]) rfl ⟨rfl, trivial⟩ (fun w' hs' => ⟨(), rfl, Step.left (Step.pulled (is := []) (A := []) hs' rfl)⟩)
  · replace H := ite_f (of_decide_eq_false hc) H
    refine TL_skip rfl rfl rfl rfl rfl rfl rfl ?_
    refine TL_skip rfl rfl rfl rfl rfl rfl rfl ?_
    refine TL_skip rfl rfl rfl rfl rfl rfl rfl ?_
    refine TL_skip rfl rfl rfl rfl rfl rfl rfl ?_
    refine TL_v rfl rfl rfl (V_pick (b := false) rfl rfl) ?_
    refine TL_v rfl rfl rfl (V_move rfl) ?_
    refine TL_skip rfl rfl rfl rfl rfl rfl rfl ?_
    refine TL_skip rfl rfl rfl rfl rfl rfl rfl ?_
    refine TL_skip rfl rfl rfl rfl rfl rfl rfl ?_
    refine TL_v rfl rfl rfl (V_pick (b := false) rfl rfl) ?_
    refine TL_v rfl rfl rfl (V_move rfl) ?_
    refine TL_skip rfl rfl rfl rfl rfl rfl rfl ?_
    refine TL_skip rfl rfl rfl rfl rfl rfl rfl ?_
    refine TL_skip rfl rfl rfl rfl rfl rfl rfl ?_
    refine TL_skip rfl rfl rfl rfl rfl rfl rfl ?_
    refine TL_v rfl rfl rfl (V_pick (b := false) rfl rfl) ?_
    refine TL_v rfl rfl rfl (V_move rfl) ?_
    refine TL_skip rfl rfl rfl rfl rfl rfl rfl ?_
    refine TL_skip rfl rfl rfl rfl rfl rfl rfl ?_
    refine TL_skip rfl rfl rfl rfl rfl rfl rfl ?_
    refine TL_v rfl rfl rfl (V_pick (b := false) rfl rfl) ?_
    refine TL_v rfl rfl rfl (V_move rfl) ?_
    refine TL_skip rfl rfl rfl rfl rfl rfl rfl ?_
    refine TL_skip rfl rfl rfl rfl rfl rfl rfl ?_
    refine TL_skip rfl rfl rfl rfl rfl rfl rfl ?_
    refine TL_skip rfl rfl rfl rfl rfl rfl rfl ?_
    refine TL_v rfl rfl rfl (V_pick (b := false) rfl rfl) ?_
    refine TL_v rfl rfl rfl (V_move rfl) ?_
    refine TL_skip rfl rfl rfl rfl rfl rfl rfl ?_
    refine TL_skip rfl rfl rfl rfl rfl rfl rfl ?_
    refine TL_skip rfl rfl rfl rfl rfl rfl rfl ?_
    refine TL_v rfl rfl rfl (V_pick (b := false) rfl rfl) ?_
    refine TL_v rfl rfl rfl (V_move rfl) ?_
    refine TL_skip rfl rfl rfl rfl rfl rfl rfl ?_
    refine TL_skip rfl rfl rfl rfl rfl rfl rfl ?_
    refine TL_skip rfl rfl rfl rfl rfl rfl rfl ?_
    refine TL_skip rfl rfl rfl rfl rfl rfl rfl ?_
    refine TL_v rfl rfl rfl (V_pick (b := false) rfl rfl) ?_
    refine TL_v rfl rfl rfl (V_move rfl) ?_
    refine TL_skip rfl rfl rfl rfl rfl rfl rfl ?_
    refine TL_v rfl rfl rfl (V_pick (b := false) rfl rfl) ?_
    refine TL_v rfl rfl rfl (V_assign rfl) ?_
    refine TL_nil ?_
    refine TX_next ?_
    refine TC.sub (m' := [(10, vb false)]) ⟨rfl, trivial⟩ ?_
    refine TC_ret ?_
    have hrv := Option.some.inj H
    subst hrv
    exact TX_ret (rs := [.tmp 10]) (vs := [vb false]) rfl ⟨rfl, trivial⟩ (fun w' hs' => ⟨(), rfl, Step.left (Step.pulled (is := []) (A := []) hs' rfl)⟩)

end Go.Proofs
end

section
namespace Go.Proofs
open Go Go.Kx
set_option linter.unusedVariables false
set_option linter.unusedSimpArgs false
def halberdlaw3_HkdfKeys (wide : Bool) (key : Str) (s_ : Str) (more : Int) : Option (Bool) :=
  (halberdlaw3_awake).bind fun (r_1 : Bool) => (if (!r_1) = true then (some false) else ((if wide = true then (some (384, 128)) else (some (256, 64))).bind fun (j1 : Int × Int) => (if 0 ≤ j1.2 ∧ j1.2 ≤ 17592186044416 then (if (List.replicate ((j1.2).toNat) 0#8).length = (j1.2).toNat then (if (key).length + (List.replicate ((j1.2).toNat) 0#8).length ≤ 4611686018427387904 then (if (key ++ (List.replicate ((j1.2).toNat) 0#8)).length + (([120#8] : Str)).length ≤ 4611686018427387904 then (ltt ((key ++ (List.replicate ((j1.2).toNat) 0#8)) ++ ([120#8] : Str)) fun (long1 : Str) => ((hkdf_Hmac j1.1 long1 s_).bind fun (r_2 : Str × Int) => ((halberdref1_Hash j1.1 long1).bind fun (r_3 : Str) => ((hkdf_Hmac j1.1 r_3 s_).bind fun (r_4 : Str × Int) => ((if j1.2 < ((key).length : Int) then (if 0 ≤ j1.2 then (if (j1.2).toNat ≤ (key).length then (ltt (sub key 0 ((j1.2).toNat)) fun (short1 : Str) => (some short1)) else none) else none) else (some key)).bind fun (j2 : Str) => ((hkdf_Hmac j1.1 j2 s_).bind fun (r_5 : Str × Int) => (if 0 ≤ w64 ((w64 ((w64 (j1.2 - ((j2).length : Int))) * (iop (· &&& ·) more 3))).tdiv 3) ∧ w64 ((w64 ((w64 (j1.2 - ((j2).length : Int))) * (iop (· &&& ·) more 3))).tdiv 3) ≤ 17592186044416 then (if (List.replicate ((w64 ((w64 ((w64 (j1.2 - ((j2).length : Int))) * (iop (· &&& ·) more 3))).tdiv 3)).toNat) 0#8).length = (w64 ((w64 ((w64 (j1.2 - ((j2).length : Int))) * (iop (· &&& ·) more 3))).tdiv 3)).toNat then (if (j2).length + (List.replicate ((w64 ((w64 ((w64 (j1.2 - ((j2).length : Int))) * (iop (· &&& ·) more 3))).tdiv 3)).toNat) 0#8).length ≤ 4611686018427387904 then ((hkdf_Hmac j1.1 (j2 ++ (List.replicate ((w64 ((w64 ((w64 (j1.2 - ((j2).length : Int))) * (iop (· &&& ·) more 3))).tdiv 3)).toNat) 0#8)) s_).bind fun (r_6 : Str × Int) => ((hkdf_Extract j1.1 key s_).bind fun (r_7 : Str × Int) => ((hkdf_Hmac j1.1 key s_).bind fun (r_8 : Str × Int) => ((halberdlaw0_Num r_2.2).bind fun (r_9 : Int) => (if r_9 = 0 then ((halberdlaw0_Num r_4.2).bind fun (r_10 : Int) => (if r_10 = 0 then (if r_2.1 = r_4.1 then ((halberdlaw0_Num r_5.2).bind fun (r_11 : Int) => (if r_11 = 0 then ((halberdlaw0_Num r_6.2).bind fun (r_12 : Int) => (if r_12 = 0 then (if r_5.1 = r_6.1 then ((halberdlaw0_Num r_7.2).bind fun (r_13 : Int) => (if r_13 = 0 then ((halberdlaw0_Num r_8.2).bind fun (r_14 : Int) => (if r_14 = 0 then (if r_7.1 = r_8.1 then (ltt (decide (((r_7.1).length : Int) = (w64 (j1.1.tdiv 8)))) fun (x1 : Bool) => (some x1)) else (some false)) else (some false))) else (some false))) else (some false)) else (some false))) else (some false))) else (some false)) else (some false))) else (some false)))))) else none) else none) else none))))))) else none) else none) else none) else none)))

set_option maxHeartbeats 4000000 in
set_option maxRecDepth 20000 in
theorem F21_calls (wide : Bool) (key : Str) (s_ : Str) (more : Int) (r : Bool) (H : halberdlaw3_HkdfKeys wide key s_ more = some r) :
    Does Try.prog 21 [vb wide, vs key, vs s_, vi more] [] [] (Γ := Unit) (fun g => vb r) (fun g => []) := by
  intro w hmem hro hd
  refine calls_of (N := 147) (m0 := [(0, vb wide), (1, vs key), (2, vs s_), (3, vi more)]) Try.func21 rfl Try.ntmps21 (argM_ok [vb wide, vs key, vs s_, vi more]) rfl hmem hro hd ?_
  unfold halberdlaw3_HkdfKeys at H
  refine TC_seq ?_
  refine TC_region ?_
  refine TL_v rfl rfl rfl (V_assign rfl) ?_
  refine TL_nil ?_
  refine TX_next ?_
  refine TC_seq ?_
  refine TC_seq ?_
  refine TC_region ?_
  obtain ⟨r_1, hr_1, H⟩ := bind_elim H
  refine TL_e rfl rfl rfl (E_call (Γ := Unit) (val := fun g => vb r_1) (mem := fun g => []) (vs := []) (Lin := []) (Ro := []) (is := []) rfl Try.call42 (F42_calls r_1 hr_1) rfl trivial) (fun g_1 => ?_)
  refine TL_v rfl rfl rfl (V_un rfl (fun w => notB w r_1)) ?_
  refine TL_nil ?_
  refine TX_next ?_
  refine TC_cond (b := (!r_1)) rfl (fun hc => ?_) (fun hc => ?_)
  · replace H := ite_t hc H
    refine TC_seq ?_
    refine TC_region ?_
    refine TL_v rfl rfl rfl (V_assign rfl) ?_
    refine TL_nil ?_
    refine TX_next ?_
    refine TC_ret ?_
    refine TX_then_ret ?_
    have hrv := Option.some.inj H
    subst hrv
    exact TX_ret (rs := [.tmp 8]) (vs := [vb false]) rfl ⟨rfl, trivial⟩ (fun w' hs' => ⟨(), rfl, Step.left (Step.pulled (is := []) (A := []) hs' rfl)⟩)
  · replace H := ite_f (Bool.eq_false_iff.1 hc) H
    refine TC_skip ?_
    refine TX_next ?_
    refine TC_seq ?_
    refine TC_region ?_
    refine TL_v rfl rfl rfl (V_assign rfl) ?_
    refine TL_v rfl rfl rfl (V_assign rfl) ?_
    refine TL_nil ?_
    refine TX_next ?_
    refine TC_seq ?_
    refine TC_seq ?_
    refine TC_region ?_
    refine TL_v rfl rfl rfl (V_move rfl) ?_
    refine TL_nil ?_
    refine TX_next ?_
    obtain ⟨j1, Hj, H⟩ := bind_elim H
    refine TC_join (Γ := Unit) (fun gj1 => [(1, vs key), (2, vs s_), (3, vi more), (9, vi j1.1), (10, vi j1.2)]) (fun gj1 => []) ?_ ?_
    · intro gj1
      refine TX_next ?_
      refine TC_seq ?_
      refine TC_region ?_
      refine TL_v rfl rfl rfl (V_move rfl) ?_
      refine TL_v rfl rfl rfl (V_move rfl) ?_
      obtain ⟨h1, H⟩ := if_elim H
      refine TL_e rfl rfl rfl (E_mk1 rfl rfl Try.underlying30 TryI.inf5 (z := v8 0#8) rfl rfl rfl (B := 1) rfl h1.1 (Int.le_refl _) (by have := h1; omega) (by have := h1; omega) (n' := (j1.2).toNat) (c' := (j1.2).toNat) rfl rfl (cs := e8 (List.replicate ((j1.2).toNat) 0#8)) (rep_map (f := v8))) (fun b1 => ?_)
      obtain ⟨h2, H⟩ := if_elim H
      refine TL_v rfl rfl rfl (V_b2s rfl Try.underlying30 Try.underlying5 Try.underlying9 (Src.own (j := 0) rfl) h2) ?_
      obtain ⟨h3, H⟩ := if_elim H
      refine TL_v rfl rfl rfl (V_bin rfl rfl (fun w => addS w key (List.replicate ((j1.2).toNat) 0#8) h3)) ?_
      obtain ⟨h4, H⟩ := if_elim H
      refine TL_v rfl rfl rfl (V_bin rfl rfl (fun w => addS w (key ++ (List.replicate ((j1.2).toNat) 0#8)) ([120#8] : Str) h4)) ?_
      refine TL_v rfl rfl rfl (V_assign rfl) ?_
      obtain ⟨long1, hlong1, H⟩ := ltt_elim H
      refine TL_re (d := 11) (v := vs ((key ++ (List.replicate ((j1.2).toNat) 0#8)) ++ ([120#8] : Str))) (v' := vs long1) rfl (congrArg vs hlong1) ?_
      refine TL_nil ?_
      refine TX_next ?_
      refine TC_seq ?_
      refine TC_region ?_
      refine TL_v rfl rfl rfl (V_move rfl) ?_
      refine TL_v rfl rfl rfl (V_move rfl) ?_
      refine TL_v rfl rfl rfl (V_move rfl) ?_
      obtain ⟨r_2, hr_2, H⟩ := bind_elim H
      refine TL_e rfl rfl rfl (E_call (Γ := Unit) (val := fun g => Value.tuple [vs r_2.1, vi r_2.2].toArray) (mem := fun g => []) (vs := [vi j1.1, vs long1, vs s_]) (Lin := []) (Ro := []) (is := []) rfl Try.call45 (F45_calls j1.1 long1 s_ r_2 hr_2) rfl trivial) (fun g_2 => ?_)
      refine TL_v rfl rfl rfl (V_move rfl) ?_
      refine TL_v rfl rfl rfl (V_extract (vs := [vs r_2.1, vi r_2.2]) rfl rfl) ?_
      refine TL_v rfl rfl rfl (V_extract (vs := [vs r_2.1, vi r_2.2]) rfl rfl) ?_
      refine TL_v rfl rfl rfl (V_assign rfl) ?_
      refine TL_v rfl rfl rfl (V_assign rfl) ?_
      refine TL_nil ?_
      refine TX_next ?_
      refine TC_seq ?_
      refine TC_region ?_
      refine TL_v rfl rfl rfl (V_move rfl) ?_
      refine TL_v rfl rfl rfl (V_move rfl) ?_
      refine TL_v rfl rfl rfl (V_move rfl) ?_
      obtain ⟨r_3, hr_3, H⟩ := bind_elim H
      refine TL_e rfl rfl rfl (E_call (Γ := Unit) (val := fun g => vs r_3) (mem := fun g => []) (vs := [vi j1.1, vs long1]) (Lin := []) (Ro := []) (is := []) rfl Try.call34 (F34_calls j1.1 long1 r_3 hr_3) rfl trivial) (fun g_3 => ?_)
      refine TL_v rfl rfl rfl (V_move rfl) ?_
      obtain ⟨r_4, hr_4, H⟩ := bind_elim H
      refine TL_e rfl rfl rfl (E_call (Γ := Unit) (val := fun g => Value.tuple [vs r_4.1, vi r_4.2].toArray) (mem := fun g => []) (vs := [vi j1.1, vs r_3, vs s_]) (Lin := []) (Ro := []) (is := []) rfl Try.call45 (F45_calls j1.1 r_3 s_ r_4 hr_4) rfl trivial) (fun g_4 => ?_)
      refine TL_v rfl rfl rfl (V_move rfl) ?_
      refine TL_v rfl rfl rfl (V_extract (vs := [vs r_4.1, vi r_4.2]) rfl rfl) ?_
      refine TL_v rfl rfl rfl (V_extract (vs := [vs r_4.1, vi r_4.2]) rfl rfl) ?_
      refine TL_v rfl rfl rfl (V_assign rfl) ?_
      refine TL_v rfl rfl rfl (V_assign rfl) ?_
      refine TL_nil ?_
      refine TX_next ?_
      refine TC.sub (m' := [(1, vs key), (2, vs s_), (3, vi more), (9, vi j1.1), (10, vi j1.2), (12, vs r_2.1), (13, vi r_2.2), (14, vs r_4.1), (15, vi r_4.2)]) ⟨rfl, rfl, rfl, rfl, rfl, rfl, rfl, rfl, rfl, trivial⟩ ?_
      refine TC_seq ?_
      refine TC_region ?_
      refine TL_v rfl rfl rfl (V_move rfl) ?_
      refine TL_v rfl rfl rfl (V_assign rfl) ?_
      refine TL_nil ?_
      refine TX_next ?_
      refine TC_seq ?_
      refine TC_seq ?_
      refine TC_region ?_
      refine TL_v rfl rfl rfl (V_move rfl) ?_
      refine TL_v rfl rfl rfl (V_len_str rfl Try.underlying9) ?_
      refine TL_v rfl rfl rfl (V_move rfl) ?_
      refine TL_v rfl rfl rfl (V_bin rfl rfl (fun w => gtrI w ((key).length : Int) j1.2)) ?_
      refine TL_nil ?_
      refine TX_next ?_
      obtain ⟨j2, Hj, H⟩ := bind_elim H
      refine TC_join (Γ := Unit) (fun gj2 => [(1, vs key), (2, vs s_), (3, vi more), (9, vi j1.1), (10, vi j1.2), (12, vs r_2.1), (13, vi r_2.2), (14, vs r_4.1), (15, vi r_4.2), (16, vs j2)]) (fun gj2 => []) ?_ ?_
      · intro gj2
        refine TX_next ?_
        refine TC_seq ?_
        refine TC_region ?_
        refine TL_v rfl rfl rfl (V_move rfl) ?_
        refine TL_v rfl rfl rfl (V_move rfl) ?_
        refine TL_v rfl rfl rfl (V_move rfl) ?_
        obtain ⟨r_5, hr_5, H⟩ := bind_elim H
        refine TL_e rfl rfl rfl (E_call (Γ := Unit) (val := fun g => Value.tuple [vs r_5.1, vi r_5.2].toArray) (mem := fun g => []) (vs := [vi j1.1, vs j2, vs s_]) (Lin := []) (Ro := []) (is := []) rfl Try.call45 (F45_calls j1.1 j2 s_ r_5 hr_5) rfl trivial) (fun g_5 => ?_)
        refine TL_v rfl rfl rfl (V_move rfl) ?_
        refine TL_v rfl rfl rfl (V_extract (vs := [vs r_5.1, vi r_5.2]) rfl rfl) ?_
        refine TL_v rfl rfl rfl (V_extract (vs := [vs r_5.1, vi r_5.2]) rfl rfl) ?_
        refine TL_v rfl rfl rfl (V_assign rfl) ?_
        refine TL_v rfl rfl rfl (V_assign rfl) ?_
        refine TL_nil ?_
        refine TX_next ?_
        refine TC_seq ?_
        refine TC_region ?_
        refine TL_v rfl rfl rfl (V_move rfl) ?_
        refine TL_v rfl rfl rfl (V_move rfl) ?_
        refine TL_v rfl rfl rfl (V_move rfl) ?_
        refine TL_v rfl rfl rfl (V_move rfl) ?_
        refine TL_v rfl rfl rfl (V_len_str rfl Try.underlying9) ?_
        refine TL_v rfl rfl rfl (V_bin rfl rfl (fun w => subI w j1.2 ((j2).length : Int))) ?_
        refine TL_v rfl rfl rfl (V_move rfl) ?_
        refine TL_v rfl rfl rfl (V_bin rfl rfl (fun w => andI w more 3)) ?_
        refine TL_v rfl rfl rfl (V_bin rfl rfl (fun w => mulI w (w64 (j1.2 - ((j2).length : Int))) (iop (· &&& ·) more 3))) ?_
        refine TL_v rfl rfl rfl (V_bin rfl rfl (fun w => quoI w (w64 ((w64 (j1.2 - ((j2).length : Int))) * (iop (· &&& ·) more 3))) 3 (by decide))) ?_
        obtain ⟨h5, H⟩ := if_elim H
        refine TL_e rfl rfl rfl (E_mk1 rfl rfl Try.underlying30 TryI.inf5 (z := v8 0#8) rfl rfl rfl (B := 1) rfl h5.1 (Int.le_refl _) (by have := h5; omega) (by have := h5; omega) (n' := (w64 ((w64 ((w64 (j1.2 - ((j2).length : Int))) * (iop (· &&& ·) more 3))).tdiv 3)).toNat) (c' := (w64 ((w64 ((w64 (j1.2 - ((j2).length : Int))) * (iop (· &&& ·) more 3))).tdiv 3)).toNat) rfl rfl (cs := e8 (List.replicate ((w64 ((w64 ((w64 (j1.2 - ((j2).length : Int))) * (iop (· &&& ·) more 3))).tdiv 3)).toNat) 0#8)) (rep_map (f := v8))) (fun b2 => ?_)
        obtain ⟨h6, H⟩ := if_elim H
        refine TL_v rfl rfl rfl (V_b2s rfl Try.underlying30 Try.underlying5 Try.underlying9 (Src.own (j := 0) rfl) h6) ?_
        obtain ⟨h7, H⟩ := if_elim H
        refine TL_v rfl rfl rfl (V_bin rfl rfl (fun w => addS w j2 (List.replicate ((w64 ((w64 ((w64 (j1.2 - ((j2).length : Int))) * (iop (· &&& ·) more 3))).tdiv 3)).toNat) 0#8) h7)) ?_
        refine TL_v rfl rfl rfl (V_move rfl) ?_
        obtain ⟨r_6, hr_6, H⟩ := bind_elim H
        refine TL_e rfl rfl rfl (E_call (Γ := Unit) (val := fun g => Value.tuple [vs r_6.1, vi r_6.2].toArray) (mem := fun g => []) (vs := [vi j1.1, vs (j2 ++ (List.replicate ((w64 ((w64 ((w64 (j1.2 - ((j2).length : Int))) * (iop (· &&& ·) more 3))).tdiv 3)).toNat) 0#8)), vs s_]) (Lin := []) (Ro := []) (is := []) rfl Try.call45 (F45_calls j1.1 (j2 ++ (List.replicate ((w64 ((w64 ((w64 (j1.2 - ((j2).length : Int))) * (iop (· &&& ·) more 3))).tdiv 3)).toNat) 0#8)) s_ r_6 hr_6) rfl trivial) (fun g_6 => ?_)
        refine TL_v rfl rfl rfl (V_move rfl) ?_
        refine TL_v rfl rfl rfl (V_extract (vs := [vs r_6.1, vi r_6.2]) rfl rfl) ?_
        refine TL_v rfl rfl rfl (V_extract (vs := [vs r_6.1, vi r_6.2]) rfl rfl) ?_
        refine TL_v rfl rfl rfl (V_assign rfl) ?_
        refine TL_v rfl rfl rfl (V_assign rfl) ?_
        refine TL_nil ?_
        refine TX_next ?_
        refine TC.sub (m' := [(1, vs key), (2, vs s_), (9, vi j1.1), (12, vs r_2.1), (13, vi r_2.2), (14, vs r_4.1), (15, vi r_4.2), (17, vs r_5.1), (18, vi r_5.2), (19, vs r_6.1), (20, vi r_6.2)]) ⟨rfl, rfl, rfl, rfl, rfl, rfl, rfl, rfl, rfl, rfl, rfl, trivial⟩ ?_
        refine TC_seq ?_
        refine TC_region ?_
        refine TL_v rfl rfl rfl (V_move rfl) ?_
        refine TL_v rfl rfl rfl (V_move rfl) ?_
        refine TL_v rfl rfl rfl (V_move rfl) ?_
        obtain ⟨r_7, hr_7, H⟩ := bind_elim H
        refine TL_e rfl rfl rfl (E_call (Γ := Unit) (val := fun g => Value.tuple [vs r_7.1, vi r_7.2].toArray) (mem := fun g => []) (vs := [vi j1.1, vs key, vs s_]) (Lin := []) (Ro := []) (is := []) rfl Try.call47 (F47_calls j1.1 key s_ r_7 hr_7) rfl trivial) (fun g_7 => ?_)
        refine TL_v rfl rfl rfl (V_move rfl) ?_
        refine TL_v rfl rfl rfl (V_extract (vs := [vs r_7.1, vi r_7.2]) rfl rfl) ?_
        refine TL_v rfl rfl rfl (V_extract (vs := [vs r_7.1, vi r_7.2]) rfl rfl) ?_
        refine TL_v rfl rfl rfl (V_assign rfl) ?_
        refine TL_v rfl rfl rfl (V_assign rfl) ?_
        refine TL_nil ?_
        refine TX_next ?_
        refine TC_seq ?_
        refine TC_region ?_
        refine TL_v rfl rfl rfl (V_move rfl) ?_
        refine TL_v rfl rfl rfl (V_move rfl) ?_
        refine TL_v rfl rfl rfl (V_move rfl) ?_
        obtain ⟨r_8, hr_8, H⟩ := bind_elim H
        refine TL_e rfl rfl rfl (E_call (Γ := Unit) (val := fun g => Value.tuple [vs r_8.1, vi r_8.2].toArray) (mem := fun g => []) (vs := [vi j1.1, vs key, vs s_]) (Lin := []) (Ro := []) (is := []) rfl Try.call45 (F45_calls j1.1 key s_ r_8 hr_8) rfl trivial) (fun g_8 => ?_)
        refine TL_v rfl rfl rfl (V_move rfl) ?_
        refine TL_v rfl rfl rfl (V_extract (vs := [vs r_8.1, vi r_8.2]) rfl rfl) ?_
        refine TL_v rfl rfl rfl (V_extract (vs := [vs r_8.1, vi r_8.2]) rfl rfl) ?_
        refine TL_v rfl rfl rfl (V_assign rfl) ?_
        refine TL_v rfl rfl rfl (V_assign rfl) ?_
        refine TL_nil ?_
        refine TX_next ?_
        refine TC_seq ?_
        refine TC_region ?_
        refine TL_v rfl rfl rfl (V_move rfl) ?_
        obtain ⟨r_9, hr_9, H⟩ := bind_elim H
        refine TL_e rfl rfl rfl (E_call (Γ := Unit) (val := fun g => vi r_9) (mem := fun g => []) (vs := [vi r_2.2]) (Lin := []) (Ro := []) (is := []) rfl Try.call25 (F25_calls r_2.2 r_9 hr_9) rfl trivial) (fun g_9 => ?_)
        refine TL_v rfl rfl rfl (V_bin rfl rfl (fun w => eqlI w r_9 0)) ?_
        refine TL_v rfl rfl rfl (V_move rfl) ?_
        refine TL_fork (d := 100) (b := (decide (r_9 = 0))) rfl (fun hc => ?_) (fun hc => ?_)
        · replace H := ite_t (of_decide_eq_true hc) H
          refine TL_want rfl rfl rfl rfl rfl rfl (V_move rfl) ?_
          obtain ⟨r_10, hr_10, H⟩ := bind_elim H
          refine TL_wantE rfl rfl rfl rfl rfl rfl (E_call (Γ := Unit) (val := fun g => vi r_10) (mem := fun g => []) (vs := [vi r_4.2]) (Lin := []) (Ro := []) (is := []) rfl Try.call25 (F25_calls r_4.2 r_10 hr_10) rfl trivial) (fun g_10 => ?_)
          refine TL_want rfl rfl rfl rfl rfl rfl (V_bin rfl rfl (fun w => eqlI w r_10 0)) ?_
          refine TL_v rfl rfl rfl (V_pick (b := true) rfl rfl) ?_
          refine TL_v rfl rfl rfl (V_move rfl) ?_
          refine TL_fork (d := 105) (b := (decide (r_10 = 0))) rfl (fun hc => ?_) (fun hc => ?_)
          · replace H := ite_t (of_decide_eq_true hc) H
            refine TL_want rfl rfl rfl rfl rfl rfl (V_move rfl) ?_
            refine TL_want rfl rfl rfl rfl rfl rfl (V_move rfl) ?_
            refine TL_want rfl rfl rfl rfl rfl rfl (V_bin rfl rfl (fun w => eqlS w r_2.1 r_4.1)) ?_
            refine TL_v rfl rfl rfl (V_pick (b := true) rfl rfl) ?_
            refine TL_v rfl rfl rfl (V_move rfl) ?_
            refine TL_fork (d := 110) (b := (decide (r_2.1 = r_4.1))) rfl (fun hc => ?_) (fun hc => ?_)
            · replace H := ite_t (of_decide_eq_true hc) H
              refine TL_want rfl rfl rfl rfl rfl rfl (V_move rfl) ?_
              obtain ⟨r_11, hr_11, H⟩ := bind_elim H
              refine TL_wantE rfl rfl rfl rfl rfl rfl (E_call (Γ := Unit) (val := fun g => vi r_11) (mem := fun g => []) (vs := [vi r_5.2]) (Lin := []) (Ro := []) (is := []) rfl Try.call25 (F25_calls r_5.2 r_11 hr_11) rfl trivial) (fun g_11 => ?_)
              refine TL_want rfl rfl rfl rfl rfl rfl (V_bin rfl rfl (fun w => eqlI w r_11 0)) ?_
              refine TL_v rfl rfl rfl (V_pick (b := true) rfl rfl) ?_
              refine TL_v rfl rfl rfl (V_move rfl) ?_
              refine TL_fork (d := 115) (b := (decide (r_11 = 0))) rfl (fun hc => ?_) (fun hc => ?_)
              · replace H := ite_t (of_decide_eq_true hc) H
                refine TL_want rfl rfl rfl rfl rfl rfl (V_move rfl) ?_
                obtain ⟨r_12, hr_12, H⟩ := bind_elim H
                refine TL_wantE rfl rfl rfl rfl rfl rfl (E_call (Γ := Unit) (val := fun g => vi r_12) (mem := fun g => []) (vs := [vi r_6.2]) (Lin := []) (Ro := []) (is := []) rfl Try.call25 (F25_calls r_6.2 r_12 hr_12) rfl trivial) (fun g_12 => ?_)
                refine TL_want rfl rfl rfl rfl rfl rfl (V_bin rfl rfl (fun w => eqlI w r_12 0)) ?_
                refine TL_v rfl rfl rfl (V_pick (b := true) rfl rfl) ?_
                refine TL_v rfl rfl rfl (V_move rfl) ?_
                refine TL_fork (d := 120) (b := (decide (r_12 = 0))) rfl (fun hc => ?_) (fun hc => ?_)
                · replace H := ite_t (of_decide_eq_true hc) H
                  refine TL_want rfl rfl rfl rfl rfl rfl (V_move rfl) ?_
                  refine TL_want rfl rfl rfl rfl rfl rfl (V_move rfl) ?_
                  refine TL_want rfl rfl rfl rfl rfl rfl (V_bin rfl rfl (fun w => eqlS w r_5.1 r_6.1)) ?_
                  refine TL_v rfl rfl rfl (V_pick (b := true) rfl rfl) ?_
                  refine TL_v rfl rfl rfl (V_move rfl) ?_
                  refine TL_fork (d := 125) (b := (decide (r_5.1 = r_6.1))) rfl (fun hc => ?_) (fun hc => ?_)
                  · replace H := ite_t (of_decide_eq_true hc) H
                    refine TL_want rfl rfl rfl rfl rfl rfl (V_move rfl) ?_
                    obtain ⟨r_13, hr_13, H⟩ := bind_elim H
                    refine TL_wantE rfl rfl rfl rfl rfl rfl (E_call (Γ := Unit) (val := fun g => vi r_13) (mem := fun g => []) (vs := [vi r_7.2]) (Lin := []) (Ro := []) (is := []) rfl Try.call25 (F25_calls r_7.2 r_13 hr_13) rfl trivial) (fun g_13 => ?_)
                    refine TL_want rfl rfl rfl rfl rfl rfl (V_bin rfl rfl (fun w => eqlI w r_13 0)) ?_
                    refine TL_v rfl rfl rfl (V_pick (b := true) rfl rfl) ?_
                    refine TL_v rfl rfl rfl (V_move rfl) ?_
                    refine TL_fork (d := 130) (b := (decide (r_13 = 0))) rfl (fun hc => ?_) (fun hc => ?_)
                    · replace H := ite_t (of_decide_eq_true hc) H
                      refine TL_want rfl rfl rfl rfl rfl rfl (V_move rfl) ?_
                      obtain ⟨r_14, hr_14, H⟩ := bind_elim H
                      refine TL_wantE rfl rfl rfl rfl rfl rfl (E_call (Γ := Unit) (val := fun g => vi r_14) (mem := fun g => []) (vs := [vi r_8.2]) (Lin := []) (Ro := []) (is := []) rfl Try.call25 (F25_calls r_8.2 r_14 hr_14) rfl trivial) (fun g_14 => ?_)
                      refine TL_want rfl rfl rfl rfl rfl rfl (V_bin rfl rfl (fun w => eqlI w r_14 0)) ?_
                      refine TL_v rfl rfl rfl (V_pick (b := true) rfl rfl) ?_
                      refine TL_v rfl rfl rfl (V_move rfl) ?_
                      refine TL_fork (d := 135) (b := (decide (r_14 = 0))) rfl (fun hc => ?_) (fun hc => ?_)
                      · replace H := ite_t (of_decide_eq_true hc) H
                        refine TL_want rfl rfl rfl rfl rfl rfl (V_move rfl) ?_
                        refine TL_want rfl rfl rfl rfl rfl rfl (V_move rfl) ?_
                        refine TL_want rfl rfl rfl rfl rfl rfl (V_bin rfl rfl (fun w => eqlS w r_7.1 r_8.1)) ?_
                        refine TL_v rfl rfl rfl (V_pick (b := true) rfl rfl) ?_
                        refine TL_v rfl rfl rfl (V_move rfl) ?_
                        refine TL_fork (d := 140) (b := (decide (r_7.1 = r_8.1))) rfl (fun hc => ?_) (fun hc => ?_)
                        · replace H := ite_t (of_decide_eq_true hc) H
                          refine TL_want rfl rfl rfl rfl rfl rfl (V_move rfl) ?_
                          refine TL_want rfl rfl rfl rfl rfl rfl (V_len_str rfl Try.underlying9) ?_
                          refine TL_want rfl rfl rfl rfl rfl rfl (V_move rfl) ?_
                          refine TL_want rfl rfl rfl rfl rfl rfl (V_bin rfl rfl (fun w => quoI w j1.1 8 (by decide))) ?_
                          refine TL_want rfl rfl rfl rfl rfl rfl (V_bin rfl rfl (fun w => eqlI w ((r_7.1).length : Int) (w64 (j1.1.tdiv 8)))) ?_
                          refine TL_v rfl rfl rfl (V_pick (b := true) rfl rfl) ?_
                          refine TL_v rfl rfl rfl (V_assign rfl) ?_
                          obtain ⟨x1, hx1, H⟩ := ltt_elim H
                          refine TL_re (d := 8) (v := vb (decide (((r_7.1).length : Int) = (w64 (j1.1.tdiv 8))))) (v' := vb x1) rfl (congrArg vb hx1) ?_
                          refine TL_nil ?_
                          refine TX_next ?_
                          refine TC.sub (m' := [(8, vb x1)]) ⟨rfl, trivial⟩ ?_
                          refine TC_ret ?_
                          have hrv := Option.some.inj H
                          subst hrv
                          exact TX_ret (rs := [.tmp 8]) (vs := [vb x1]) rfl ⟨rfl, trivial⟩ (fun w' hs' => ⟨(), rfl, Step.left (Step.pulled (is := []) (A := []) hs' rfl)⟩)
                        · replace H := ite_f (of_decide_eq_false hc) H
                          refine TL_skip rfl rfl rfl rfl rfl rfl rfl ?_
                          refine TL_skip rfl rfl rfl rfl rfl rfl rfl ?_
                          refine TL_skip rfl rfl rfl rfl rfl rfl rfl ?_
                          refine TL_skip rfl rfl rfl rfl rfl rfl rfl ?_
                          refine TL_skip rfl rfl rfl rfl rfl rfl rfl ?_
                          refine TL_v rfl rfl rfl (V_pick (b := false) rfl rfl) ?_
                          refine TL_v rfl rfl rfl (V_assign rfl) ?_
                          refine TL_nil ?_
                          refine TX_next ?_
                          refine TC.sub (m' := [(8, vb false)]) ⟨rfl, trivial⟩ ?_
                          refine TC_ret ?_
                          have hrv := Option.some.inj H
                          subst hrv
                          exact TX_ret (rs := [.tmp 8]) (vs := [vb false]) rfl ⟨rfl, trivial⟩ (fun w' hs' => ⟨(), rfl, Step.left (Step.pulled (is := []) (A := []) hs' rfl)⟩)
                      · replace H := ite_f (of_decide_eq_false hc) H
                        refine TL_skip rfl rfl rfl rfl rfl rfl rfl ?_
                        refine TL_skip rfl rfl rfl rfl rfl rfl rfl ?_
                        refine TL_skip rfl rfl rfl rfl rfl rfl rfl ?_
                        refine TL_v rfl rfl rfl (V_pick (b := false) rfl rfl) ?_
                        refine TL_v rfl rfl rfl (V_move rfl) ?_
                        refine TL_skip rfl rfl rfl rfl rfl rfl rfl ?_
                        refine TL_skip rfl rfl rfl rfl rfl rfl rfl ?_
                        refine TL_skip rfl rfl rfl rfl rfl rfl rfl ?_
                        refine TL_skip rfl rfl rfl rfl rfl rfl rfl ?_
                        refine TL_skip rfl rfl rfl rfl rfl rfl rfl ?_
                        refine TL_v rfl rfl rfl (V_pick (b := false) rfl rfl) ?_
                        refine TL_v rfl rfl rfl (V_assign rfl) ?_
                        refine TL_nil ?_
                        refine TX_next ?_
                        refine TC.sub (m' := [(8, vb false)]) ⟨rfl, trivial⟩ ?_
                        refine TC_ret ?_
                        have hrv := Option.some.inj H
                        subst hrv
                        exact TX_ret (rs := [.tmp 8]) (vs := [vb false]) rfl ⟨rfl, trivial⟩ (fun w' hs' => ⟨(), rfl, Step.left (Step.pulled (is := []) (A := []) hs' rfl)⟩)
                    · replace H := ite_f (of_decide_eq_false hc) H
                      refine TL_skip rfl rfl rfl rfl rfl rfl rfl ?_
                      refine TL_skip rfl rfl rfl rfl rfl rfl rfl ?_
                      refine TL_skip rfl rfl rfl rfl rfl rfl rfl ?_
                      refine TL_v rfl rfl rfl (V_pick (b := false) rfl rfl) ?_
                      refine TL_v rfl rfl rfl (V_move rfl) ?_
                      refine TL_skip rfl rfl rfl rfl rfl rfl rfl ?_
                      refine TL_skip rfl rfl rfl rfl rfl rfl rfl ?_
                      refine TL_skip rfl rfl rfl rfl rfl rfl rfl ?_
                      refine TL_v rfl rfl rfl (V_pick (b := false) rfl rfl) ?_
                      refine TL_v rfl rfl rfl (V_move rfl) ?_
                      refine TL_skip rfl rfl rfl rfl rfl rfl rfl ?_
                      refine TL_skip rfl rfl rfl rfl rfl rfl rfl ?_
                      refine TL_skip rfl rfl rfl rfl rfl rfl rfl ?_
                      refine TL_skip rfl rfl rfl rfl rfl rfl rfl ?_
                      refine TL_skip rfl rfl rfl rfl rfl rfl rfl ?_
                      refine TL_v rfl rfl rfl (V_pick (b := false) rfl rfl) ?_
                      refine TL_v rfl rfl rfl (V_assign rfl) ?_
                      refine TL_nil ?_
                      refine TX_next ?_
                      refine TC.sub (m' := [(8, vb false)]) ⟨rfl, trivial⟩ ?_
                      refine TC_ret ?_
                      have hrv := Option.some.inj H
                      subst hrv
                      exact TX_ret (rs := [.tmp 8]) (vs := [vb false]) rfl ⟨rfl, trivial⟩ (fun w' hs' => ⟨(), rfl, Step.left (Step.pulled (is := []) (A := []) hs' rfl)⟩)
                  · replace H := ite_f (of_decide_eq_false hc) H
                    refine TL_skip rfl rfl rfl rfl rfl rfl rfl ?_
                    refine TL_skip rfl rfl rfl rfl rfl rfl rfl ?_
                    refine TL_skip rfl rfl rfl rfl rfl rfl rfl ?_
                    refine TL_v rfl rfl rfl (V_pick (b := false) rfl rfl) ?_
                    refine TL_v rfl rfl rfl (V_move rfl) ?_
                    refine TL_skip rfl rfl rfl rfl rfl rfl rfl ?_
                    refine TL_skip rfl rfl rfl rfl rfl rfl rfl ?_
                    refine TL_skip rfl rfl rfl rfl rfl rfl rfl ?_
                    refine TL_v rfl rfl rfl (V_pick (b := false) rfl rfl) ?_
                    refine TL_v rfl rfl rfl (V_move rfl) ?_
                    refine TL_skip rfl rfl rfl rfl rfl rfl rfl ?_
                    refine TL_skip rfl rfl rfl rfl rfl rfl rfl ?_
                    refine TL_skip rfl rfl rfl rfl rfl rfl rfl ?_
                    refine TL_v rfl rfl rfl (V_pick (b := false) rfl rfl) ?_
                    refine TL_v rfl rfl rfl (V_move rfl) ?_
                    refine TL_skip rfl rfl rfl rfl rfl rfl rfl ?_
                    refine TL_skip rfl rfl rfl rfl rfl rfl rfl ?_
                    refine TL_skip rfl rfl rfl rfl rfl rfl rfl ?_
                    refine TL_skip rfl rfl rfl rfl rfl rfl rfl ?_
                    refine TL_skip rfl rfl rfl rfl rfl rfl rfl ?_
                    refine TL_v rfl rfl rfl (V_pick (b := false) rfl rfl) ?_
                    refine TL_v rfl rfl rfl (V_assign rfl) ?_
                    refine TL_nil ?_
                    refine TX_next ?_
                    refine TC.sub (m' := [(8, vb false)]) ⟨rfl, trivial⟩ ?_
                    refine TC_ret ?_
                    have hrv := Option.some.inj H
                    subst hrv
                    exact TX_ret (rs := [.tmp 8]) (vs := [vb false]) rfl ⟨rfl, trivial⟩ (fun w' hs' => ⟨(), rfl, Step.left (Step.pulled (is := []) (A := []) hs' rfl)⟩)
                · replace H := ite_f (of_decide_eq_false hc) H
                  refine TL_skip rfl rfl rfl rfl rfl rfl rfl ?_
                  refine TL_skip rfl rfl rfl rfl rfl rfl rfl ?_
                  refine TL_skip rfl rfl rfl rfl rfl rfl rfl ?_
                  refine TL_v rfl rfl rfl (V_pick (b := false) rfl rfl) ?_
                  refine TL_v rfl rfl rfl (V_move rfl) ?_
                  refine TL_skip rfl rfl rfl rfl rfl rfl rfl ?_
                  refine TL_skip rfl rfl rfl rfl rfl rfl rfl ?_
                  refine TL_skip rfl rfl rfl rfl rfl rfl rfl ?_
                  refine TL_v rfl rfl rfl (V_pick (b := false) rfl rfl) ?_
                  refine TL_v rfl rfl rfl (V_move rfl) ?_
                  refine TL_skip rfl rfl rfl rfl rfl rfl rfl ?_
                  refine TL_skip rfl rfl rfl rfl rfl rfl rfl ?_
                  refine TL_skip rfl rfl rfl rfl rfl rfl rfl ?_
                  refine TL_v rfl rfl rfl (V_pick (b := false) rfl rfl) ?_
                  refine TL_v rfl rfl rfl (V_move rfl) ?_
                  refine TL_skip rfl rfl rfl rfl rfl rfl rfl ?_
                  refine TL_skip rfl rfl rfl rfl rfl rfl rfl ?_
                  refine TL_skip rfl rfl rfl rfl rfl rfl rfl ?_
                  refine TL_v rfl rfl rfl (V_pick (b := false) rfl rfl) ?_
                  refine TL_v rfl rfl rfl (V_move rfl) ?_
                  refine TL_skip rfl rfl rfl rfl rfl rfl rfl ?_
                  refine TL_skip rfl rfl rfl rfl rfl rfl rfl ?_
                  refine TL_skip rfl rfl rfl rfl rfl rfl rfl ?_
                  refine TL_skip rfl rfl rfl rfl rfl rfl rfl ?_
                  refine TL_skip rfl rfl rfl rfl rfl rfl rfl ?_
                  refine TL_v rfl rfl rfl (V_pick (b := false) rfl rfl) ?_
                  refine TL_v rfl rfl rfl (V_assign rfl) ?_
                  refine TL_nil ?_
                  refine TX_next ?_
                  refine TC.sub (m' := [(8, vb false)]) ⟨rfl, trivial⟩ ?_
                  refine TC_ret ?_
                  have hrv := Option.some.inj H
                  subst hrv
                  exact TX_ret (rs := [.tmp 8]) (vs := [vb false]) rfl ⟨rfl, trivial⟩ (fun w' hs' => ⟨(), rfl, Step.left (Step.pulled (is := []) (A := []) hs' rfl)⟩)
              · replace H := ite_f (of_decide_eq_false hc) H
                refine TL_skip rfl rfl rfl rfl rfl rfl rfl ?_
                refine TL_skip rfl rfl rfl rfl rfl rfl rfl ?_
                refine TL_skip rfl rfl rfl rfl rfl rfl rfl ?_
                refine TL_v rfl rfl rfl (V_pick (b := false) rfl rfl) ?_
                refine TL_v rfl rfl rfl (V_move rfl) ?_
                refine TL_skip rfl rfl rfl rfl rfl rfl rfl ?_
                refine TL_skip rfl rfl rfl rfl rfl rfl rfl ?_
                refine TL_skip rfl rfl rfl rfl rfl rfl rfl ?_
                refine TL_v rfl rfl rfl (V_pick (b := false) rfl rfl) ?_
                refine TL_v rfl rfl rfl (V_move rfl) ?_
                refine TL_skip rfl rfl rfl rfl rfl rfl rfl ?_
                refine TL_skip rfl rfl rfl rfl rfl rfl rfl ?_
                refine TL_skip rfl rfl rfl rfl rfl rfl rfl ?_
                refine TL_v rfl rfl rfl (V_pick (b := false) rfl rfl) ?_
                refine TL_v rfl rfl rfl (V_move rfl) ?_
                refine TL_skip rfl rfl rfl rfl rfl rfl rfl ?_
                refine TL_skip rfl rfl rfl rfl rfl rfl rfl ?_
                refine TL_skip rfl rfl rfl rfl rfl rfl rfl ?_
                refine TL_v rfl rfl rfl (V_pick (b := false) rfl rfl) ?_
                refine TL_v rfl rfl rfl (V_move rfl) ?_
                refine TL_skip rfl rfl rfl rfl rfl rfl rfl ?_
                refine TL_skip rfl rfl rfl rfl rfl rfl rfl ?_
                refine TL_skip rfl rfl rfl rfl rfl rfl rfl ?_
                refine TL_v rfl rfl rfl (V_pick (b := false) rfl rfl) ?_
                refine TL_v rfl rfl rfl (V_move rfl) ?_
                refine TL_skip rfl rfl rfl rfl rfl rfl rfl ?_
                refine TL_skip rfl rfl rfl rfl rfl rfl rfl ?_
                refine TL_skip rfl rfl rfl rfl rfl rfl rfl ?_
                refine TL_skip rfl rfl rfl rfl rfl rfl rfl ?_
                refine TL_skip rfl rfl rfl rfl rfl rfl rfl ?_
                refine TL_v rfl rfl rfl (V_pick (b := false) rfl rfl) ?_
                refine TL_v rfl rfl rfl (V_assign rfl) ?_
                refine TL_nil ?_
                refine TX_next ?_
                refine TC.sub (m' := [(8, vb false)]) ⟨rfl, trivial⟩ ?_
                refine TC_ret ?_
                have hrv := Option.some.inj H
                subst hrv
                exact TX_ret (rs := [.tmp 8]) (vs := [vb false]) rfl ⟨rfl, trivial⟩ (fun w' hs' => ⟨(), rfl, Step.left (Step.pulled (is := []) (A := []) hs' rfl)⟩)
            · replace H := ite_f (of_decide_eq_false hc) H
              refine TL_skip rfl rfl rfl rfl rfl rfl rfl ?_
              refine TL_skip rfl rfl rfl rfl rfl rfl rfl ?_
              refine TL_skip rfl rfl rfl rfl rfl rfl rfl ?_
              refine TL_v rfl rfl rfl (V_pick (b := false) rfl rfl) ?_
              refine TL_v rfl rfl rfl (V_move rfl) ?_
              refine TL_skip rfl rfl rfl rfl rfl rfl rfl ?_
              refine TL_skip rfl rfl rfl rfl rfl rfl rfl ?_
              refine TL_skip rfl rfl rfl rfl rfl rfl rfl ?_
              refine TL_v rfl rfl rfl (V_pick (b := false) rfl rfl) ?_
              refine TL_v rfl rfl rfl (V_move rfl) ?_
              refine TL_skip rfl rfl rfl rfl rfl rfl rfl ?_
              refine TL_skip rfl rfl rfl rfl rfl rfl rfl ?_
              refine TL_skip rfl rfl rfl rfl rfl rfl rfl ?_
              refine TL_v rfl rfl rfl (V_pick (b := false) rfl rfl) ?_
              refine TL_v rfl rfl rfl (V_move rfl) ?_
              refine TL_skip rfl rfl rfl rfl rfl rfl rfl ?_
              refine TL_skip rfl rfl rfl rfl rfl rfl rfl ?_
              refine TL_skip rfl rfl rfl rfl rfl rfl rfl ?_
              refine TL_v rfl rfl rfl (V_pick (b := false) rfl rfl) ?_
              refine TL_v rfl rfl rfl (V_move rfl) ?_
              refine TL_skip rfl rfl rfl rfl rfl rfl rfl ?_
              refine TL_skip rfl rfl rfl rfl rfl rfl rfl ?_
              refine TL_skip rfl rfl rfl rfl rfl rfl rfl ?_
              refine TL_v rfl rfl rfl (V_pick (b := false) rfl rfl) ?_
              refine TL_v rfl rfl rfl (V_move rfl) ?_
              refine TL_skip rfl rfl rfl rfl rfl rfl rfl ?_
              refine TL_skip rfl rfl rfl rfl rfl rfl rfl ?_
              refine TL_skip rfl rfl rfl rfl rfl rfl rfl ?_
              refine TL_v rfl rfl rfl (V_pick (b := false) rfl rfl) ?_
              refine TL_v rfl rfl rfl (V_move rfl) ?_
              refine TL_skip rfl rfl rfl rfl rfl rfl rfl ?_
              refine TL_skip rfl rfl rfl rfl rfl rfl rfl ?_
              refine TL_skip rfl rfl rfl rfl rfl rfl rfl ?_
              refine TL_skip rfl rfl rfl rfl rfl rfl rfl ?_
              refine TL_skip rfl rfl rfl rfl rfl rfl rfl ?_
              refine TL_v rfl rfl rfl (V_pick (b := false) rfl rfl) ?_
              refine TL_v rfl rfl rfl (V_assign rfl) ?_
              refine TL_nil ?_
              refine TX_next ?_
              refine TC.sub (m' := [(8, vb false)]) ⟨rfl, trivial⟩ ?_
              refine TC_ret ?_
              have hrv := Option.some.inj H
              subst hrv
              exact TX_ret (rs := [.tmp 8]) (vs := [vb false]) rfl ⟨rfl, trivial⟩ (fun w' hs' => ⟨(), rfl, Step.left (Step.pulled (is := []) (A := []) hs' rfl)⟩)
          · replace H := ite_f (of_decide_eq_false hc) H
            refine TL_skip rfl rfl rfl rfl rfl rfl rfl ?_
            refine TL_skip rfl rfl rfl rfl rfl rfl rfl ?_
            refine TL_skip rfl rfl rfl rfl rfl rfl rfl ?_
            refine TL_v rfl rfl rfl (V_pick (b := false) rfl rfl) ?_
            refine TL_v rfl rfl rfl (V_move rfl) ?_
            refine TL_skip rfl rfl rfl rfl rfl rfl rfl ?_
            refine TL_skip rfl rfl rfl rfl rfl rfl rfl ?_
            refine TL_skip rfl rfl rfl rfl rfl rfl rfl ?_
            refine TL_v rfl rfl rfl (V_pick (b := false) rfl rfl) ?_
            refine TL_v rfl rfl rfl (V_move rfl) ?_
            refine TL_skip rfl rfl rfl rfl rfl rfl rfl ?_
            refine TL_skip rfl rfl rfl rfl rfl rfl rfl ?_
            refine TL_skip rfl rfl rfl rfl rfl rfl rfl ?_
            refine TL_v rfl rfl rfl (V_pick (b := false) rfl rfl) ?_
            refine TL_v rfl rfl rfl (V_move rfl) ?_
            refine TL_skip rfl rfl rfl rfl rfl rfl rfl ?_
            refine TL_skip rfl rfl rfl rfl rfl rfl rfl ?_
            refine TL_skip rfl rfl rfl rfl rfl rfl rfl ?_
            refine TL_v rfl rfl rfl (V_pick (b := false) rfl rfl) ?_
            refine TL_v rfl rfl rfl (V_move rfl) ?_
            refine TL_skip rfl rfl rfl rfl rfl rfl rfl ?_
            refine TL_skip rfl rfl rfl rfl rfl rfl rfl ?_
            refine TL_skip rfl rfl rfl rfl rfl rfl rfl ?_
            refine TL_v rfl rfl rfl (V_pick (b := false) rfl rfl) ?_
            refine TL_v rfl rfl rfl (V_move rfl) ?_
            refine TL_skip rfl rfl rfl rfl rfl rfl rfl ?_
            refine TL_skip rfl rfl rfl rfl rfl rfl rfl ?_
            refine TL_skip rfl rfl rfl rfl rfl rfl rfl ?_
            refine TL_v rfl rfl rfl (V_pick (b := false) rfl rfl) ?_
            refine TL_v rfl rfl rfl (V_move rfl) ?_
            refine TL_skip rfl rfl rfl rfl rfl rfl rfl ?_
            refine TL_skip rfl rfl rfl rfl rfl rfl rfl ?_
            refine TL_skip rfl rfl rfl rfl rfl rfl rfl ?_
            refine TL_v rfl rfl rfl (V_pick (b := false) rfl rfl) ?_
            refine TL_v rfl rfl rfl (V_move rfl) ?_
            refine TL_skip rfl rfl rfl rfl rfl rfl rfl ?_
            refine TL_skip rfl rfl rfl rfl rfl rfl rfl ?_
            refine TL_skip rfl rfl rfl rfl rfl rfl rfl ?_
            refine TL_skip rfl rfl rfl rfl rfl rfl rfl ?_
            refine TL_skip rfl rfl rfl rfl rfl rfl rfl ?_
            refine TL_v rfl rfl rfl (V_pick (b := false) rfl rfl) ?_
            refine TL_v rfl rfl rfl (V_assign rfl) ?_
            refine TL_nil ?_
            refine TX_next ?_
            refine TC.sub (m' := [(8, vb false)]) ⟨rfl, trivial⟩ ?_
            refine TC_ret ?_
            have hrv := Option.some.inj H
            subst hrv
            exact TX_ret (rs := [.tmp 8]) (vs := [vb false]) rfl ⟨rfl, trivial⟩ (fun w' hs' => ⟨(), rfl, Step.left (Step.pulled (is := []) (A := []) hs' rfl)⟩)
        · replace H := ite_f (of_decide_eq_false hc) H
          refine TL_skip rfl rfl rfl rfl rfl rfl rfl ?_
          refine TL_skip rfl rfl rfl rfl rfl rfl rfl ?_
          refine TL_skip rfl rfl rfl rfl rfl rfl rfl ?_
          refine TL_v rfl rfl rfl (V_pick (b := false) rfl rfl) ?_
          refine TL_v rfl rfl rfl (V_move rfl) ?_
          refine TL_skip rfl rfl rfl rfl rfl rfl rfl ?_
          refine TL_skip rfl rfl rfl rfl rfl rfl rfl ?_
          refine TL_skip rfl rfl rfl rfl rfl rfl rfl ?_
          refine TL_v rfl rfl rfl (V_pick (b := false) rfl rfl) ?_
          refine TL_v rfl rfl rfl (V_move rfl) ?_
          refine TL_skip rfl rfl rfl rfl rfl rfl rfl ?_
          refine TL_skip rfl rfl rfl rfl rfl rfl rfl ?_
          refine TL_skip rfl rfl rfl rfl rfl rfl rfl ?_
          refine TL_v rfl rfl rfl (V_pick (b := false) rfl rfl) ?_
          refine TL_v rfl rfl rfl (V_move rfl) ?_
          refine TL_skip rfl rfl rfl rfl rfl rfl rfl ?_
          refine TL_skip rfl rfl rfl rfl rfl rfl rfl ?_
          refine TL_skip rfl rfl rfl rfl rfl rfl rfl ?_
          refine TL_v rfl rfl rfl (V_pick (b := false) rfl rfl) ?_
          refine TL_v rfl rfl rfl (V_move rfl) ?_
          refine TL_skip rfl rfl rfl rfl rfl rfl rfl ?_
          refine TL_skip rfl rfl rfl rfl rfl rfl rfl ?_
          refine TL_skip rfl rfl rfl rfl rfl rfl rfl ?_
          refine TL_v rfl rfl rfl (V_pick (b := false) rfl rfl) ?_
          refine TL_v rfl rfl rfl (V_move rfl) ?_
          refine TL_skip rfl rfl rfl rfl rfl rfl rfl ?_
          refine TL_skip rfl rfl rfl rfl rfl rfl rfl ?_
          refine TL_skip rfl rfl rfl rfl rfl rfl rfl ?_
          refine TL_v rfl rfl rfl (V_pick (b := false) rfl rfl) ?_
          refine TL_v rfl rfl rfl (V_move rfl) ?_
          refine TL_skip rfl rfl rfl rfl rfl rfl rfl ?_
          refine TL_skip rfl rfl rfl rfl rfl rfl rfl ?_
          refine TL_skip rfl rfl rfl rfl rfl rfl rfl ?_
          refine TL_v rfl rfl rfl (V_pick (b := false) rfl rfl) ?_
          refine TL_v rfl rfl rfl (V_move rfl) ?_
          refine TL_skip rfl rfl rfl rfl rfl rfl rfl ?_
          refine TL_skip rfl rfl rfl rfl rfl rfl rfl ?_
          refine TL_skip rfl rfl rfl rfl rfl rfl rfl ?_
          refine TL_v rfl rfl rfl (V_pick (b := false) rfl rfl) ?_
          refine TL_v rfl rfl rfl (V_move rfl) ?_
          refine TL_skip rfl rfl rfl rfl rfl rfl rfl ?_
          refine TL_skip rfl rfl rfl rfl rfl rfl rfl ?_
          refine TL_skip rfl rfl rfl rfl rfl rfl rfl ?_
          refine TL_skip rfl rfl rfl rfl rfl rfl rfl ?_
          refine TL_skip rfl rfl rfl rfl rfl rfl rfl ?_
          refine TL_v rfl rfl rfl (V_pick (b := false) rfl rfl) ?_
          refine TL_v rfl rfl rfl (V_assign rfl) ?_
          refine TL_nil ?_
          refine TX_next ?_
          refine TC.sub (m' := [(8, vb false)]) ⟨rfl, trivial⟩ ?_
          refine TC_ret ?_
          have hrv := Option.some.inj H
          subst hrv
          exact TX_ret (rs := [.tmp 8]) (vs := [vb false]) rfl ⟨rfl, trivial⟩ (fun w' hs' => ⟨(), rfl, Step.left (Step.pulled (is := []) (A := []) hs' rfl)⟩)
      · intro hJ
        replace H := Hj
        refine TC_cond (b := (decide (j1.2 < ((key).length : Int)))) rfl (fun hc => ?_) (fun hc => ?_)
        · replace H := ite_t (of_decide_eq_true hc) H
          refine TC_region ?_
          refine TL_v rfl rfl rfl (V_move rfl) ?_
          refine TL_v rfl rfl rfl (V_move rfl) ?_
          obtain ⟨h8, H⟩ := if_elim H
          obtain ⟨h9, H⟩ := if_elim H
          refine TL_v rfl rfl rfl (V_sliceStr (l := 0) (h := (j1.2).toNat) rfl Try.underlying9 Bnd.none' (Bnd.some' (i := j1.2) rfl h8) (Nat.zero_le _) h9) ?_
          refine TL_v rfl rfl rfl (V_assign rfl) ?_
          obtain ⟨short1, hshort1, H⟩ := ltt_elim H
          refine TL_re (d := 16) (v := vs (sub key 0 ((j1.2).toNat))) (v' := vs short1) rfl (congrArg vs hshort1) ?_
          refine TL_nil ?_
          refine TX.sub (m' := [(1, vs key), (2, vs s_), (3, vi more), (9, vi j1.1), (10, vi j1.2), (12, vs r_2.1), (13, vi r_2.2), (14, vs r_4.1), (15, vi r_4.2), (16, vs short1)]) ⟨rfl, rfl, rfl, rfl, rfl, rfl, rfl, rfl, rfl, rfl, trivial⟩ ?_
          refine TX.pull (is := []) (L' := []) rfl ?_
          obtain rfl := Option.some.inj H
          exact hJ ()
        · replace H := ite_f (of_decide_eq_false hc) H
          refine TC_skip ?_
          refine TX.sub (m' := [(1, vs key), (2, vs s_), (3, vi more), (9, vi j1.1), (10, vi j1.2), (12, vs r_2.1), (13, vi r_2.2), (14, vs r_4.1), (15, vi r_4.2), (16, vs key)]) ⟨rfl, rfl, rfl, rfl, rfl, rfl, rfl, rfl, rfl, rfl, trivial⟩ ?_
          refine TX.pull (is := []) (L' := []) rfl ?_
          obtain rfl := Option.some.inj H
          exact hJ ()
    · intro hJ
      replace H := Hj
      refine TC_cond (b := wide) rfl (fun hc => ?_) (fun hc => ?_)
      · replace H := ite_t hc H
        refine TC_seq ?_
        refine TC_region ?_
        refine TL_v rfl rfl rfl (V_assign rfl) ?_
        refine TL_nil ?_
        refine TX_next ?_
        refine TC_region ?_
        refine TL_v rfl rfl rfl (V_assign rfl) ?_
        refine TL_nil ?_
        refine TX.sub (m' := [(1, vs key), (2, vs s_), (3, vi more), (9, vi 384), (10, vi 128)]) ⟨rfl, rfl, rfl, rfl, rfl, trivial⟩ ?_
        refine TX.pull (is := []) (L' := []) rfl ?_
        obtain rfl := Option.some.inj H
        exact hJ ()
      · replace H := ite_f (Bool.eq_false_iff.1 hc) H
        refine TC_skip ?_
        refine TX.sub (m' := [(1, vs key), (2, vs s_), (3, vi more), (9, vi 256), (10, vi 64)]) ⟨rfl, rfl, rfl, rfl, rfl, trivial⟩ ?_
        refine TX.pull (is := []) (L' := []) rfl ?_
        obtain rfl := Option.some.inj H
        exact hJ ()

end Go.Proofs
end

section
/-
  The laws of keys out of keys.
-/
namespace Go.Proofs
open Go Go.Kx
set_option linter.unusedVariables false
set_option linter.unusedSimpArgs false
theorem Hkdfs_true (bits : Int) (key s label : Str) (size : Int) (hk : key.length ≤ 140737488351232) (hs : s.length ≤ 140737488351232) : halberdlaw3_Hkdfs bits key s label size = some true := by
  unfold halberdlaw3_Hkdfs
  refine bind_i (Hmac_eq bits key s (by omega) (by omega)) (bind_i (HmacR_eq bits key s (by omega) (by omega)) (bind_i (Extract_eq bits key s (by omega) (by omega)) (bind_i (Expand_eq bits key s size (by omega) (by omega)) (bind_i (ExpandR_eq bits key s size (by omega) (by omega)) (bind_i (Label_eq bits key label s size (by omega)) (bind_i (LabelR_eq bits key label s size (by omega)) ?_))))))
  exact if_i rfl (bind_i (v := (hmacE bits key s).2) rfl (if_i rfl (if_i rfl (bind_i (v := (hmacE bits key s).2) rfl (if_i rfl (if_i rfl (bind_i (v := (expE bits key s size).2) rfl (if_i rfl (if_i rfl (bind_i (v := (labE bits key label s size).2) rfl (if_i rfl (bind_i awake3 rfl))))))))))))
theorem HkdfBegins_true (wide : Bool) (key info : Str) (a b : Int) (hk : key.length ≤ 140737488351232) (hi : info.length ≤ 140737488351232) : halberdlaw3_HkdfBegins wide key info a b = some true := by
  unfold halberdlaw3_HkdfBegins
  obtain ⟨n, hn, hj⟩ := bits_of wide
  refine bind_i awake3 (if_n (by decide) (bind_i hj (ltt_i fun x1 hx1 => ltt_i fun y1 hy1 => ?_)))
  have i511 : ∀ x : Int, iop (· &&& ·) x 511 = x % 512 := fun x => and_mask x 9 (by decide)
  rw [i511] at hx1 hy1
  clear i511
  obtain ⟨x, hx, hxl⟩ : ∃ x : Nat, x1 = (x : Int) ∧ x < 512 := ⟨x1.toNat, by omega, by omega⟩
  obtain ⟨y, hy, hyl⟩ : ∃ y : Nat, y1 = (y : Int) ∧ y < 512 := ⟨y1.toNat, by omega, by omega⟩
  clear hx1 hy1
  subst hx
  subst hy
  have hm := most_ge n hn
  have hmin : min (x : Int) (y : Int) = ((min x y : Nat) : Int) := by omega
  have hmax : max (x : Int) (y : Int) = ((max x y : Nat) : Int) := by omega
  rw [hmin, hmax, most_eq n hn]
  obtain ⟨M, hM⟩ : ∃ M : Nat, mostE n = (M : Int) := ⟨(mostE n).toNat, by omega⟩
  have e1 : w64 (mostE n + 1) = mostE n + 1 := w64_id (by omega) (by omega)
  have q1 := Expand_eq n key info ((min x y : Nat) : Int) (by omega) (by omega)
  have q2 := Expand_eq n key info ((max x y : Nat) : Int) (by omega) (by omega)
  have q3 := Expand_eq n key info (mostE n + 1) (by omega) (by omega)
  have q4 := Expand_eq n key info (mostE n) (by omega) (by omega)
  rw [expE_ok n hn key info _ (by omega)] at q1 q2
  rw [expE_none n key info _ (by omega)] at q3
  rw [hM] at q4
  rw [expE_ok n hn key info M (by omega)] at q4
  rw [e1, hM]
  rw [hM] at q3
  have l1 := expT_length n hn key info (min x y)
  have l2 := expT_length n hn key info (max x y)
  have l3 := expT_length n hn key info M
  have hpre := expT_pre n hn key info (min x y) (max x y) (by omega)
  clear e1 hM hmin hmax
  refine bind_i q1 (bind_i q2 (bind_i q3 (bind_i q4 ?_)))
  refine bind_i (v := 0) rfl (if_i rfl (bind_i (v := 0) rfl (if_i rfl (if_i (congrArg Nat.cast l1) (if_i (congrArg Nat.cast l2) (if_i (by omega) ?_))))))
  simp only [Int.toNat_natCast, l1, l2, hpre]
  refine if_i (by omega) (if_i (by trivial) (bind_i (v := 300) rfl (if_i rfl (bind_i (v := 0) rfl (if_i rfl (ltt_i fun z hz => ?_))))))
  rw [hz, l3]; simp
theorem labE_ok (n : Int) (hn : okB n) (key label context : Str) (z : Nat) (hl : label.length ≤ 249) (hc : context.length ≤ 255) (hz : z ≤ 4095) : labE n key label context (z : Int) = (expT n key (infoE label context z) z, 0) := by
  unfold labE
  rw [if_pos ⟨hl, hc, by omega, by omega⟩]
  exact expE_ok n hn key _ z (by have := most_ge n hn; omega)
theorem labE_none (n : Int) (key label context : Str) (size : Int) (h : ¬ (label.length ≤ 249 ∧ context.length ≤ 255)) : labE n key label context size = ([], 300) := by
  unfold labE; rw [if_neg (fun c => h ⟨c.1, c.2.1⟩)]
theorem HkdfLabels_true (wide : Bool) (key label context : Str) (size : Int) (hk : key.length ≤ 140737488351232) (hl0 : label.length ≤ 140737488351232) (hc0 : context.length ≤ 140737488351232) : halberdlaw3_HkdfLabels wide key label context size = some true := by
  unfold halberdlaw3_HkdfLabels
  refine bind_i awake3 (if_n (by decide) ?_)
  by_cases c1 : 249 < (label.length : Int)
  · exact if_i c1 rfl
  refine if_n c1 ?_
  by_cases c2 : 255 < (context.length : Int)
  · exact if_i c2 rfl
  refine if_n c2 ?_
  obtain ⟨n, hn, hj⟩ := bits_of wide
  refine bind_i hj (ltt_i fun k1 hk1 => ?_)
  have i4095 : ∀ x : Int, iop (· &&& ·) x 4095 = x % 4096 := fun x => and_mask x 12 (by decide)
  rw [i4095] at hk1
  clear i4095
  obtain ⟨k, hkk, hkl⟩ : ∃ k : Nat, k1 = (k : Int) ∧ k ≤ 4095 := ⟨k1.toNat, by omega, by omega⟩
  clear hk1
  subst hkk
  have e1 : w64 (6 + (label.length : Int)) = ((6 + label.length : Nat) : Int) := w64_add (a := 6) (by omega)
  rw [and255, ofInt8_mod, e1]
  clear e1
  have hinfo : (([BitVec.ofInt 8 (shrI' (k : Int) 8), BitVec.ofInt 8 (k : Int), BitVec.ofInt 8 ((6 + label.length : Nat) : Int)] : Str) ++ pre6 ++ label ++ [BitVec.ofInt 8 (context.length : Int)] ++ context) = infoE label context k := by
    unfold infoE vec1
    rw [bytesI_two, bytesI_one, bytesI_one]
    have : (pre6 ++ label).length = 6 + label.length := by rw [List.length_append]; rfl
    rw [this]
    simp only [List.append_assoc, List.cons_append, List.nil_append]
  have hil := infoE_length label context k
  have q1 := Label_eq n key label context (k : Int) (by omega)
  have q2 := Expand_eq n key (infoE label context k) (k : Int) (by omega) (by omega)
  have q3 := Label_eq n key (label ++ List.replicate 250 0#8) context (k : Int) (by omega)
  have q4 := Label_eq n key label (context ++ List.replicate 256 0#8) (k : Int) (by omega)
  rw [labE_ok n hn key label context k (by omega) (by omega) hkl] at q1
  rw [expE_ok n hn key _ k (by have := most_ge n hn; omega)] at q2
  rw [labE_none n key _ _ _ (by rw [List.length_append, List.length_replicate]; omega)] at q3
  rw [labE_none n key _ _ _ (by rw [List.length_append, List.length_replicate]; omega)] at q4
  refine if_i rfl (if_i (by simp) (if_i (by simp only [List.length_append, List.length_cons, List.length_nil]; omega) (if_i rfl (if_i (by simp only [List.length_append, List.length_cons, List.length_nil]; omega) (if_i (by simp only [List.length_append, List.length_cons, List.length_nil]; omega) (ltt_i fun info hi => ?_))))))
  have hi2 : info = infoE label context k := hi.trans hinfo
  rw [hi2]
  clear hi hi2 hinfo
  refine bind_i q1 (bind_i q2 (if_i List.length_replicate (if_i (by rw [List.length_replicate]; omega) (bind_i q3 (if_i List.length_replicate (if_i (by rw [List.length_replicate]; omega) (bind_i q4 ?_)))))))
  refine bind_i (v := 0) rfl (if_i rfl (bind_i (v := 0) rfl (if_i rfl (if_i rfl (bind_i (v := 300) rfl (if_i rfl (bind_i (v := 300) rfl (ltt_i fun z hz => ?_))))))))
  rw [hz]; simp
/-! Long keys, noughts behind short ones. -/
theorem keyP_short (n : Int) (key : Str) (h : key.length ≤ bsz n) : keyP n key = key := by unfold keyP; rw [if_neg (by omega)]
theorem macE_keyP (n : Int) (a b s : Str) (h : ∀ i, i < bsz n → (keyP n a).getD i 0#8 = (keyP n b).getD i 0#8) : macE n a s = macE n b s := by
  have : ∀ c, padB n a c = padB n b c := fun c => by
    unfold padB
    refine List.map_congr_left fun i hi => ?_
    rw [h i (by simpa using hi)]
  unfold macE
  rw [this, this]
theorem getD_zeros' (b : Str) (n j : Nat) : (b ++ List.replicate n 0#8).getD j 0#8 = b.getD j 0#8 := by
  rw [List.getD_eq_getElem?_getD, List.getD_eq_getElem?_getD, List.getElem?_append]
  by_cases c : j < b.length
  · rw [if_pos c]
  · rw [if_neg c, List.getElem?_eq_none (l := b) (by omega), List.getElem?_replicate]
    split <;> rfl
theorem thirds (B l m : Nat) (h : l ≤ B) (hB : B ≤ 128) (hm : m ≤ 3) : ∃ q : Nat, q ≤ B - l ∧ w64 ((w64 ((w64 ((B : Int) - (l : Int))) * (m : Int))).tdiv 3) = (q : Int) := by
  have hmul : (B - l) * m ≤ (B - l) * 3 := Nat.mul_le_mul_left _ hm
  refine ⟨(B - l) * m / 3, by omega, ?_⟩
  have e1 : w64 ((B : Int) - (l : Int)) = ((B - l : Nat) : Int) := w64_sub h (by omega)
  have hd : B - l ≤ 128 := by omega
  rw [e1]
  clear e1
  generalize B - l = d at *
  have e2 : w64 ((d : Int) * (m : Int)) = ((d * m : Nat) : Int) := w64_mul (by omega)
  rw [e2]
  clear e2
  generalize d * m = z at *
  exact w64_div (b := 3) (by omega)
theorem HkdfKeys_true (wide : Bool) (key s : Str) (more : Int) (hk : key.length ≤ 140737488351232) (hs : s.length ≤ 140737488351232) : halberdlaw3_HkdfKeys wide key s more = some true := by
  unfold halberdlaw3_HkdfKeys
  refine bind_i awake3 (if_n (by decide) ?_)
  obtain ⟨n, hn, hj⟩ : ∃ n : Int, okB n ∧ (if wide = true then some ((384 : Int), (128 : Int)) else some (256, 64)) = some (n, (bsz n : Int)) := by
    cases wide
    · exact ⟨256, .inl rfl, rfl⟩
    · exact ⟨384, .inr rfl, rfl⟩
  have hB := bsz_or n
  refine bind_i hj ?_
  simp only [Int.toNat_natCast]
  have hll : (key ++ List.replicate (bsz n) 0#8 ++ [120#8]).length = key.length + bsz n + 1 := by simp only [List.length_append, List.length_replicate, List.length_cons, List.length_nil]
  refine if_i (by omega) (if_i (by simp) (if_i (by simp; omega) (if_i (by simp; omega) (ltt_i fun long hlong => ?_))))
  rw [← hlong] at hll
  have hmac : ∀ k : Str, k.length ≤ 140737488355328 → hkdf_Hmac n k s = some (macE n k s, 0) := fun k h => by
    have := Hmac_eq n k s h (by omega)
    unfold hmacE at this
    rwa [if_pos hn] at this
  have hd := dig_length n hn long
  have hd2 : n.toNat / 8 ≤ 48 ∧ n.toNat / 8 ≤ bsz n := by rcases hn with h | h <;> subst h <;> decide
  have eqLong : macE n long s = macE n (dig n long) s := macE_keyP n _ _ s fun i hi => by
    rw [keyP_short n (dig n long) (by omega)]
    unfold keyP
    rw [if_pos (by omega)]
  refine bind_i (hmac long (by omega)) (bind_i (Hash_eq n hn long (by omega)) (bind_i (hmac (dig n long) (by omega)) ?_))
  obtain ⟨short, hsl, hsh⟩ : ∃ short : Str, short.length ≤ bsz n ∧ (if (bsz n : Int) < (key.length : Int) then (if 0 ≤ (bsz n : Int) then (if bsz n ≤ key.length then (ltt (sub key 0 (bsz n)) fun (short1 : Str) => (some short1)) else none) else none) else (some key)) = some short := by
    by_cases c : bsz n < key.length
    · exact ⟨sub key 0 (bsz n), by rw [sub_length (by omega)]; omega, if_i (by omega) (if_i (by omega) (if_i (by omega) rfl))⟩
    · exact ⟨key, by omega, if_n (by omega) rfl⟩
  refine bind_i hsh (bind_i (hmac short (by omega)) ?_)
  have i3 : iop (· &&& ·) more 3 = more % 4 := and_mask more 2 (by decide)
  obtain ⟨m, hm, hml⟩ : ∃ m : Nat, more % 4 = (m : Int) ∧ m ≤ 3 := ⟨(more % 4).toNat, by omega, by omega⟩
  obtain ⟨q, hql, hq⟩ := thirds (bsz n) short.length m hsl (by omega) hml
  rw [i3, hm, hq]
  clear hq i3 hm
  simp only [Int.toNat_natCast]
  have hfl : (short ++ List.replicate q 0#8).length = short.length + q := by simp
  have eqShort : macE n short s = macE n (short ++ List.replicate q 0#8) s := macE_keyP n _ _ s fun i hi => by
    rw [keyP_short n short hsl, keyP_short n _ (by omega), getD_zeros']
  have hex : hkdf_Extract n key s = some (macE n key s, 0) := by
    have := Extract_eq n key s (by omega) (by omega)
    unfold hmacE at this
    rwa [if_pos hn] at this
  have hml2 := macE_length n hn key s
  have hm1 := hmac (short ++ List.replicate q 0#8) (by omega)
  have hm2 := hmac key (by omega)
  refine if_i (by omega) (if_i List.length_replicate (if_i (by rw [List.length_replicate]; omega) (bind_i hm1 (bind_i hex (bind_i hm2 ?_)))))
  clear hm1 hm2 hex hmac hfl hsh hd hll hlong hj
  rw [eqLong, eqShort]
  clear eqLong eqShort
  generalize macE n (dig n long) s = A
  generalize macE n (short ++ List.replicate q 0#8) s = B
  generalize macE n key s = C at hml2
  refine bind_i (v := 0) rfl (if_i rfl (bind_i (v := 0) rfl (if_i rfl (if_i rfl (bind_i (v := 0) rfl (if_i rfl (bind_i (v := 0) rfl (if_i rfl (if_i rfl (bind_i (v := 0) rfl (if_i rfl (bind_i (v := 0) rfl (if_i rfl (if_i rfl (ltt_i fun z hz => ?_)))))))))))))))
  rw [hz, hml2]
  rcases hn with h | h <;> subst h <;> rfl
end Go.Proofs
end

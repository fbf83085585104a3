/-
  Part KH2 of the proofs of this seat: HkdfA.
-/
import Derived.Test.YtfihcdfpjleimaaKS4
import Derived.Test.YtfihcdfpjleimaaKH1
section
/-
  Keys out of keys: the program's and the reference's.
-/
namespace Go.Proofs
open Go Go.Kx
set_option linter.unusedVariables false
set_option linter.unusedSimpArgs false
abbrev okB (n : Int) : Prop := n = 256 ∨ n = 384
def keyP (n : Int) (key : Str) : Str := if bsz n < key.length then dig n key else key
def padB (n : Int) (key : Str) (c : BitVec 8) : Str := (List.range (bsz n)).map fun i => (keyP n key).getD i 0#8 ^^^ c
theorem padB_length (n : Int) (key : Str) (c : BitVec 8) : (padB n key c).length = bsz n := by simp [padB]
theorem keyP_le (n : Int) (hn : okB n) (key : Str) : (keyP n key).length ≤ bsz n := by
  unfold keyP
  split
  · rw [dig_length n hn]; rcases hn with h | h <;> subst h <;> decide
  · omega
def macE (n : Int) (key s : Str) : Str := dig n (padB n key 92#8 ++ dig n (padB n key 54#8 ++ s))
theorem macE_length (n : Int) (hn : okB n) (key s : Str) : (macE n key s).length = n.toNat / 8 := dig_length n hn _
theorem splice_at (z c : Str) (i : Nat) (hc : c.length ≤ z.length) (hi : i < z.length) (hz : ∀ j, z.getD j 0#8 = 0#8) : (splice z 0 c).getD i 0#8 = c.getD i 0#8 := by
  unfold splice
  simp only [List.take_zero, List.nil_append, Nat.zero_add]
  rw [List.getD_eq_getElem?_getD, List.getElem?_append]
  by_cases h : i < c.length
  · rw [if_pos h, List.getD_eq_getElem?_getD]
  · rw [if_neg h, List.getElem?_drop, ← List.getD_eq_getElem?_getD, hz, List.getD_eq_getElem?_getD, List.getElem?_eq_none (by omega)]
    rfl
theorem splice_length (z c : Str) (hc : c.length ≤ z.length) : (splice z 0 c).length = z.length := by
  unfold splice; simp; omega
theorem pads_eq (n : Int) (hn : okB n) (key : Str) (hk : key.length ≤ 140737488355328) : hkdf_pads n key = some (padB n key 54#8, padB n key 92#8) := by
  have hB := bsz_or n
  have hj : (if n = 384 then some (128 : Int) else some (w64 (n.tdiv 4))) = some (bsz n : Int) := by
    rcases hn with h | h <;> subst h <;> rfl
  have hkl := keyP_le n hn key
  unfold hkdf_pads
  refine ltt_i fun n1 hn1 => bind_i (v := (bsz n : Int)) (by rw [hn1]; exact hj) (bind_i (v := keyP n key) ?_ ?_)
  · unfold keyP
    by_cases c : bsz n < key.length
    · rw [if_pos c]
      refine if_i (by omega) ?_
      have hs := Sum_eq n key hk
      rw [if_pos hn] at hs
      exact bind_i hs rfl
    · rw [if_neg c]
      exact if_n (by omega) rfl
  · simp only [Int.toNat_natCast]
    have ht : (keyP n key).take (min (keyP n key).length (bsz n)) = keyP n key := List.take_of_length_le (by omega)
    have hz : ∀ j, (List.replicate (bsz n) 0#8).getD j 0#8 = 0#8 := fun j => by
      rw [List.getD_eq_getElem?_getD, List.getElem?_replicate]; split <;> rfl
    have hsl : (splice (List.replicate (bsz n) 0#8) 0 (keyP n key)).length = bsz n := by rw [splice_length _ _ (by simp; omega)]; simp
    have hsa : ∀ i, i < bsz n → (splice (List.replicate (bsz n) 0#8) 0 (keyP n key)).getD i 0#8 = (keyP n key).getD i 0#8 := fun i hi => splice_at _ _ i (by simp; omega) (by simp; omega) hz
    rw [ht]
    refine if_i (by omega) (if_i (by omega) (if_i (by simp) (ltt_i fun m1 hm1 => if_i (by simp) (ltt_i fun m2 hm2 => ?_))))
    generalize splice (List.replicate (bsz n) 0#8) 0 (keyP n key) = Z at hm1 hm2 hsl hsa
    subst hm1
    subst hm2
    let P : BitVec 8 → Nat → Str := fun c k => (List.range (bsz n)).map fun i => if i < k then (keyP n key).getD i 0#8 ^^^ c else (keyP n key).getD i 0#8
    have hPl : ∀ c k, (P c k).length = bsz n := fun c k => by simp [P]
    have hP0 : ∀ c, m2 = P c 0 := fun c => List.ext_getElem (by rw [hsl, hPl]) fun i h1 h2 => by
      have hs1 := hsa i (by omega)
      rw [List.getD_eq_getElem?_getD, List.getElem?_eq_getElem h1] at hs1
      have hs2 : m2[i] = (keyP n key).getD i 0#8 := hs1
      simp only [P, List.getElem_map, List.getElem_range]
      rw [if_neg (by omega), hs2]
    have hstep : ∀ c k, k < bsz n → (P c k).set k (lg (P c k) k ^^^ c) = P c (k + 1) := fun c k hk => by
      have hlg : lg (P c k) k = (keyP n key).getD k 0#8 := by simp [lg, P, hk]
      rw [hlg]
      refine List.ext_getElem (by simp [P]) fun i h1 h2 => ?_
      simp only [P, List.getElem_set, List.getElem_map, List.getElem_range]
      by_cases c1 : k = i
      · subst c1; rw [if_pos rfl, if_pos (by omega)]
      · rw [if_neg c1]
        by_cases c2 : i < k
        · rw [if_pos c2, if_pos (by omega)]
        · rw [if_neg c2, if_neg (by omega)]
    refine bind_i (v := (P 54#8 (bsz n), P 92#8 (bsz n))) (loop_fn (fun k => ((k : Int), P 54#8 k, P 92#8 k)) (bsz n) _ (by omega) ?_ (fun k hk => ?_) ?_) ?_
    · refine Prod.ext rfl (Prod.ext (hP0 _) (hP0 _))
    · have e1 : w64 ((k : Int) + 1) = ((k + 1 : Nat) : Int) := w64_add (b := 1) (by omega)
      have h1 := hPl 54#8 k
      have h2 := hPl 92#8 k
      unfold hkdf_pads.b0
      simp only [e1, Int.toNat_natCast]
      clear e1
      refine if_i (by omega) (if_i (by omega) (if_i (by omega) (if_i (by omega) (if_i (by omega) (ltt_i fun m3 hm3 => if_i (by omega) (if_i (by omega) (if_i (by omega) (if_i (by omega) (ltt_i fun m4 hm4 => ?_))))))))) 
      rw [hm3, hm4, hstep _ _ hk, hstep _ _ hk]
    · exact if_n (by show ¬ ((bsz n : Int) < _); omega) rfl
    · have hend : ∀ c, P c (bsz n) = padB n key c := fun c => by
        simp only [P]
        unfold padB
        refine List.map_congr_left fun i hi => ?_
        rw [if_pos (by simpa using hi)]
      rw [hend, hend]
      exact if_i (padB_length _ _ _) (if_i (padB_length _ _ _) rfl)
theorem newMac_eq (n : Int) (hn : okB n) (key : Str) (hk : key.length ≤ 140737488355328) :
    hkdf_newMac n key = some (.inr (n, (ob n (padB n key 54#8)).1, KV, (ob n (padB n key 54#8)).2.1, (ob n (padB n key 54#8)).2.2, n, (ob n (padB n key 92#8)).1, KV, (ob n (padB n key 92#8)).2.1, (ob n (padB n key 92#8)).2.2)) := by
  have w : ∀ c, sha_Hash_Write n (begn n) KV [] 0#64 (padB n key c) = some (ob n (padB n key c)) := fun c => by
    have := write_ob n [] (padB n key c) (by rw [padB_length]; have := bsz_or n; simp; omega)
    rwa [ob_nil, List.nil_append] at this
  unfold hkdf_newMac
  refine bind_i (new_eq n hn) ?_
  dsimp only
  refine bind_i (new_eq n hn) ?_
  dsimp only
  exact bind_i (pads_eq n hn key hk) (bind_i (w _) (bind_i (w _) rfl))
theorem newMac_none (n : Int) (hn : ¬ okB n) (key : Str) : hkdf_newMac n key = some (.inl ()) := by
  unfold hkdf_newMac
  exact bind_i (new_none n hn) rfl
theorem mac_eq (n : Int) (hn : okB n) (key s : Str) (hs : s.length ≤ 140737488355328) :
    hkdf_mac_of n (ob n (padB n key 54#8)).1 KV (ob n (padB n key 54#8)).2.1 (ob n (padB n key 54#8)).2.2 n (ob n (padB n key 92#8)).1 KV (ob n (padB n key 92#8)).2.1 (ob n (padB n key 92#8)).2.2 s = some (macE n key s) := by
  have hB := bsz_or n
  have h0 : ∀ c, (padB n key c).length % bsz n = 0 := fun c => by rw [padB_length]; exact Nat.mod_self _
  have hl : ∀ c t, (padB n key c ++ t).length = bsz n + t.length := fun c t => by rw [List.length_append, padB_length]
  have hd := dig_length n hn (padB n key 54#8 ++ s)
  have hd2 : n.toNat / 8 ≤ 48 := by rcases hn with h | h <;> subst h <;> decide
  unfold hkdf_mac_of
  exact bind_i (fork_ob n _) (bind_i (fork_ob n _) (bind_i (write_ob n _ s (by rw [h0]; omega)) (bind_i (sum_ob n hn _ (by rw [hl]; omega)) (bind_i (write_ob n _ _ (by rw [h0, hd]; omega)) (bind_i (sum_ob n hn _ (by rw [hl, hd]; omega)) rfl)))))
theorem xored_eq (n : Int) (key : Str) (c : BitVec 8) : halberdref1_xored (keyP n key) c (bsz n : Int) = some (padB n key c) := by
  have hB := bsz_or n
  let P : Nat → Str := fun k => (List.range (bsz n)).map fun i => if i < k then (keyP n key).getD i 0#8 ^^^ c else 0#8
  have hPl : ∀ k, (P k).length = bsz n := fun k => by simp [P]
  have hend : P (bsz n) = padB n key c := by
    simp only [P]
    unfold padB
    refine List.map_congr_left fun i hi => ?_
    rw [if_pos (by simpa using hi)]
  have hset : ∀ k, k < bsz n → (P k).set k ((keyP n key).getD k 0#8 ^^^ c) = P (k + 1) := fun k hk => by
    refine List.ext_getElem (by simp [P]) fun i h1 h2 => ?_
    simp only [P, List.getElem_set, List.getElem_map, List.getElem_range]
    by_cases c1 : k = i
    · subst c1; rw [if_pos rfl, if_pos (by omega)]
    · rw [if_neg c1]
      by_cases c2 : i < k
      · rw [if_pos c2, if_pos (by omega)]
      · rw [if_neg c2, if_neg (by omega)]
  unfold halberdref1_xored
  refine if_i (by omega) (bind_i (v := P (bsz n)) (loop_fn (fun k => ((k : Int), P k)) (bsz n) _ (by omega) ?_ (fun k hk => ?_) ?_) ?_)
  · refine Prod.ext rfl (List.ext_getElem (by simp [P]) fun i h1 h2 => by simp [P])
  · have e1 : w64 ((k : Int) + 1) = ((k + 1 : Nat) : Int) := w64_add (b := 1) (by omega)
    have h1 := hPl k
    unfold halberdref1_xored.b0
    simp only [e1, Int.toNat_natCast, sg_nat]
    clear e1
    refine if_i (by omega) (if_i (by omega) (if_i (by omega) (ltt_i fun m1 hm1 => ?_)))
    have hml : m1.length = bsz n := by rw [hm1, List.length_set, h1]
    by_cases ck : k < (keyP n key).length
    · refine if_i (by omega) (if_i (by omega) (if_i (by omega) (if_i (by omega) (ltt_i fun m2 hm2 => ltt_i fun i hi => ?_))))
      rw [hi, hm2, hm1, List.set_set, hset k hk]
    · refine if_n (by omega) (ltt_i fun i hi => ?_)
      have : (keyP n key).getD k 0#8 = 0#8 := by rw [List.getD_eq_getElem?_getD, List.getElem?_eq_none (by omega)]; rfl
      have h2 := hset k hk
      rw [this, BitVec.zero_xor] at h2
      rw [hi, hm1, h2]
  · exact if_n (by show ¬ ((bsz n : Int) < _); omega) rfl
  · rw [hend]
    exact if_i (padB_length _ _ _) rfl
theorem Mac_eq (n : Int) (hn : okB n) (key s : Str) (hk : key.length < 100000000000000000) (hs : s.length < 100000000000000000) : halberdref1_Mac n key s = some (macE n key s) := by
  have hB := bsz_or n
  have hl : ∀ c t, (padB n key c ++ t).length = bsz n + t.length := fun c t => by rw [List.length_append, padB_length]
  have hp : ∀ c, (padB n key c).length = bsz n := padB_length n key
  have hd := dig_length n hn (padB n key 54#8 ++ s)
  have hd2 : n.toNat / 8 ≤ 48 := by rcases hn with h | h <;> subst h <;> decide
  unfold halberdref1_Mac
  refine bind_i (v := (bsz n : Int)) (by rcases hn with h | h <;> subst h <;> rfl) (bind_i (v := keyP n key) ?_ ?_)
  · unfold keyP
    by_cases c : bsz n < key.length
    · rw [if_pos c]
      exact if_i (by omega) (bind_i (Hash_eq n hn key (by omega)) rfl)
    · rw [if_neg c]
      exact if_n (by omega) rfl
  · refine bind_i (xored_eq n key _) (bind_i (xored_eq n key _) (if_i (by rw [hp]; omega) (bind_i (Hash_eq n hn _ (by rw [hl]; omega)) (if_i (by rw [hp, hd]; omega) (bind_i (Hash_eq n hn _ (by rw [hl, hd]; omega)) rfl)))))
theorem may1_eq (n : Int) : halberdref1_may n = some (decide (okB n)) := by
  unfold halberdref1_may
  by_cases h : n = 256
  · refine if_i h ?_
    simp [okB, h]
  · refine if_n h (ltt_i fun x hx => ?_)
    rw [hx]
    simp [okB, h]
def hmacE (n : Int) (key s : Str) : Str × Int := if okB n then (macE n key s, 0) else ([], 300)
theorem Hmac_eq (n : Int) (key s : Str) (hk : key.length ≤ 140737488355328) (hs : s.length ≤ 140737488355328) : hkdf_Hmac n key s = some (hmacE n key s) := by
  unfold hkdf_Hmac hmacE
  by_cases hn : okB n
  · rw [if_pos hn]
    exact bind_i (newMac_eq n hn key hk) (bind_i (mac_eq n hn key s hs) rfl)
  · rw [if_neg hn]
    exact bind_i (newMac_none n hn key) rfl
theorem Extract_eq (n : Int) (key s : Str) (hk : key.length ≤ 140737488355328) (hs : s.length ≤ 140737488355328) : hkdf_Extract n key s = some (hmacE n key s) := by
  unfold hkdf_Extract
  exact bind_i (Hmac_eq n key s hk hs) rfl

/-! Expand. -/
def tT (n : Int) (key info : Str) : Nat → Str
  | 0 => []
  | k + 1 => macE n key (tT n key info k ++ info ++ [BitVec.ofInt 8 ((k + 1 : Nat) : Int)])
def oT (n : Int) (key info : Str) : Nat → Str
  | 0 => []
  | k + 1 => oT n key info k ++ tT n key info (k + 1)
theorem tT_length (n : Int) (hn : okB n) (key info : Str) (k : Nat) : (tT n key info (k + 1)).length = n.toNat / 8 := macE_length n hn _ _
theorem tT_le (n : Int) (hn : okB n) (key info : Str) (k : Nat) : (tT n key info k).length ≤ 48 := by
  cases k with
  | zero => simp [tT]
  | succ k => rw [tT_length n hn]; rcases hn with h | h <;> subst h <;> decide
theorem oT_length (n : Int) (hn : okB n) (key info : Str) : ∀ k, (oT n key info k).length = n.toNat / 8 * k
  | 0 => rfl
  | k + 1 => by rw [oT, List.length_append, oT_length n hn key info k, tT_length n hn, Nat.mul_add, Nat.mul_one]
theorem oT_pre (n : Int) (key info : Str) (m : Nat) : ∀ d, ∃ u, oT n key info (m + d) = oT n key info m ++ u
  | 0 => ⟨[], by simp⟩
  | d + 1 => by
    obtain ⟨u, hu⟩ := oT_pre n key info m d
    exact ⟨u ++ tT n key info (m + d + 1), by rw [← List.append_assoc, ← hu]; rfl⟩
/-- How many macs so many bytes want. -/
def cnt (n : Int) (size : Nat) : Nat := (size + (n.toNat / 8 - 1)) / (n.toNat / 8)
theorem hl_or (n : Int) (hn : okB n) : n.toNat / 8 = 32 ∨ n.toNat / 8 = 48 := by rcases hn with h | h <;> subst h <;> decide
theorem cnt_spec (n : Int) (hn : okB n) (size : Nat) : size ≤ n.toNat / 8 * cnt n size ∧ (∀ k, k < cnt n size → n.toNat / 8 * k < size) ∧ cnt n size ≤ size := by
  unfold cnt
  rcases hl_or n hn with h | h <;> rw [h]
  · refine ⟨by omega, fun k hk => by omega, by omega⟩
  · refine ⟨by omega, fun k hk => by omega, by omega⟩
def expT (n : Int) (key info : Str) (size : Nat) : Str := sub (oT n key info (cnt n size)) 0 size
theorem expT_length (n : Int) (hn : okB n) (key info : Str) (size : Nat) : (expT n key info size).length = size := by
  unfold expT
  rw [sub_length (by rw [oT_length n hn]; exact (cnt_spec n hn size).1), Nat.sub_zero]
theorem expT_pre (n : Int) (hn : okB n) (key info : Str) (x y : Nat) (h : x ≤ y) : sub (expT n key info y) 0 x = expT n key info x := by
  have hxy : cnt n x ≤ cnt n y := by
    unfold cnt
    exact Nat.div_le_div_right (by omega)
  obtain ⟨d, hd⟩ := Nat.exists_eq_add_of_le hxy
  obtain ⟨u, hu⟩ := oT_pre n key info (cnt n x) d
  unfold expT
  rw [sub_sub _ _ _ _ _ (by omega), hd, hu, Nat.zero_add, Nat.zero_add, sub_app_l]
  rw [oT_length n hn]
  exact (cnt_spec n hn x).1
def mostE (n : Int) : Int := if n = 256 then 8160 else 12240
theorem most_eq (n : Int) (hn : okB n) : w64 ((w64 (255 * n)).tdiv 8) = mostE n := by
  rcases hn with h | h <;> subst h <;> decide
def expE (n : Int) (key info : Str) (size : Int) : Str × Int := if okB n ∧ 0 ≤ size ∧ size ≤ mostE n then (expT n key info size.toNat, 0) else ([], 300)
theorem exp_loop {body : Str × Str × Int → Option ((Str × Str × Int) ⊕ Str)} (n : Int) (hn : okB n) (key info : Str) (size : Nat) (hs : size < 100000)
    (hstep : ∀ (k : Nat) (o t : Str), o.length < size → o.length ≤ 100000 → t.length ≤ 48 → k < 100000 → body (o, t, ((k + 1 : Nat) : Int)) = some (.inl (o ++ macE n key (t ++ info ++ [BitVec.ofInt 8 ((k + 1 : Nat) : Int)]), macE n key (t ++ info ++ [BitVec.ofInt 8 ((k + 1 : Nat) : Int)]), ((k + 1 + 1 : Nat) : Int))))
    (hend : ∀ (k : Nat) (o t : Str), ¬ o.length < size → body (o, t, ((k + 1 : Nat) : Int)) = some (.inr o)) :
    loop body BIG ([], [], 1) = some (oT n key info (cnt n size)) := by
  obtain ⟨h1, h2, h3⟩ := cnt_spec n hn size
  refine loop_fn (fun k => (oT n key info k, tT n key info k, ((k + 1 : Nat) : Int))) (cnt n size) _ (by omega) rfl (fun k hk => ?_) ?_
  · have hl := oT_length n hn key info k
    have := h2 k hk
    exact (hstep k _ _ (by omega) (by omega) (tT_le n hn _ _ _) (by omega)).trans rfl
  · have hl := oT_length n hn key info (cnt n size)
    exact hend _ _ _ (by omega)
theorem Expand_eq (n : Int) (key info : Str) (size : Int) (hk : key.length ≤ 140737488355328) (hi : info.length ≤ 140737488355000) : hkdf_Expand n key info size = some (expE n key info size) := by
  unfold hkdf_Expand expE
  by_cases hn : okB n
  · refine bind_i (newMac_eq n hn key hk) ?_
    dsimp only
    rw [most_eq n hn]
    by_cases c1 : size < 0
    · rw [if_neg (c := okB n ∧ 0 ≤ size ∧ size ≤ mostE n) (fun h => absurd h.2.1 (by omega))]
      exact if_i c1 rfl
    refine if_n c1 ?_
    by_cases c2 : mostE n < size
    · rw [if_neg (c := okB n ∧ 0 ≤ size ∧ size ≤ mostE n) (fun h => absurd h.2.2 (by omega))]
      exact if_i c2 rfl
    refine if_n c2 ?_
    rw [if_pos (c := okB n ∧ 0 ≤ size ∧ size ≤ mostE n) ⟨hn, by omega, by omega⟩]
    have hm : mostE n ≤ 12240 := by unfold mostE; split <;> omega
    obtain ⟨z, rfl⟩ : ∃ z : Nat, size = (z : Int) := ⟨size.toNat, by omega⟩
    have hol := oT_length n hn key info (cnt n z)
    have hcs := (cnt_spec n hn z).1
    refine bind_i (exp_loop n hn key info z (by omega) (fun k o t h1 h2 h3 h4 => ?_) (fun k o t h1 => ?_)) ?_
    · have e1 : w64 (((k + 1 : Nat) : Int) + 1) = ((k + 1 + 1 : Nat) : Int) := w64_add (b := 1) (by omega)
      have hlen : (t ++ info ++ [BitVec.ofInt 8 ((k + 1 : Nat) : Int)]).length = t.length + info.length + 1 := by simp only [List.length_append, List.length_cons, List.length_nil]
      have hml := macE_length n hn key (t ++ info ++ [BitVec.ofInt 8 ((k + 1 : Nat) : Int)])
      have hd2 := hl_or n hn
      unfold hkdf_Expand.b0
      simp only [e1]
      clear e1
      refine if_i (by omega) (if_i (by omega) (if_i rfl (if_i (by simp only [List.length_append, List.length_cons, List.length_nil]; omega) (bind_i (mac_eq n hn key _ (by omega)) (if_i (by omega) (ltt_i fun i hi2 => ?_))))))
      rw [hi2]
    · unfold hkdf_Expand.b0
      exact if_n (by simp only; omega) rfl
    · refine if_i (by omega) (if_i (by simp only [Int.toNat_natCast]; omega) (ltt_i fun x hx => ?_))
      rw [hx]; rfl
  · rw [if_neg (fun h => hn h.1)]
    exact bind_i (newMac_none n hn key) rfl
theorem ExpandR_eq (n : Int) (key info : Str) (size : Int) (hk : key.length ≤ 140737488355328) (hi : info.length ≤ 140737488355000) : halberdref1_Expand n key info size = some (expE n key info size) := by
  unfold halberdref1_Expand expE
  refine bind_i (may1_eq n) ?_
  by_cases hn : okB n
  · refine if_n (by simp [hn]) ?_
    rw [most_eq n hn]
    by_cases c1 : size < 0
    · rw [if_neg (c := okB n ∧ 0 ≤ size ∧ size ≤ mostE n) (fun h => absurd h.2.1 (by omega))]
      exact if_i c1 rfl
    refine if_n c1 ?_
    by_cases c2 : mostE n < size
    · rw [if_neg (c := okB n ∧ 0 ≤ size ∧ size ≤ mostE n) (fun h => absurd h.2.2 (by omega))]
      exact if_i c2 rfl
    refine if_n c2 ?_
    rw [if_pos (c := okB n ∧ 0 ≤ size ∧ size ≤ mostE n) ⟨hn, by omega, by omega⟩]
    have hm : mostE n ≤ 12240 := by unfold mostE; split <;> omega
    obtain ⟨z, rfl⟩ : ∃ z : Nat, size = (z : Int) := ⟨size.toNat, by omega⟩
    have hol := oT_length n hn key info (cnt n z)
    have hcs := (cnt_spec n hn z).1
    refine bind_i (exp_loop n hn key info z (by omega) (fun k o t h1 h2 h3 h4 => ?_) (fun k o t h1 => ?_)) ?_
    · have e1 : w64 (((k + 1 : Nat) : Int) + 1) = ((k + 1 + 1 : Nat) : Int) := w64_add (b := 1) (by omega)
      have hlen : (t ++ info ++ [BitVec.ofInt 8 ((k + 1 : Nat) : Int)]).length = t.length + info.length + 1 := by simp only [List.length_append, List.length_cons, List.length_nil]
      have hml := macE_length n hn key (t ++ info ++ [BitVec.ofInt 8 ((k + 1 : Nat) : Int)])
      have hd2 := hl_or n hn
      unfold halberdref1_Expand.b0
      simp only [e1]
      clear e1
      refine if_i (by omega) (if_i (by omega) (if_i rfl (if_i (by simp only [List.length_append, List.length_cons, List.length_nil]; omega) (bind_i (Mac_eq n hn key _ (by omega) (by omega)) (if_i (by omega) (ltt_i fun i hi2 => ?_))))))
      rw [hi2]
    · unfold halberdref1_Expand.b0
      exact if_n (by simp only; omega) rfl
    · refine if_i (by omega) (if_i (by simp only [Int.toNat_natCast]; omega) (ltt_i fun x hx => ?_))
      rw [hx]; rfl
  · rw [if_neg (c := okB n ∧ 0 ≤ size ∧ size ≤ mostE n) (fun h => hn h.1)]
    exact if_i (by simp [hn]) rfl

/-! Label. -/
def pre6 : Str := [116#8, 108#8, 115#8, 49#8, 51#8, 32#8]
theorem bytesI_one (x : Int) : bytesI x 1 = [BitVec.ofInt 8 x] := by
  have hr : List.range 1 = [0] := rfl
  unfold bytesI
  rw [hr]
  simp
theorem bytesI_two (x : Int) : bytesI x 2 = [BitVec.ofInt 8 (shrI' x 8), BitVec.ofInt 8 x] := by
  have hr : List.range 2 = [0, 1] := rfl
  have hs : shrI' x 8 = x / 256 := rfl
  unfold bytesI
  rw [hr, hs]
  simp
theorem wb1 (x : Int) : wire_Bytes x 1 = some (bytesI x 1) := by
  unfold wire_Bytes
  refine ltt_i fun x1 hx1 => if_n (by rw [hx1]; decide) (ltt_i fun x2 hx2 => if_n (by rw [hx2]; decide) (ltt_i fun x3 hx3 => if_n (by rw [hx3]; decide) (if_i (by simp) (ltt_i fun l hl => ?_))))
  rw [hl, bytesI_one]; rfl
theorem wb2 (x : Int) : wire_Bytes x 2 = some (bytesI x 2) := by
  unfold wire_Bytes
  refine ltt_i fun x1 hx1 => if_n (by rw [hx1]; decide) (ltt_i fun x2 hx2 => if_n (by rw [hx2]; decide) (ltt_i fun x3 hx3 => if_i (by rw [hx3]; decide) (if_i (by simp) (ltt_i fun l hl => if_i (by rw [hl]; simp) (ltt_i fun l2 hl2 => ?_)))))
  rw [hl2, hl, bytesI_two]; rfl
def vec1 (s : Str) : Str := bytesI (s.length : Int) 1 ++ s
theorem vec1_length (s : Str) : (vec1 s).length = s.length + 1 := by
  unfold vec1; rw [List.length_append, bytesI_length]; omega
theorem put1 (s : Str) (h : s.length ≤ 255) : wire_PutVec s 1 = some (vec1 s, 0) := by
  have e1 : w64 (8 * 1) = 8 := by decide
  have hs : shrI' (s.length : Int) 8 = (s.length : Int) / 256 := rfl
  unfold wire_PutVec
  rw [e1, hs]
  exact if_n (by decide) (if_n (by decide) (if_i (by decide) (if_n (by omega) (bind_i (wb1 _) (if_i (by rw [bytesI_length]; omega) rfl)))))
theorem v1 (s : Str) (h : s.length ≤ 255) : halberdref1_V s 1 = some (vec1 s) := by
  unfold halberdref1_V
  exact bind_i (Be_eq _ 1 (by decide)) (if_i (by rw [bytesI_length]; omega) rfl)
def infoE (label context : Str) (size : Int) : Str := bytesI size 2 ++ vec1 (pre6 ++ label) ++ vec1 context
theorem infoE_length (label context : Str) (size : Int) : (infoE label context size).length = label.length + context.length + 10 := by
  unfold infoE
  simp only [List.length_append, bytesI_length, vec1_length]
  have : pre6.length = 6 := rfl
  omega
def labE (n : Int) (key label context : Str) (size : Int) : Str × Int := if label.length ≤ 249 ∧ context.length ≤ 255 ∧ 0 ≤ size ∧ size ≤ 65535 then expE n key (infoE label context size) size else ([], 300)
theorem Label_eq (n : Int) (key label context : Str) (size : Int) (hk : key.length ≤ 140737488355328) : hkdf_Label n key label context size = some (labE n key label context size) := by
  unfold hkdf_Label labE
  by_cases c1 : 249 < (label.length : Int)
  · rw [if_neg (c := label.length ≤ 249 ∧ context.length ≤ 255 ∧ 0 ≤ size ∧ size ≤ 65535) (by omega)]; exact if_i c1 rfl
  refine if_n c1 ?_
  by_cases c2 : 255 < (context.length : Int)
  · rw [if_neg (c := label.length ≤ 249 ∧ context.length ≤ 255 ∧ 0 ≤ size ∧ size ≤ 65535) (by omega)]; exact if_i c2 rfl
  refine if_n c2 ?_
  by_cases c3 : size < 0
  · rw [if_neg (c := label.length ≤ 249 ∧ context.length ≤ 255 ∧ 0 ≤ size ∧ size ≤ 65535) (by omega)]; exact if_i c3 rfl
  refine if_n c3 ?_
  by_cases c4 : 65535 < size
  · rw [if_neg (c := label.length ≤ 249 ∧ context.length ≤ 255 ∧ 0 ≤ size ∧ size ≤ 65535) (by omega)]; exact if_i c4 rfl
  refine if_n c4 ?_
  rw [if_pos (c := label.length ≤ 249 ∧ context.length ≤ 255 ∧ 0 ≤ size ∧ size ≤ 65535) (by omega)]
  have hp : (pre6 ++ label).length = label.length + 6 := by rw [List.length_append]; show 6 + _ = _; omega
  have hv1 := vec1_length (pre6 ++ label)
  have hv2 := vec1_length context
  have hb := bytesI_length size 2
  have hi := infoE_length label context size
  refine if_i (by simp; omega) (bind_i (put1 (pre6 ++ label) (by omega)) (bind_i (put1 context (by omega)) (bind_i (wb2 size) (if_i (by simp only; omega) (if_i (by simp only [List.length_append]; omega) ?_)))))
  exact bind_i (Expand_eq n key (infoE label context size) size hk (by omega)) rfl
theorem LabelR_eq (n : Int) (key label context : Str) (size : Int) (hk : key.length ≤ 140737488355328) : halberdref1_Label n key label context size = some (labE n key label context size) := by
  unfold halberdref1_Label labE
  by_cases c1 : 249 < (label.length : Int)
  · rw [if_neg (c := label.length ≤ 249 ∧ context.length ≤ 255 ∧ 0 ≤ size ∧ size ≤ 65535) (by omega)]; exact if_i c1 rfl
  refine if_n c1 ?_
  by_cases c2 : 255 < (context.length : Int)
  · rw [if_neg (c := label.length ≤ 249 ∧ context.length ≤ 255 ∧ 0 ≤ size ∧ size ≤ 65535) (by omega)]; exact if_i c2 rfl
  refine if_n c2 ?_
  by_cases c3 : size < 0
  · rw [if_neg (c := label.length ≤ 249 ∧ context.length ≤ 255 ∧ 0 ≤ size ∧ size ≤ 65535) (by omega)]; exact if_i c3 rfl
  refine if_n c3 ?_
  by_cases c4 : 65535 < size
  · rw [if_neg (c := label.length ≤ 249 ∧ context.length ≤ 255 ∧ 0 ≤ size ∧ size ≤ 65535) (by omega)]; exact if_i c4 rfl
  refine if_n c4 ?_
  rw [if_pos (c := label.length ≤ 249 ∧ context.length ≤ 255 ∧ 0 ≤ size ∧ size ≤ 65535) (by omega)]
  have hp : (pre6 ++ label).length = label.length + 6 := by rw [List.length_append]; show 6 + _ = _; omega
  have hv1 := vec1_length (pre6 ++ label)
  have hv2 := vec1_length context
  have hb := bytesI_length size 2
  have hi := infoE_length label context size
  refine bind_i (Be_eq size 2 (by decide)) (if_i (by simp; omega) (bind_i (v1 (pre6 ++ label) (by omega)) (if_i (by omega) (bind_i (v1 context (by omega)) (if_i (by simp only [List.length_append]; omega) ?_)))))
  exact bind_i (ExpandR_eq n key (infoE label context size) size hk (by omega)) rfl
end Go.Proofs
end

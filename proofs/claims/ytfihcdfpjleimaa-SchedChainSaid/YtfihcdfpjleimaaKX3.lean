/-
  Part KX3 of the proofs of this seat: SchA, SchW, SchL.
-/
import Derived.Test.YtfihcdfpjleimaaKH2
import Derived.Test.YtfihcdfpjleimaaKX2
import Derived.Test.YtfihcdfpjleimaaKX1
import Derived.Test.YtfihcdfpjleimaaK2
section
/-
  The key schedule: the program's and the reference's.
-/
namespace Go.Proofs
open Go Go.Kx
set_option linter.unusedVariables false
set_option linter.unusedSimpArgs false
def okS (s : Int) : Prop := s = 4865 ∨ s = 4866 ∨ s = 4867
instance (s : Int) : Decidable (okS s) := inferInstanceAs (Decidable (_ ∨ _))
def bS (s : Int) : Int := if s = 4866 then 384 else 256
def kS (s : Int) : Int := if s = 4865 then 16 else 32
theorem bS_ok (s : Int) : okB (bS s) := by unfold bS; split <;> simp [okB]
theorem bS_or (s : Int) : bS s = 256 ∨ bS s = 384 := by unfold bS; split <;> simp
theorem Sizes_ok (s : Int) (h : okS s) : aead_Sizes s = some (kS s, bS s, 0) := by
  rcases h with h | h | h <;> subst h <;> rfl
theorem Sizes_no (s : Int) (h : ¬ okS s) : aead_Sizes s = some (0, 0, 800) := by
  unfold okS at h
  unfold aead_Sizes
  exact ltt_i fun a ha => if_n (by rw [ha, decide_eq_true_eq]; omega) (ltt_i fun b hb => if_n (by rw [hb, decide_eq_true_eq]; omega) (ltt_i fun c hc => if_n (by rw [hc, decide_eq_true_eq]; omega) rfl))
theorem SizesR_ok (s : Int) (h : okS s) : halberdref4_Sizes s = some (kS s, bS s, 0) := by
  rcases h with h | h | h <;> subst h <;> rfl
theorem SizesR_no (s : Int) (h : ¬ okS s) : halberdref4_Sizes s = some (0, 0, 800) := by
  unfold okS at h
  unfold halberdref4_Sizes
  exact ltt_i fun a ha => if_n (by rw [ha, decide_eq_true_eq]; omega) (ltt_i fun b hb => if_n (by rw [hb, decide_eq_true_eq]; omega) (ltt_i fun c hc => if_n (by rw [hc, decide_eq_true_eq]; omega) rfl))
theorem Bits_ok (s : Int) (h : okS s) : sched_Bits s = some (bS s, 0) := bind_i (Sizes_ok s h) (if_n (fun c => c rfl) rfl)
theorem Bits_no (s : Int) (h : ¬ okS s) : sched_Bits s = some (0, 1900) := bind_i (Sizes_no s h) (if_i (by decide) rfl)
theorem BitsR_ok (s : Int) (h : okS s) : halberdref19_Bits s = some (bS s, 0) := bind_i (SizesR_ok s h) (if_n (fun c => c rfl) rfl)
theorem BitsR_no (s : Int) (h : ¬ okS s) : halberdref19_Bits s = some (0, 1900) := bind_i (SizesR_no s h) (if_i (by decide) rfl)
/-- A label of a suite. -/
def slE (s : Int) (secret name ctx : Str) (size : Int) : Str × Int :=
  if okS s then (if (labE (bS s) secret name ctx size).2 ≠ 0 then ([], 1900) else ((labE (bS s) secret name ctx size).1, 0)) else ([], 1900)
theorem label_eq (s : Int) (secret name ctx : Str) (size : Int) (hk : secret.length ≤ 140737488355328) : sched_label s secret name ctx size = some (slE s secret name ctx size) := by
  unfold sched_label slE
  by_cases h : okS s
  · rw [if_pos h]
    refine bind_i (Bits_ok s h) (if_n (fun c => c rfl) (bind_i (Label_eq (bS s) secret name ctx size hk) ?_))
    split <;> rfl
  · rw [if_neg h]
    exact bind_i (Bits_no s h) (if_i (by decide) rfl)
theorem labelR_eq (s : Int) (secret name ctx : Str) (size : Int) (hk : secret.length ≤ 140737488355328) : halberdref19_Label s secret name ctx size = some (slE s secret name ctx size) := by
  unfold halberdref19_Label slE
  by_cases h : okS s
  · rw [if_pos h]
    refine bind_i (BitsR_ok s h) (if_n (fun c => c rfl) (bind_i (LabelR_eq (bS s) secret name ctx size hk) ?_))
    split <;> rfl
  · rw [if_neg h]
    exact bind_i (BitsR_no s h) (if_i (by decide) rfl)
def hS (s : Int) : Nat := (bS s).toNat / 8
theorem hS_or (s : Int) : hS s = 32 ∨ hS s = 48 := by unfold hS bS; split <;> simp
theorem w_bS (s : Int) : w64 ((bS s).tdiv 8) = (hS s : Int) := by unfold hS; rcases bS_or s with h | h <;> rw [h] <;> rfl
theorem slE_no (s : Int) (h : ¬ okS s) (secret name ctx : Str) (size : Int) : slE s secret name ctx size = ([], 1900) := by unfold slE; rw [if_neg h]
theorem slE_ok (s : Int) (h : okS s) (secret name ctx : Str) (z : Nat) (hn : name.length ≤ 249) (hc : ctx.length ≤ 255) (hz : z ≤ 4095) : slE s secret name ctx (z : Int) = (expT (bS s) secret (infoE name ctx z) z, 0) := by
  have e : labE (bS s) secret name ctx (z : Int) = (expT (bS s) secret (infoE name ctx z) z, 0) := by
    unfold labE expE
    rw [if_pos ⟨hn, hc, by omega, by omega⟩, if_pos ⟨bS_ok s, by omega, by unfold mostE; split <;> omega⟩]
    rfl
  unfold slE
  rw [if_pos h, e]
  rfl
def dvE (s : Int) (secret name ts : Str) : Str × Int := slE s secret name ts (hS s : Int)
theorem Derive_eq (s : Int) (secret name ts : Str) (hk : secret.length ≤ 140737488355328) : sched_Derive s secret name ts = some (dvE s secret name ts) := by
  unfold sched_Derive dvE
  by_cases h : okS s
  · refine bind_i (Bits_ok s h) (if_n (fun c => c rfl) (bind_i (label_eq s secret name ts _ hk) ?_))
    rw [w_bS]
  · rw [slE_no s h]
    exact bind_i (Bits_no s h) (if_i (by decide) rfl)
theorem DeriveR_eq (s : Int) (secret name ts : Str) (hk : secret.length ≤ 140737488355328) : halberdref19_Derive s secret name ts = some (dvE s secret name ts) := by
  unfold halberdref19_Derive dvE
  by_cases h : okS s
  · refine bind_i (BitsR_ok s h) (bind_i (labelR_eq s secret name ts _ hk) ?_)
    rw [w_bS]
  · rw [slE_no s h]
    exact bind_i (BitsR_no s h) (bind_i (labelR_eq s secret name ts _ hk) (by rw [slE_no s h]))
theorem dvE_no (s : Int) (h : ¬ okS s) (secret name ts : Str) : dvE s secret name ts = ([], 1900) := slE_no s h _ _ _ _
def dvT (s : Int) (secret name ts : Str) : Str := expT (bS s) secret (infoE name ts (hS s : Int)) (hS s)
theorem dvT_length (s : Int) (secret name ts : Str) : (dvT s secret name ts).length = hS s := expT_length _ (bS_ok s) _ _ _
theorem dvE_ok (s : Int) (h : okS s) (secret name ts : Str) (hn : name.length ≤ 249) (hc : ts.length ≤ 255) : dvE s secret name ts = (dvT s secret name ts, 0) :=
  slE_ok s h secret name ts (hS s) hn hc (by have := hS_or s; omega)
/-- So many noughts in place of nothing. -/
def zrE (s : Int) (key : Str) : Str := if key = [] then List.replicate (hS s) 0#8 else key
theorem zrE_le (s : Int) (key : Str) (h : key.length ≤ 140737488351232) : (zrE s key).length ≤ 140737488355328 := by
  unfold zrE
  have := hS_or s
  split
  · rw [List.length_replicate]; omega
  · omega
theorem zeros_eq (s : Int) (key : Str) : halberdref19_zeros key (bS s) = some (zrE s key) := by
  have := hS_or s
  unfold halberdref19_zeros zrE
  rw [w_bS]
  by_cases h : key = []
  · rw [if_pos h, if_pos h, Int.toNat_natCast]
    exact if_i (by omega) (if_i List.length_replicate rfl)
  · rw [if_neg h, if_neg h]
def exT (s : Int) (salt key : Str) : Str := macE (bS s) salt (zrE s key)
theorem exT_length (s : Int) (salt key : Str) : (exT s salt key).length = hS s := macE_length _ (bS_ok s) _ _
def exE (s : Int) (salt key : Str) : Str × Int := if okS s then (exT s salt key, 0) else ([], 1900)
theorem extract_eq (s : Int) (salt key : Str) (hs : salt.length ≤ 140737488355328) (hk : key.length ≤ 140737488351232) : sched_extract s salt key = some (exE s salt key) := by
  have hh := hS_or s
  unfold sched_extract exE
  by_cases h : okS s
  · rw [if_pos h]
    refine bind_i (Bits_ok s h) (if_n (fun c => c rfl) ?_)
    dsimp only
    rw [w_bS]
    have hz : (if key = ([] : Str) then (if 0 ≤ (hS s : Int) ∧ (hS s : Int) ≤ 17592186044416 then (if (List.replicate ((hS s : Int).toNat) 0#8).length = (hS s : Int).toNat then (ltt (List.replicate ((hS s : Int).toNat) 0#8) fun (key1 : Str) => (some key1)) else none) else none) else (some key)) = some (zrE s key) := by
      unfold zrE
      by_cases hk0 : key = []
      · rw [if_pos hk0, if_pos hk0, Int.toNat_natCast]
        exact if_i (by omega) (if_i List.length_replicate rfl)
      · rw [if_neg hk0, if_neg hk0]
    refine bind_i hz (bind_i (Extract_eq (bS s) salt _ hs (zrE_le s key hk)) ?_)
    unfold hmacE
    rw [if_pos (bS_ok s)]
    rfl
  · rw [if_neg h]
    exact bind_i (Bits_no s h) (if_i (by decide) rfl)
def zS (s : Int) : Str := List.replicate (hS s) 0#8
theorem zS_length (s : Int) : (zS s).length = hS s := List.length_replicate
def eaE (s : Int) (psk : Str) : Str × Int := exE s (zS s) psk
theorem Early_eq (s : Int) (psk : Str) (hk : psk.length ≤ 140737488351232) : sched_Early s psk = some (eaE s psk) := by
  have hh := hS_or s
  unfold sched_Early eaE
  by_cases h : okS s
  · refine bind_i (Bits_ok s h) ?_
    dsimp only
    rw [w_bS, Int.toNat_natCast]
    exact if_i (by omega) (if_i List.length_replicate (bind_i (extract_eq s _ psk (by rw [List.length_replicate]; omega) hk) rfl))
  · refine bind_i (Bits_no s h) ?_
    have e0 : w64 ((0 : Int).tdiv 8) = 0 := by decide
    dsimp only
    rw [e0]
    have hx : ∀ a, exE s a psk = ([], 1900) := fun a => by unfold exE; rw [if_neg h]
    refine if_i (by decide) (if_i (by decide) (bind_i (extract_eq s _ psk (by simp) hk) ?_))
    rw [hx, hx]
theorem Mac_ok (s : Int) (a b : Str) (ha : a.length ≤ 140737488355328) (hb : b.length ≤ 140737488355328) : halberdref1_Mac (bS s) a b = some (macE (bS s) a b) := Mac_eq (bS s) (bS_ok s) a b (by omega) (by omega)
theorem zrE_nil (s : Int) : zrE s [] = zS s := if_pos rfl
theorem EarlyR_eq (s : Int) (psk : Str) (hk : psk.length ≤ 140737488351232) : halberdref19_Early s psk = some (eaE s psk) := by
  have hh := hS_or s
  unfold halberdref19_Early eaE exE
  by_cases h : okS s
  · rw [if_pos h]
    refine bind_i (BitsR_ok s h) (if_n (fun c => c rfl) (bind_i (zeros_eq s []) (bind_i (zeros_eq s psk) (bind_i (Mac_ok s _ _ ?_ (zrE_le s psk hk)) ?_))))
    · rw [zrE_nil, zS_length]; omega
    · rw [zrE_nil]; rfl
  · rw [if_neg h]
    exact bind_i (BitsR_no s h) (if_i (by decide) rfl)
theorem Hash_ok (s : Int) (h : okS s) (t : Str) (ht : t.length ≤ 140737488355328) : sched_Hash s t = some (dig (bS s) t) := by
  refine bind_i (Bits_ok s h) (bind_i (Sum_eq (bS s) t ht) ?_)
  rw [if_pos (bS_or s)]
theorem Hash_no (s : Int) (h : ¬ okS s) (t : Str) (ht : t.length ≤ 140737488355328) : sched_Hash s t = some [] :=
  bind_i (Bits_no s h) (bind_i (Sum_eq 0 t ht) rfl)
theorem HashR_ok (s : Int) (t : Str) (ht : t.length ≤ 140737488355328) : halberdref1_Hash (bS s) t = some (dig (bS s) t) := Hash_eq (bS s) (bS_or s) t (by omega)
theorem Empty_ok (s : Int) (h : okS s) : halberdref19_Empty s = some (dig (bS s) []) :=
  bind_i (BitsR_ok s h) (bind_i (HashR_ok s [] (by simp)) rfl)
theorem dS_le (s : Int) (t : Str) : (dig (bS s) t).length ≤ 255 := by
  rw [dig_length _ (bS_or s)]; have := hS_or s; unfold hS at this; omega
abbrev lDerived : Str := [100#8, 101#8, 114#8, 105#8, 118#8, 101#8, 100#8]
def mxE (s : Int) (secret key : Str) : Str × Int := exE s (dvT s secret lDerived (dig (bS s) [])) key
theorem Mix_eq (s : Int) (secret key : Str) (hs : secret.length ≤ 140737488355328) (hk : key.length ≤ 140737488351232) : sched_Mix s secret key = some (mxE s secret key) := by
  have hh := hS_or s
  unfold sched_Mix mxE
  by_cases h : okS s
  · refine bind_i (Hash_ok s h [] (by simp)) (bind_i (Derive_eq s secret lDerived _ hs) ?_)
    rw [dvE_ok s h _ _ _ (by decide) (dS_le s [])]
    exact if_n (fun c => c rfl) (bind_i (extract_eq s _ key (by rw [dvT_length]; omega) hk) rfl)
  · refine bind_i (Hash_no s h [] (by simp)) (bind_i (Derive_eq s secret lDerived _ hs) ?_)
    rw [dvE_no s h]
    unfold exE
    rw [if_neg h]
    exact if_i (by decide) rfl
theorem MixR_eq (s : Int) (secret key : Str) (hs : secret.length ≤ 140737488355328) (hk : key.length ≤ 140737488351232) : halberdref19_Mix s secret key = some (mxE s secret key) := by
  have hh := hS_or s
  unfold halberdref19_Mix mxE exE
  by_cases h : okS s
  · rw [if_pos h]
    refine bind_i (BitsR_ok s h) (if_n (fun c => c rfl) (bind_i (Empty_ok s h) (bind_i (DeriveR_eq s secret lDerived _ hs) (bind_i (zeros_eq s key) ?_))))
    rw [dvE_ok s h _ _ _ (by decide) (dS_le s [])]
    exact bind_i (Mac_ok s _ _ (by rw [dvT_length]; omega) (zrE_le s key hk)) rfl
  · rw [if_neg h]
    exact bind_i (BitsR_no s h) (if_i (by decide) rfl)
def kN (s : Int) : Nat := (kS s).toNat
theorem kS_nat (s : Int) : kS s = (kN s : Int) := by unfold kN kS; split <;> rfl
theorem kN_le (s : Int) : kN s = 16 ∨ kN s = 32 := by unfold kN kS; split <;> simp
abbrev lKey : Str := [107#8, 101#8, 121#8]
abbrev lIv : Str := [105#8, 118#8]
def lbT (s : Int) (secret name ctx : Str) (z : Nat) : Str := expT (bS s) secret (infoE name ctx z) z
theorem lbT_length (s : Int) (secret name ctx : Str) (z : Nat) : (lbT s secret name ctx z).length = z := expT_length _ (bS_ok s) _ _ _
def kyE (s : Int) (secret : Str) : Str × Str × Int := if okS s then (lbT s secret lKey [] (kN s), lbT s secret lIv [] 12, 0) else ([], [], 1900)
theorem Keys_eq (s : Int) (secret : Str) (hs : secret.length ≤ 140737488355328) : sched_Keys s secret = some (kyE s secret) := by
  have hh := kN_le s
  unfold sched_Keys kyE
  by_cases h : okS s
  · rw [if_pos h]
    refine bind_i (Sizes_ok s h) (bind_i (label_eq s secret lKey [] _ hs) ?_)
    dsimp only
    rw [kS_nat, slE_ok s h secret lKey [] (kN s) (by decide) (by decide) (by omega)]
    refine if_n (fun c => c rfl) (bind_i (label_eq s secret lIv [] 12 hs) ?_)
    have : slE s secret lIv [] (12 : Int) = (lbT s secret lIv [] 12, 0) := slE_ok s h secret lIv [] 12 (by decide) (by decide) (by omega)
    rw [this]
    rfl
  · rw [if_neg h]
    refine bind_i (Sizes_no s h) (bind_i (label_eq s secret lKey [] _ hs) ?_)
    rw [slE_no s h]
    exact if_i (by decide) rfl
theorem KeysR_eq (s : Int) (secret : Str) (hs : secret.length ≤ 140737488355328) : halberdref19_Keys s secret = some (kyE s secret) := by
  have hh := kN_le s
  unfold halberdref19_Keys kyE
  by_cases h : okS s
  · rw [if_pos h]
    refine bind_i (SizesR_ok s h) (if_n (fun c => c rfl) (bind_i (labelR_eq s secret lKey [] _ hs) (bind_i (labelR_eq s secret lIv [] 12 hs) ?_)))
    dsimp only
    have : slE s secret lIv [] (12 : Int) = (lbT s secret lIv [] 12, 0) := slE_ok s h secret lIv [] 12 (by decide) (by decide) (by omega)
    rw [kS_nat, slE_ok s h secret lKey [] (kN s) (by decide) (by decide) (by omega), this]
    rfl
  · rw [if_neg h]
    exact bind_i (SizesR_no s h) (if_i (by decide) rfl)
abbrev lNext : Str := [116#8, 114#8, 97#8, 102#8, 102#8, 105#8, 99#8, 32#8, 117#8, 112#8, 100#8]
theorem Next_eq (s : Int) (secret : Str) (hs : secret.length ≤ 140737488355328) : sched_Next s secret = some (dvE s secret lNext []) := bind_i (Derive_eq s secret lNext [] hs) rfl
theorem NextR_eq (s : Int) (secret : Str) (hs : secret.length ≤ 140737488355328) : halberdref19_Next s secret = some (dvE s secret lNext []) := bind_i (DeriveR_eq s secret lNext [] hs) rfl
abbrev lFin : Str := [102#8, 105#8, 110#8, 105#8, 115#8, 104#8, 101#8, 100#8]
def fnT (s : Int) (secret hash : Str) : Str := macE (bS s) (dvT s secret lFin []) hash
def fnE (s : Int) (secret hash : Str) : Str × Int := if okS s then (fnT s secret hash, 0) else ([], 1900)
theorem Finished_eq (s : Int) (secret hash : Str) (hs : secret.length ≤ 140737488355328) (hh : hash.length ≤ 140737488355328) : sched_Finished s secret hash = some (fnE s secret hash) := by
  have hq := hS_or s
  unfold sched_Finished fnE
  by_cases h : okS s
  · rw [if_pos h]
    refine bind_i (Derive_eq s secret lFin [] hs) ?_
    rw [dvE_ok s h _ _ _ (by decide) (by decide)]
    refine if_n (fun c => c rfl) (bind_i (Bits_ok s h) (bind_i (Hmac_eq (bS s) _ hash (by rw [dvT_length]; omega) hh) ?_))
    unfold hmacE
    rw [if_pos (bS_ok s)]
    rfl
  · rw [if_neg h]
    refine bind_i (Derive_eq s secret lFin [] hs) ?_
    rw [dvE_no s h]
    exact if_i (by decide) rfl
theorem FinishedR_eq (s : Int) (secret hash : Str) (hs : secret.length ≤ 140737488355328) (hh : hash.length ≤ 140737488355328) : halberdref19_Finished s secret hash = some (fnE s secret hash) := by
  have hq := hS_or s
  unfold halberdref19_Finished fnE
  by_cases h : okS s
  · rw [if_pos h]
    refine bind_i (BitsR_ok s h) (if_n (fun c => c rfl) (bind_i (DeriveR_eq s secret lFin [] hs) ?_))
    rw [dvE_ok s h _ _ _ (by decide) (by decide)]
    exact bind_i (Mac_ok s _ hash (by rw [dvT_length]; omega) hh) rfl
  · rw [if_neg h]
    exact bind_i (BitsR_no s h) (if_i (by decide) rfl)
abbrev lBind : Str := [114#8, 101#8, 115#8, 32#8, 98#8, 105#8, 110#8, 100#8, 101#8, 114#8]
def bnE (s : Int) (psk hash : Str) : Str × Int := fnE s (dvT s (exT s (zS s) psk) lBind (dig (bS s) [])) hash
theorem Binder_eq (s : Int) (psk hash : Str) (hs : psk.length ≤ 140737488351232) (hh : hash.length ≤ 140737488355328) : sched_Binder s psk hash = some (bnE s psk hash) := by
  have hq := hS_or s
  unfold sched_Binder bnE
  refine bind_i (Early_eq s psk hs) ?_
  unfold eaE exE
  by_cases h : okS s
  · rw [if_pos h]
    refine if_n (fun c => c rfl) (bind_i (Hash_ok s h [] (by simp)) (bind_i (Derive_eq s _ lBind _ (by rw [exT_length]; omega)) ?_))
    rw [dvE_ok s h _ _ _ (by decide) (dS_le s [])]
    exact bind_i (Finished_eq s _ hash (by rw [dvT_length]; omega) hh) rfl
  · rw [if_neg h]
    unfold fnE
    rw [if_neg h]
    exact if_i (by decide) rfl
theorem BinderR_eq (s : Int) (psk hash : Str) (hs : psk.length ≤ 140737488351232) (hh : hash.length ≤ 140737488355328) : halberdref19_Binder s psk hash = some (bnE s psk hash) := by
  have hq := hS_or s
  unfold halberdref19_Binder bnE
  refine bind_i (EarlyR_eq s psk hs) ?_
  unfold eaE exE
  by_cases h : okS s
  · rw [if_pos h]
    refine if_n (fun c => c rfl) (bind_i (Empty_ok s h) (bind_i (DeriveR_eq s _ lBind _ (by rw [exT_length]; omega)) ?_))
    rw [dvE_ok s h _ _ _ (by decide) (dS_le s [])]
    exact bind_i (FinishedR_eq s _ hash (by rw [dvT_length]; omega) hh) rfl
  · rw [if_neg h]
    unfold fnE
    rw [if_neg h]
    exact if_i (by decide) rfl
abbrev lExp : Str := [101#8, 120#8, 112#8, 111#8, 114#8, 116#8, 101#8, 114#8]
def xpE (s : Int) (secret name ctx : Str) (size : Int) : Str × Int :=
  if okS s then (if (dvE s secret name (dig (bS s) [])).2 ≠ 0 then ([], (dvE s secret name (dig (bS s) [])).2) else slE s (dvE s secret name (dig (bS s) [])).1 lExp (dig (bS s) ctx) size) else ([], 1900)
theorem slE_bad (s : Int) (secret name ctx : Str) (size : Int) (hn : ¬ (name.length ≤ 249 ∧ ctx.length ≤ 255)) : slE s secret name ctx size = ([], 1900) := by
  unfold slE labE
  rw [if_neg (c := name.length ≤ 249 ∧ ctx.length ≤ 255 ∧ 0 ≤ size ∧ size ≤ 65535) (fun c => hn ⟨c.1, c.2.1⟩)]
  split <;> rfl
theorem dvE_le (s : Int) (secret name ts : Str) : (dvE s secret name ts).1.length ≤ 48 := by
  have hq := hS_or s
  by_cases h : okS s
  · by_cases hn : name.length ≤ 249 ∧ ts.length ≤ 255
    · rw [dvE_ok s h _ _ _ hn.1 hn.2]
      show (dvT s secret name ts).length ≤ 48
      rw [dvT_length]; omega
    · unfold dvE
      rw [slE_bad _ _ _ _ _ hn]; simp
  · rw [dvE_no s h]; simp
theorem Export_eq (s : Int) (secret name ctx : Str) (size : Int) (hs : secret.length ≤ 140737488355328) (hc : ctx.length ≤ 140737488355328) : sched_Export s secret name ctx size = some (xpE s secret name ctx size) := by
  unfold sched_Export xpE
  by_cases h : okS s
  · rw [if_pos h]
    refine bind_i (Hash_ok s h [] (by simp)) (bind_i (Derive_eq s secret name _ hs) ?_)
    have hl := dvE_le s secret name (dig (bS s) [])
    generalize dvE s secret name (dig (bS s) []) = d at *
    by_cases c : d.2 ≠ 0
    · rw [if_pos c, if_pos c]
    · rw [if_neg c, if_neg c]
      exact bind_i (Hash_ok s h ctx hc) (bind_i (label_eq s d.1 lExp _ size (by omega)) rfl)
  · rw [if_neg h]
    refine bind_i (Hash_no s h [] (by simp)) (bind_i (Derive_eq s secret name _ hs) ?_)
    rw [dvE_no s h]
    exact if_i (by decide) rfl
theorem ExportR_eq (s : Int) (secret name ctx : Str) (size : Int) (hs : secret.length ≤ 140737488355328) (hc : ctx.length ≤ 140737488355328) : halberdref19_Export s secret name ctx size = some (xpE s secret name ctx size) := by
  unfold halberdref19_Export xpE
  by_cases h : okS s
  · rw [if_pos h]
    refine bind_i (BitsR_ok s h) (if_n (fun c => c rfl) (bind_i (Empty_ok s h) (bind_i (DeriveR_eq s secret name _ hs) ?_)))
    have hl := dvE_le s secret name (dig (bS s) [])
    generalize dvE s secret name (dig (bS s) []) = d at *
    by_cases c : d.2 ≠ 0
    · rw [if_pos c, if_pos c]
    · rw [if_neg c, if_neg c]
      exact bind_i (HashR_ok s ctx hc) (bind_i (labelR_eq s d.1 lExp _ size (by omega)) rfl)
  · rw [if_neg h]
    exact bind_i (BitsR_no s h) (if_i (by decide) rfl)
end Go.Proofs
end

section
/-
  What every program answers, of the key schedule: by the kernel.
-/
namespace Go.Proofs
open Go Go.Kx
set_option maxRecDepth 100000 in
theorem awake19 : halberdlaw19_awake = some true := by kernel_rfl
end Go.Proofs
end

section
/-
  What the laws of the key schedule share.
-/
namespace Go.Proofs
open Go Go.Kx
set_option linter.unusedVariables false
set_option linter.unusedSimpArgs false
def biE (s : Int) : Int × Int := if okS s then (bS s, 0) else (0, 1900)
theorem Bits_eq (s : Int) : sched_Bits s = some (biE s) := by
  unfold biE; split
  · exact Bits_ok s ‹_›
  · exact Bits_no s ‹_›
theorem BitsR_eq (s : Int) : halberdref19_Bits s = some (biE s) := by
  unfold biE; split
  · exact BitsR_ok s ‹_›
  · exact BitsR_no s ‹_›
theorem num_eq (e : Int) : halberdlaw0_Num e = some e := rfl
theorem xpE_no (s : Int) (h : ¬ okS s) (a b c : Str) (z : Int) : xpE s a b c z = ([], 1900) := if_neg h
theorem fnE_no (s : Int) (h : ¬ okS s) (a b : Str) : fnE s a b = ([], 1900) := if_neg h
theorem xpE_bad (s : Int) (h : okS s) (a b c : Str) (z : Int) (hb : b.length ≤ 249) (hz : ¬ (0 ≤ z ∧ z ≤ mostE (bS s))) : xpE s a b c z = ([], 1900) := by
  unfold xpE
  rw [if_pos h, dvE_ok s h _ _ _ hb (dS_le s [])]
  refine (if_neg (fun c => c rfl)).trans ?_
  unfold slE labE expE
  rw [if_pos h]
  rw [if_neg (c := okB (bS s) ∧ 0 ≤ z ∧ z ≤ mostE (bS s)) (fun c => hz c.2)]
  split <;> rfl
theorem which3 (which : Int) : ∃ w : Int, w64 (4865 + (w64 (((BitVec.ofInt 64 which) % 3#64).toNat : Int))) = w ∧ okS w := by
  have h : ((BitVec.ofInt 64 which) % 3#64).toNat < 3 := by
    rw [BitVec.toNat_umod]; exact Nat.mod_lt _ (by decide)
  generalize ((BitVec.ofInt 64 which) % 3#64).toNat = m at h
  refine ⟨_, rfl, ?_⟩
  rw [w64_nat (n := m) (by omega), w64_id (by omega) (by omega)]
  unfold okS; omega
theorem lab_ok (s : Int) (h : okS s) (secret name ctx : Str) (z : Nat) (hn : name.length ≤ 249) (hc : ctx.length ≤ 255) (hz : z ≤ 4095) (hs : secret.length ≤ 140737488355328) : halberdref1_Label (bS s) secret name ctx (z : Int) = some (expT (bS s) secret (infoE name ctx z) z, 0) := by
  rw [LabelR_eq (bS s) secret name ctx z hs]
  unfold labE expE
  rw [if_pos ⟨hn, hc, by omega, by omega⟩, if_pos ⟨bS_ok s, by omega, by unfold mostE; split <;> omega⟩]
  rfl
end Go.Proofs
end

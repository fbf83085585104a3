/-
  Part 2 of the proof of TicketForms.
-/
import Derived.Test.YtnplppmninimeaaDoorTkQ1
import Derived.Test.YtnplppmninimeaaDoorTkQ2
import Derived.Test.YtnplppmninimeaaDoorTkQ3
import Derived.Test.YtnplppmninimeaaDoorTkQ4
import Derived.Test.YtnplppmninimeaaDoorTkQ5
import Derived.Test.YtnplppmninimeaaDoorTkQ6
import Derived.Test.YtnplppmninimeaaDoorTkQ7
import Derived.Test.YtnplppmninimeaaDoorTkQ8
import Derived.Test.YtnplppmninimeaaDoorTkQ9
import Derived.Test.YtnplppmninimeaaDoorTkQ10
import Derived.Test.YtnplppmninimeaaDoorTkQ11
import Derived.Test.YtnplppmninimeaaDoorTkQ12
import Derived.Test.YtnplppmninimeaaDoorTkQ13
import Derived.Test.YtnplppmninimeaaDoorTkQ14
import Derived.Test.YtnplppmninimeaaDoorTkQ15
import Derived.Test.YtnplppmninimeaaDoorTkQ16
import Derived.Test.YtnplppmninimeaaDoorTkQ17
import Derived.Test.YtnplppmninimeaaDoorTkQ18
import Derived.Test.YtnplppmninimeaaDoorTkQ19
import Derived.Test.YtnplppmninimeaaDoorTkQ20
import Derived.Test.YtnplppmninimeaaDoorTkQ21
import Derived.Test.YtnplppmninimeaaDoorTicketFormsA1
set_option linter.unusedVariables false
set_option linter.unusedSimpArgs false
section
namespace Go.Proofs
open Go Go.Kx
def hitT {α:Type} (P:α → Prop) (o:Option α):Prop := ∃ v,o=some v∧P v
theorem hitT_some {α:Type} {P:α → Prop} {v:α} (h:P v):hitT P (some v):=⟨v,rfl,h⟩
theorem hitT_if {α:Type} {P:α → Prop} {c:Prop} [Decidable c] {a b:Option α} (hc:c) (h:hitT P a):hitT P (if c then a else b):=by rwa [if_pos hc]
theorem hitT_n {α:Type} {P:α → Prop} {c:Prop} [Decidable c] {a b:Option α} (hc : ¬ c) (h:hitT P b):hitT P (if c then a else b):=by rwa [if_neg hc]
theorem hitT_ltt {α β:Type} {P:β → Prop} {a:α} {f:α → Option β} (h : ∀ x,x=a → hitT P (f x)):hitT P (ltt a f):=h a rfl
theorem hitT_bind {α β:Type} {P:β → Prop} {o:Option α} {v:α} {f:α → Option β} (h:o=some v) (k:hitT P (f v)):hitT P (o.bind f):=by subst h; exact k
theorem bind_ex {α β:Type} {x:Option α} {f:α → Option β} {r:Option β} (P:α → Prop) (hx:hitT P x) (h : ∀ v,P v → f v=r):x.bind f=r:=by
 obtain ⟨v,rfl,hv⟩:=hx; exact h v hv
theorem hl66:hl 4866=48:=rfl
set_option maxHeartbeats 1000000 in
theorem TicketForms_true (which x:Int):halberdlaw20_TicketForms which x=some true:=by
 unfold halberdlaw20_TicketForms
 have i15:iop (· &&& ·) x 15=x % 16:=and_mask x 4 (by decide)
 rw [i15]
 clear i15
 obtain ⟨d,hd,hdl⟩ : ∃ d:Nat,w64 (1+x % 16)=(d:Int)∧1≤d∧d≤16:=by
  have h1:=Int.emod_nonneg x (show (16:Int) ≠ 0 by decide)
  have h2:=Int.emod_lt_of_pos x (show (0:Int)<16 by decide)
  exact ⟨(1+x % 16).toNat,by rw [w64_id (by omega) (by omega)]; omega,by omega,by omega⟩
 have w32:w64 (32 - (d:Int))=((32 - d:Nat):Int):=by rw [w64_id (by omega) (by omega)]; omega
 have w48:w64 (48 - (d:Int))=((48 - d:Nat):Int):=by rw [w64_id (by omega) (by omega)]; omega
 have wS:w64 (4867+(d:Int))=4867+(d:Int):=w64_id (by omega) (by omega)
 have wN:w64 (0 - (d:Int))=0 - (d:Int):=w64_id (by omega) (by omega)
 have wB:w64 (4294967295+(d:Int))=4294967295+(d:Int):=w64_id (by omega) (by omega)
 refine bind_i awake20 (if_n (by decide) (bind_i (filled20_eq [115#8] 48 (by decide)) (bind_i (filled20_eq [107#8] 32 (by decide)) (bind_i (filled20_eq [110#8] 12 (by decide)) ?_))))
 have hk:=filE_length [107#8] 32
 have hn:=filE_length [110#8] 12
 have hs:=filE_length [115#8] 48
 have gk:=filled20_eq [107#8] 32 (by decide)
 have gn:=filled20_eq [110#8] 12 (by decide)
 generalize filE [107#8] 32=key at hk gk ⊢
 generalize filE [110#8] 12=nonce at hn gn ⊢
 generalize filE [115#8] 48=sec at hs ⊢
 have hT:okT 4866 sec 5 6:=⟨.inr (.inl rfl),by rw [hs]; rfl,by unfold ok32; omega,by unfold ok32; omega⟩
 have hL:=sealT_len hT hk hn
 rw [hl66] at hL
 have hc:(sealT key nonce 4866 sec 5 6).2=0:=by rw [sealT_pos ⟨hT,hk,hn⟩]
 have hpre:sub (sealT key nonce 4866 sec 5 6).1 0 12=nonce:=by
  rw [sealT_pos ⟨hT,hk,hn⟩]; exact sub_pre _ _ 12 hn.symm
 refine bind_i (SealT_eq _ _ _ _ _ _) ?_
 generalize sealT key nonce 4866 sec 5 6=o at hL hc hpre ⊢
 refine bind_i gk (bind_i gn (ltt_i fun d1 hd1=>ltt_i fun x1 hx1=>?_))
 rw [hd] at hd1
 subst hd1
 clear hd
 rw [w32,w48,wS,wN,wB]
 simp only [Int.toNat_natCast]
 generalize (BitVec.ofInt 64 which) % 8#64=m at hx1 ⊢
 refine bind_ex (fun j:Str × Str × Int × Str × Int × Int => ¬ (okT j.2.2.1 j.2.2.2.1 j.2.2.2.2.1 j.2.2.2.2.2∧j.1.length=32∧j.2.1.length=12)) ?_ fun j hj=>?_
 ·by_cases c0:m=0#64
  ·refine hitT_if (by rw [hx1]; exact decide_eq_true c0) (hitT_if (by omega) (hitT_if (by omega) (hitT_ltt fun k hk1=>hitT_some fun h=>?_)))
   have h:=h.2.1
   dsimp only at h
   rw [hk1,sub_length (by omega)] at h
   omega
  refine hitT_n (by rw [hx1,decide_eq_false c0]; decide) (hitT_ltt fun x3 hx3=>?_)
  by_cases c1:m=1#64
  ·refine hitT_if (by rw [hx3]; exact decide_eq_true c1) (hitT_bind (filled20_eq [] d (by omega)) (hitT_if (by rw [hn,filE_length]; omega) (hitT_some fun h=>?_)))
   have h:=h.2.2
   dsimp only at h
   rw [List.length_append,hn,filE_length] at h
   omega
  refine hitT_n (by rw [hx3,decide_eq_false c1]; decide) (hitT_ltt fun x4 hx4=>?_)
  by_cases c2:m=2#64
  ·refine hitT_if (by rw [hx4]; exact decide_eq_true c2) (hitT_some fun h=>?_)
   have h:=h.1.1
   unfold okS at h
   dsimp only at h
   omega
  refine hitT_n (by rw [hx4,decide_eq_false c2]; decide) (hitT_ltt fun x5 hx5=>?_)
  by_cases c3:m=3#64
  ·refine hitT_if (by rw [hx5]; exact decide_eq_true c3) (hitT_bind (filled20_eq [115#8] (48 - d) (by omega)) (hitT_some fun h=>?_))
   have h:=h.1.2.1
   dsimp only at h
   rw [filE_length,hl66] at h
   omega
  refine hitT_n (by rw [hx5,decide_eq_false c3]; decide) (hitT_ltt fun x6 hx6=>?_)
  by_cases c4:m=4#64
  ·refine hitT_if (by rw [hx6]; exact decide_eq_true c4) (hitT_some fun h=>?_)
   have h:=h.1.2.2.1
   unfold ok32 at h
   dsimp only at h
   omega
  refine hitT_n (by rw [hx6,decide_eq_false c4]; decide) (hitT_ltt fun x7 hx7=>?_)
  by_cases c5:m=5#64
  ·refine hitT_if (by rw [hx7]; exact decide_eq_true c5) (hitT_some fun h=>?_)
   have h:=h.1.2.2.1
   unfold ok32 at h
   dsimp only at h
   omega
  refine hitT_n (by rw [hx7,decide_eq_false c5]; decide) (hitT_ltt fun x8 hx8=>?_)
  by_cases c6:m=6#64
  ·refine hitT_if (by rw [hx8]; exact decide_eq_true c6) (hitT_some fun h=>?_)
   have h:=h.1.2.2.2
   unfold ok32 at h
   dsimp only at h
   omega
  refine hitT_n (by rw [hx8,decide_eq_false c6]; decide) (hitT_some fun h=>?_)
  have h:=h.1.2.1
  dsimp only at h
  rw [hs] at h
  exact absurd h (by decide)
 ·have hmin:min ((o.1.length:Nat):Int) (d:Int)=(d:Int):=by omega
  have ho1:openT (filE [107#8] (32 - d)) o.1=noT 2000:=by
   unfold openT
   rw [if_pos (by rw [filE_length]; omega)]
  rw [hmin]
  simp only [Int.toNat_natCast]
  refine bind_i ((SealT_eq _ _ _ _ _ _).trans (congrArg some (sealT_neg hj))) (bind_i (filled20_eq [107#8] (32 - d) (by omega)) (bind_i ((OpenT_eq _ _).trans (congrArg some ho1)) (bind_i gk (if_i (by omega) (if_i (by omega) (bind_i (OpenT_eq _ _) ?_))))))
  refine bind_i (num0 _) (if_i hc (if_i (by omega) (if_i (by omega) (bind_i gn (if_i hpre (if_i rfl (bind_i (num0 _) (if_i rfl (bind_i (num0 _) (if_i rfl (bind_i (num0 _) (ltt_i fun y hy=>?_))))))))))))
  rw [hy]
  have hsl:(sub o.1 0 d).length=d:=by rw [sub_length (by omega)]; omega
  have ho2:(openT key (sub o.1 0 d)).2.2.2.2=2001:=by
   unfold openT
   rw [if_neg (by omega)]
   by_cases c:(sub o.1 0 d).length<12
   ·rw [if_pos c]
   ·rw [if_neg c]
    have hz:(openE key (sub (sub o.1 0 d) 0 12) [] (sub (sub o.1 0 d) 12 (sub o.1 0 d).length)).2=501:=by
     have h2:(sub (sub o.1 0 d) 12 (sub o.1 0 d).length).length<16:=by rw [sub_length (Nat.le_refl _)]; omega
     have h1:(sub (sub o.1 0 d) 0 12).length=12:=by rw [sub_length (by omega)]
     unfold openE
     rw [if_pos ⟨.inr hk,h1,by simp,by omega⟩,if_pos h2]
    rw [if_neg (fun h=>absurd (hz ▸ h.1:(501:Int)=0) (by decide))]
  rw [ho2]; rfl
end Go.Proofs
end

/-
  Part 10 of the proof of what several laws share.
-/
import Derived.KernelRfl
import Derived.Test.YtiofnmmggblcgaaEsC1
import Derived.Test.YtiofnmmggblcgaaEsC2
import Derived.Test.YtiofnmmggblcgaaEsC3
import Derived.Test.YtiofnmmggblcgaaEsC4
import Derived.Test.YtiofnmmggblcgaaEsC5
import Derived.Test.YtiofnmmggblcgaaEsC6
import Derived.Test.YtiofnmmggblcgaaEsC7
import Derived.Test.YtiofnmmggblcgaaEsC8
import Derived.Test.YtiofnmmggblcgaaEsC9
set_option linter.unusedVariables false
set_option linter.unusedSimpArgs false
section
namespace Go.Kx
open Go Go.Proofs
open Vector (replicate)
theorem mont_b0 (M:Vx 32 8) (inv:BitVec 64) (hinv:(wv M 0 * inv.toNat+1) % 2 ^ 32=0) (x y:Vx 32 8) (i:Nat) (hi:i<8) (t:Vx 64 10)
  (ht : ∀ j,j<8 → wv t j<2 ^ 32) (ht8:wv t 8≤2) :
  ∃ t',halberdref9_mont.b0 x y M inv ((i:Int),t)=some (.inl (((i+1:Nat):Int),t'))∧(∀ j,j<8 → wv t' j<2 ^ 32)∧wv t' 8≤2 ∧
   ∃ m,m<2 ^ 32∧2 ^ 32 * pv (2 ^ 32) (wv t') 9=pv (2 ^ 32) (wv t) 9+n8 x * wv y i+m * n8 M:=by
 obtain ⟨⟨c,u⟩,hl1,hc,hu,hu8,e1⟩:=mont_b1 x y i hi t ht
 dsimp only at hc hu hu8 e1
 obtain ⟨s2,hs2⟩ : ∃ s2,s2=(vg u 8)+c:=⟨_,rfl⟩
 have es2:s2.toNat=wv u 8+c.toNat:=by
  rw [hs2,BitVec.toNat_add]
  have:(vg u 8).toNat=wv u 8:=rfl
  rw [this,hu8]; omega
 obtain ⟨w,hw⟩ : ∃ w,w=vp (vp u 8 (s2 &&& 4294967295#64)) 9 (s2 >>> 32):=⟨_,rfl⟩
 have hw8:wv w 8=s2.toNat % 2 ^ 32:=by rw [hw,wv_vp (by decide) (by decide),if_neg (by decide),wv_vp (by decide) (by decide),if_pos rfl,and32w]
 have hw9:wv w 9=s2.toNat / 2 ^ 32:=by rw [hw,wv_vp (by decide) (by decide),if_pos rfl,shr32w]
 have hwj : ∀ j,j<8 → wv w j=wv u j:=fun j hj=>by rw [hw,wv_vp (by decide) (by omega),if_neg (by omega),wv_vp (by decide) (by omega),if_neg (by omega)]
 have hw32 : ∀ j,j<8 → wv w j<2 ^ 32:=fun j hj=>by rw [hwj j hj]; exact hu j hj
 obtain ⟨q,hq⟩ : ∃ q,q=((vg w 0) * inv) &&& 4294967295#64:=⟨_,rfl⟩
 have eq:q.toNat=(wv w 0 * inv.toNat) % 2 ^ 32:=by
  rw [hq,and32w,BitVec.toNat_mul]
  have:(vg w 0).toNat=wv w 0:=rfl
  rw [this]; omega
 have hq32:q.toNat<2 ^ 32:=by rw [eq]; omega
 obtain ⟨c0,hc0⟩ : ∃ c0,c0=((vg w 0)+(q * ((vg M 0).setWidth 64))) >>> 32:=⟨_,rfl⟩
 have ec0:2 ^ 32 * c0.toNat=q.toNat * wv M 0+wv w 0:=by
  have hz:c0=(((vg w 0)+(q * ((vg M 0).setWidth 64)))+0#64) >>> 32:=by rw [hc0]; simp
  have h1:=mac32q (vg w 0) 0#64 q (vg M 0) (hw32 0 (by decide)) (by decide) hq32
  have hd:(q.toNat * wv M 0+wv w 0) % 2 ^ 32=0:=by
   rw [eq,Nat.add_mod,Nat.mod_mul_mod, ← Nat.add_mod]
   have:wv w 0 * inv.toNat * wv M 0+wv w 0=wv w 0 * (wv M 0 * inv.toNat+1):=by grind
   rw [this,Nat.mul_mod,hinv,Nat.mul_zero,Nat.zero_mod]
  have h2:(((vg w 0)+(q * ((vg M 0).setWidth 64)))+0#64).toNat=q.toNat * wv M 0+wv w 0:=h1
  rw [hz,shr32w,h2]
  omega
 have hc0l:c0.toNat<2 ^ 32:=by
  rw [hc0,shr32w]; have:=((vg w 0)+(q * ((vg M 0).setWidth 64))).isLt; omega
 obtain ⟨⟨c',v⟩,hl2,hc',hv,hv8,hv9,e2⟩:=mont_b2 M q c0 w hq32 hc0l hw32
 dsimp only at hc' hv hv8 hv9 e2
 obtain ⟨s4,hs4⟩ : ∃ s4,s4=(vg v 8)+c':=⟨_,rfl⟩
 have es4:s4.toNat=wv w 8+c'.toNat:=by
  rw [hs4,BitVec.toNat_add]
  have:(vg v 8).toNat=wv v 8:=rfl
  rw [this,hv8,hw8]; omega
 have hf8:(vg (vp v 7 (s4 &&& 4294967295#64)) 9+(s4 >>> 32)).toNat=s2.toNat / 2 ^ 32+s4.toNat / 2 ^ 32:=by
  rw [BitVec.toNat_add,shr32w]
  have:(vg (vp v 7 (s4 &&& 4294967295#64)) 9).toNat=s2.toNat / 2 ^ 32:=by
   show wv _ 9=_
   rw [wv_vp (by decide) (by decide),if_neg (by decide),hv9,hw9]
  rw [this]
  have:=s4.isLt
  omega
 refine ⟨vp (vp (vp v 7 (s4 &&& 4294967295#64)) 8 ((vg (vp v 7 (s4 &&& 4294967295#64)) 9)+(s4 >>> 32))) 9 0#64,?_,?_,?_,q.toNat,hq32,?_⟩
 ·unfold halberdref9_mont.b0
  dsimp only
  refine if_i (by omega) (bind_i hl1 (ltt_i fun v1 hv1=>ltt_i fun v2 hv2=>ltt_i fun v3 hv3=>ltt_i fun v4 hv4=>?_))
  rw [← hs2] at hv1
  subst hv1
  rw [hv2] at hv3 hv4 ⊢
  rw [← hw] at hv3 hv4 ⊢
  rw [← hq] at hv3
  rw [hv3] at hv4 ⊢
  rw [← hc0] at hv4
  rw [hv4]
  refine bind_i hl2 (ltt_i fun v5 hv5=>ltt_i fun v6 hv6=>ltt_i fun v7 hv7=>ltt_i fun v8 hv8=>?_)
  rw [← hs4] at hv5
  rw [hv8,hv7,hv6,hv5,w64_s (by omega)]
 ·intro j hj
  rw [wv_vp (by decide) (by omega),if_neg (by omega),wv_vp (by decide) (by omega),if_neg (by omega),wv_vp (by decide) (by omega)]
  split
  ·rw [and32w]; omega
  ·exact hv j hj
 ·rw [wv_vp (by decide) (by decide),if_neg (by decide),wv_vp (by decide) (by decide),if_pos rfl,hf8]
  rw [hw8] at es4
  omega
 ·have hT:pv (2 ^ 32) (wv (vp (vp (vp v 7 (s4 &&& 4294967295#64)) 8 ((vg (vp v 7 (s4 &&& 4294967295#64)) 9)+(s4 >>> 32))) 9 0#64)) 9 =
    pv (2 ^ 32) (wv v) 7+(s4.toNat % 2 ^ 32) * (2 ^ 32) ^ 7+(s2.toNat / 2 ^ 32+s4.toNat / 2 ^ 32) * (2 ^ 32) ^ 8:=by
   rw [pv_vp (by decide) (by decide),pv_vp1 (by decide),pv_vp1 (by decide),hf8,and32w]
  have hM:n8 M=wv M 0+2 ^ 32 * pv (2 ^ 32) (fun j=>wv M (j+1)) 7:=pv_shift 7
  have hws:pv (2 ^ 32) (wv w) 8=wv w 0+2 ^ 32 * pv (2 ^ 32) (fun j=>wv w (j+1)) 7:=pv_shift 7
  have hwu:pv (2 ^ 32) (wv w) 8=pv (2 ^ 32) (wv u) 8:=pv_congr hwj
  have e4:s2.toNat % 2 ^ 32+2 ^ 32 * (s2.toNat / 2 ^ 32)=wv t 8+c.toNat:=by rw [Nat.mod_add_div,es2,hu8]
  have e10:s4.toNat % 2 ^ 32+2 ^ 32 * (s4.toNat / 2 ^ 32)=s2.toNat % 2 ^ 32+c'.toNat:=by rw [Nat.mod_add_div,es4,hw8]
  have ht9:pv (2 ^ 32) (wv t) 9=pv (2 ^ 32) (wv t) 8+wv t 8 * (2 ^ 32) ^ 8:=rfl
  have hx:n8 x=pv (2 ^ 32) (wv x) 8:=rfl
  generalize s2.toNat % 2 ^ 32=r4 at *
  generalize s2.toNat / 2 ^ 32=r42 at *
  generalize s4.toNat % 2 ^ 32=r10 at *
  generalize s4.toNat / 2 ^ 32=r102 at *
  clear hs4 hs2 eq es2 es4 hc0 hq hw hw32 hwj hw8 hw9 hf8 hv hu hc hc' hc0l hq32 hinv ht
  generalize (2 ^ 32:Nat)=B at *
  refine round_eq8 (B:=B) (U:=wv w 0+B * pv B (fun j=>wv w (j+1)) 7+(r4+B * r42) * B ^ 8) hM rfl ?_ ec0 e2 e10 hT
  rw [← hws,hwu,e4,ht9,hx,Nat.add_mul]
  have:=e1
  omega
theorem mont_loop (M:Vx 32 8) (inv:BitVec 64) (hinv:(wv M 0 * inv.toNat+1) % 2 ^ 32=0) (x y:Vx 32 8) :
  ∃ t,loop (halberdref9_mont.b0 x y M inv) BIG (0,replicate 10 0#64)=some t∧(∀ j,j<8 → wv t j<2 ^ 32) ∧ ∃ q,q<2 ^ 256∧(pv (2 ^ 32) (wv t) 8+wv t 8 * 2 ^ 256) * 2 ^ 256=n8 x * n8 y+q * n8 M:=by
 obtain ⟨t,h1,h32,q,hq,e⟩:=loop_inv (body:=halberdref9_mont.b0 x y M inv) (s0:=(0,replicate 10 0#64)) 8
  (fun k s=>s.1=(k:Int)∧(∀ j,j<8 → wv s.2 j<2 ^ 32)∧wv s.2 8≤2 ∧ ∃ q,q<(2 ^ 32) ^ k∧pv (2 ^ 32) (wv s.2) 9 * (2 ^ 32) ^ k=n8 x * pv (2 ^ 32) (wv y) k+q * n8 M)
  (fun t=>(∀ j,j<8 → wv t j<2 ^ 32) ∧ ∃ q,q<(2 ^ 32) ^ 8∧pv (2 ^ 32) (wv t) 9 * (2 ^ 32) ^ 8=n8 x * pv (2 ^ 32) (wv y) 8+q * n8 M) (by decide)
  ⟨rfl,fun j hj=>by
   have:j=0 ∨ j=1 ∨ j=2 ∨ j=3 ∨ j=4 ∨ j=5 ∨ j=6 ∨ j=7:=by omega
   rcases this with rfl | rfl | rfl | rfl | rfl | rfl | rfl | rfl <;> decide,(by decide:wv (replicate 10 0#64) 8≤2),0,by decide,by
   have:pv (2 ^ 32) (wv (replicate 10 0#64)) 9=0:=by decide
   dsimp only
   rw [this]; simp [pv]⟩
  (fun k s hk hI=>by
   obtain ⟨i,t⟩:=s
   obtain ⟨hi,ht,ht8,q,hq,he⟩:=hI
   dsimp only at hi ht ht8 hq he
   subst hi
   obtain ⟨t',h1,h32,h8,m,hm,e⟩:=mont_b0 M inv hinv x y k hk t ht ht8
   refine ⟨_,h1,rfl,h32,h8,q+m * (2 ^ 32) ^ k,?_,?_⟩
   ·rw [pow_s (2 ^ 32) k]
    generalize hBB:(2 ^ 32:Nat)=B at *
    have:=Nat.mul_le_mul_right (B ^ k) (Nat.succ_le_of_lt hm)
    rw [Nat.succ_mul] at this
    rw [Nat.mul_comm (B ^ k) B]
    omega
   ·dsimp only
    rw [pow_s (2 ^ 32) k]
    show _=n8 x * (pv (2 ^ 32) (wv y) k+wv y k * (2 ^ 32) ^ k)+_
    exact outer_eq he e)
  (fun s hI=>by
   obtain ⟨i,t⟩:=s
   obtain ⟨hi,ht,ht8,q,hq,he⟩:=hI
   dsimp only at hi ht ht8 hq he
   subst hi
   exact ⟨t,by unfold halberdref9_mont.b0; exact if_n (by dsimp only; omega) rfl,ht,q,hq,he⟩)
 refine ⟨t,h1,h32,q,?_,?_⟩
 ·rw [show (2 ^ 32:Nat) ^ 8=2 ^ 256 by decide] at hq; exact hq
 ·have h9:pv (2 ^ 32) (wv t) 9=pv (2 ^ 32) (wv t) 8+wv t 8 * (2 ^ 32) ^ 8:=rfl
  rw [h9,show (2 ^ 32:Nat) ^ 8=2 ^ 256 by decide] at e
  exact e
theorem mont_fill (t:Vx 64 10):loop (halberdref9_mont.b3 t) BIG (0,replicate 8 0#32)=some (Vector.ofFn fun i:Fin 8=>(vg t i.val).setWidth 32):=by
 refine loop_fill (n:=8) (replicate 8 0#32) (fun k=>(vg t k).setWidth 32) id (by decide) (fun k v hk _=>?_) (fun v=>?_)
 ·unfold halberdref9_mont.b3
  dsimp only
  simp only [Int.toNat_natCast]
  refine if_i (by omega) (if_i (by omega) (if_i (by omega) (ltt_i fun v1 hv1=>ltt_i fun v2 hv2=>?_)))
  rw [hv2,hv1,w64_s (by omega)]
 ·unfold halberdref9_mont.b3
  exact if_n (by dsimp only; omega) rfl
theorem ref_mont_ex (which:Int) (M:Vx 32 8) (inv:BitVec 64) (hM:halberdref9_modulus which=some M) (hi:halberdref9_inverse which=some inv) (hinv:(wv M 0 * inv.toNat+1) % 2 ^ 32=0)
  (x y:Vx 32 8) (hxy:n8 x * n8 y<n8 M * 2 ^ 256) :
  ∃ r,halberdref9_mont which x y=some r∧n8 r<n8 M∧(n8 r * 2 ^ 256) % n8 M=(n8 x * n8 y) % n8 M:=by
 obtain ⟨t,h1,h32,q,hq,e⟩:=mont_loop M inv hinv x y
 obtain ⟨z,hz⟩ : ∃ z:Vx 32 8,z=Vector.ofFn fun i:Fin 8=>(vg t i.val).setWidth 32:=⟨_,rfl⟩
 have ez:n8 z=pv (2 ^ 32) (wv t) 8:=by
  refine pv_congr fun j hj=>?_
  rw [hz]
  unfold wv
  rw [vg_ofFn hj,BitVec.toNat_setWidth,Nat.mod_eq_of_lt]
  exact h32 j hj
 rw [← ez] at e
 obtain ⟨w,hs,b,lb,es⟩:=ref_minus_ex z M
 have hzl:=n8_lt z
 have hwl:=n8_lt w
 have hMl:=n8_lt M
 have hlt:n8 z+wv t 8 * 2 ^ 256<2 * n8 M:=by
  have:q * n8 M≤2 ^ 256 * n8 M:=Nat.mul_le_mul_right _ (Nat.le_of_lt hq)
  have h3:(n8 z+wv t 8 * 2 ^ 256) * 2 ^ 256<(2 * n8 M) * 2 ^ 256:=by
   rw [e]
   generalize n8 x * n8 y=p at *
   generalize q * n8 M=p2 at *
   omega
  exact Nat.lt_of_mul_lt_mul_right h3
 have ht8:wv t 8≤1:=by omega
 have hgoal : ∀ r:Vx 32 8,(n8 r=n8 z+wv t 8 * 2 ^ 256 ∨ n8 r+n8 M=n8 z+wv t 8 * 2 ^ 256) → (n8 r * 2 ^ 256) % n8 M=(n8 x * n8 y) % n8 M:=fun r hr=>by
  have key:((n8 z+wv t 8 * 2 ^ 256) * 2 ^ 256) % n8 M=(n8 x * n8 y) % n8 M:=by rw [e,Nat.add_mul_mod_self_right]
  rcases hr with hr | hr
  ·rw [hr]; exact key
  ·rw [← hr,Nat.add_mul,Nat.add_mul_mod_self_left] at key
   exact key
 have hfill:=mont_fill t
 rw [← hz] at hfill
 unfold halberdref9_mont
 by_cases h8:(0#64).toNat<(vg t 8).toNat
 ·have h8':wv t 8=1:=by
   have:(vg t 8).toNat=wv t 8:=rfl
   have z0:(0#64).toNat=0:=rfl
   omega
  refine ⟨w,bind_i hM (bind_i hi (bind_i h1 (bind_i hfill (bind_i (v:=true) (if_i h8 rfl) (if_i rfl (bind_i hs rfl)))))),?_,hgoal w (.inr ?_)⟩
  ·omega
  ·omega
 ·have h8':wv t 8=0:=by
   have:(vg t 8).toNat=wv t 8:=rfl
   have z0:(0#64).toNat=0:=rfl
   omega
  by_cases hb:n8 z<n8 M
  ·refine ⟨z,bind_i hM (bind_i hi (bind_i h1 (bind_i hfill (bind_i (v:=false) (if_n h8 (bind_i (ref_less_eq z M) (by simp [hb]))) (if_n (by decide) rfl))))),hb,hgoal z (.inl ?_)⟩
   omega
  ·refine ⟨w,bind_i hM (bind_i hi (bind_i h1 (bind_i hfill (bind_i (v:=true) (if_n h8 (bind_i (ref_less_eq z M) (by simp [hb]))) (if_i rfl (bind_i hs rfl)))))),?_,hgoal w (.inr ?_)⟩
   ·omega
   ·omega
end Go.Kx
end

section
namespace Go.Nt
def Pr (p:Nat):Prop:=1<p ∧ ∀ d,d ∣ p → d=1 ∨ d=p
theorem Pr.dvd_mul {p a b:Nat} (hp:Pr p) (h:p ∣ a * b):p ∣ a ∨ p ∣ b:=by
 rcases hp.2 (Nat.gcd p a) (Nat.gcd_dvd_left p a) with h1 | h1
 ·exact .inr (Nat.Coprime.dvd_of_dvd_mul_left h1 h)
 ·exact .inl (h1 ▸ Nat.gcd_dvd_right p a)
theorem Pr.not_one {p:Nat} (hp:Pr p) : ¬ p ∣ 1:=fun h=>by
 have:=Nat.le_of_dvd (by decide) h
 have:=hp.1
 omega
def ch:Nat → Nat → Nat
 | _,0=>1
 | 0,_+1=>0
 | n+1,k+1=>ch n k+ch n (k+1)
theorem ch_0 (n:Nat):ch n 0=1:=by cases n <;> rfl
theorem ch_ss (n k:Nat):ch (n+1) (k+1)=ch n k+ch n (k+1):=rfl
theorem ch_gt : ∀ n k,n<k → ch n k=0
 | _,0,h=>by omega
 | 0,k+1,_=>rfl
 | n+1,k+1,h=>by rw [ch_ss,ch_gt n k (by omega),ch_gt n (k+1) (by omega)]
theorem ch_self : ∀ n,ch n n=1
 | 0=>rfl
 | n+1=>by rw [ch_ss,ch_self n,ch_gt n (n+1) (by omega)]
theorem ch_mul : ∀ n k,(k+1) * ch (n+1) (k+1)=(n+1) * ch n k
 | 0,0=>rfl
 | 0,k+1=>by
  rw [ch_ss,ch_gt 0 (k+1) (by omega),ch_gt 0 (k+1+1) (by omega)]
  simp
 | n+1,0=>by
  have h:=ch_mul n 0
  rw [ch_0,Nat.zero_add,Nat.one_mul,Nat.mul_one] at h
  rw [ch_ss,h]
  simp only [ch_0]
  omega
 | n+1,k+1=>by
  have h1:=ch_mul n k
  have h2:=ch_mul n (k+1)
  have e:(k+1+1) * ch (n+1) (k+1)=(k+1) * ch (n+1) (k+1)+ch (n+1) (k+1):=by
   rw [Nat.add_mul,Nat.one_mul]
  rw [ch_ss (n+1) (k+1),Nat.mul_add,h2,e,h1,ch_ss n k,Nat.add_mul (n+1) 1,Nat.one_mul,Nat.mul_add (n+1)]
  omega
def sm (f:Nat → Nat):Nat → Nat
 | 0=>0
 | n+1=>sm f n+f n
theorem sm_shift (f:Nat → Nat) : ∀ n,sm f (n+1)=f 0+sm (fun k=>f (k+1)) n
 | 0=>by simp [sm]
 | n+1=>by
  show sm f (n+1)+f (n+1)=_
  rw [sm_shift f n]
  simp only [sm]; omega
theorem sm_add (f g:Nat → Nat) : ∀ n,sm (fun k=>f k+g k) n=sm f n+sm g n
 | 0=>rfl
 | n+1=>by simp only [sm]; rw [sm_add f g n]; omega
theorem sm_mul (c:Nat) (f:Nat → Nat) : ∀ n,sm (fun k=>f k * c) n=sm f n * c
 | 0=>by simp [sm]
 | n+1=>by simp only [sm]; rw [sm_mul c f n,Nat.add_mul]
theorem sm_congr {f g:Nat → Nat} : ∀ {n},(∀ k,k<n → f k=g k) → sm f n=sm g n
 | 0,_=>rfl
 | n+1,h=>by simp only [sm]; rw [sm_congr fun k hk=>h k (by omega),h n (by omega)]
theorem sm_dvd {p:Nat} {f:Nat → Nat} : ∀ {n},(∀ k,k<n → p ∣ f k) → p ∣ sm f n
 | 0,_=>Nat.dvd_zero p
 | n+1,h=>Nat.dvd_add (sm_dvd fun k hk=>h k (by omega)) (h n (by omega))
theorem binom (x:Nat) : ∀ n,(x+1) ^ n=sm (fun k=>ch n k * x ^ k) (n+1)
 | 0=>by simp [sm,ch]
 | n+1=>by
  have ih:=binom x n
  rw [sm_shift]
  have h1:sm (fun k=>ch (n+1) (k+1) * x ^ (k+1)) (n+1)=sm (fun k=>ch n k * x ^ k * x) (n+1)+sm (fun k=>ch n (k+1) * x ^ (k+1)) (n+1):=by
   rw [← sm_add]
   refine sm_congr fun k _=>?_
   rw [ch_ss,Nat.add_mul,Nat.pow_succ,Nat.mul_assoc]
  rw [h1,sm_mul x (fun k=>ch n k * x ^ k), ← ih]
  have h2:ch (n+1) 0 * x ^ 0+sm (fun k=>ch n (k+1) * x ^ (k+1)) (n+1)=(x+1) ^ n:=by
   have h3:=sm_shift (fun k=>ch n k * x ^ k) (n+1)
   have h4:sm (fun k=>ch n k * x ^ k) (n+1+1)=sm (fun k=>ch n k * x ^ k) (n+1)+ch n (n+1) * x ^ (n+1):=rfl
   rw [ch_gt n (n+1) (by omega),Nat.zero_mul] at h4
   have h5:=h3.symm.trans h4
   simp only [ch_0,Nat.pow_zero,Nat.mul_one] at h5 ⊢
   rw [ih]
   omega
  rw [Nat.pow_succ,Nat.mul_add,Nat.mul_one]
  omega
theorem frosh {p:Nat} (hp:Pr p) (x:Nat):(x+1) ^ p % p=(x ^ p+1) % p:=by
 obtain ⟨m,rfl⟩ : ∃ m,p=m+1:=⟨p - 1,by have:=hp.1; omega⟩
 rw [binom]
 have h1:sm (fun k=>ch (m+1) k * x ^ k) (m+1+1)=sm (fun k=>ch (m+1) k * x ^ k) (m+1)+x ^ (m+1):=by
  show sm (fun k=>ch (m+1) k * x ^ k) (m+1)+ch (m+1) (m+1) * x ^ (m+1)=_
  rw [ch_self,Nat.one_mul]
 rw [h1,sm_shift]
 have hd:(m+1) ∣ sm (fun k=>ch (m+1) (k+1) * x ^ (k+1)) m:=sm_dvd fun k hk=>by
  have:=ch_mul m k
  have h3:(m+1) ∣ (k+1) * ch (m+1) (k+1):=⟨_,this⟩
  rcases hp.dvd_mul h3 with h4 | h4
  ·have:=Nat.le_of_dvd (by omega) h4
   omega
  ·exact Nat.dvd_trans h4 (Nat.dvd_mul_right _ _)
 obtain ⟨c,hc⟩:=hd
 rw [hc,ch_0]
 simp only [Nat.pow_zero,Nat.one_mul]
 have:1+(m+1) * c+x ^ (m+1)=x ^ (m+1)+1+(m+1) * c:=by omega
 rw [this,Nat.add_mul_mod_self_left]
theorem fermat {p:Nat} (hp:Pr p) : ∀ x,x ^ p % p=x % p
 | 0=>by
  have:0 ^ p=0:=Nat.zero_pow (by have:=hp.1; omega)
  rw [this]
 | x+1=>by
  rw [frosh hp,Nat.add_mod,fermat hp x, ← Nat.add_mod]
theorem dvd_of_mod_eq {p a b:Nat} (h:a % p=b % p) (_:b≤a):p ∣ a - b:=by
 rw [Nat.dvd_iff_mod_eq_zero]
 exact Nat.sub_mod_eq_zero_of_mod_eq h
theorem mod_one_of_dvd {p a:Nat} (hp:1<p) (ha:1≤a) (h:p ∣ a - 1):a % p=1:=by
 obtain ⟨c,hc⟩:=h
 have:a=1+p * c:=by omega
 rw [this,Nat.add_mul_mod_self_left]
 exact Nat.mod_eq_of_lt hp
theorem fermat2 {p:Nat} (hp:Pr p) {x:Nat} (hx : ¬ p ∣ x):x ^ (p - 1) % p=1:=by
 have h1:=fermat hp x
 have hx1:1≤x:=by
  rcases Nat.eq_zero_or_pos x with h | h
  ·exact absurd (h ▸ Nat.dvd_zero p) hx
  ·exact h
 have hp1:=hp.1
 have hpow:x ^ p=x * x ^ (p - 1):=by
  rw [Nat.mul_comm, ← Nat.pow_succ]; congr 1; omega
 have hge:1≤x ^ (p - 1):=Nat.one_le_pow _ _ hx1
 have h2:p ∣ x * (x ^ (p - 1) - 1):=by
  have:=dvd_of_mod_eq h1 (by rw [hpow]; exact Nat.le_mul_of_pos_right x hge)
  have e:x * x ^ (p - 1) - x=x * (x ^ (p - 1) - 1):=by rw [Nat.mul_sub,Nat.mul_one]
  rwa [hpow,e] at this
 rcases hp.dvd_mul h2 with h3 | h3
 ·exact absurd h3 hx
 ·exact mod_one_of_dvd hp1 hge h3
theorem pow_gcd {b d:Nat} (hd:1<d) (m k:Nat) (hm:b ^ m % d=1) (hk:b ^ k % d=1):b ^ (Nat.gcd m k) % d=1:=by
 induction m,k using Nat.gcd.induction with
 | H0 k=>rw [Nat.gcd_zero_left]; exact hk
 | H1 m k hpos ih =>
  rw [Nat.gcd_rec]
  refine ih ?_ hm
  have e:k=m * (k / m)+k % m:=(Nat.div_add_mod k m).symm
  rw [e,Nat.pow_add,Nat.mul_mod,Nat.pow_mul,Nat.pow_mod,hm,Nat.one_pow,Nat.mod_eq_of_lt hd,Nat.one_mul,Nat.mod_mod] at hk
  exact hk
theorem ex_pr : ∀ N,1<N → ∃ d,Pr d∧d ∣ N:=by
 intro N
 induction N using Nat.strongRecOn with
 | _ N ih =>
  intro h
  by_cases hp:Pr N
  ·exact ⟨N,hp,Nat.dvd_refl N⟩
  ·have : ∃ e,e ∣ N∧e ≠ 1∧e ≠ N:=Classical.byContradiction fun hn=>hp ⟨h,fun e he=>Classical.byContradiction fun h2=>hn ⟨e,he,fun h3=>h2 (.inl h3),fun h3=>h2 (.inr h3)⟩⟩
   obtain ⟨e,he,h1,h2⟩:=this
   have hle:=Nat.le_of_dvd (by omega) he
   have h0:e ≠ 0:=fun h0=>by subst h0; obtain ⟨c,hc⟩:=he; omega
   obtain ⟨d,hd,hde⟩:=ih e (by omega) (by omega)
   exact ⟨d,hd,Nat.dvd_trans hde he⟩
theorem ex_small {N:Nat} (h:1<N) (hp : ¬ Pr N) : ∃ d,Pr d∧d ∣ N∧d * d≤N:=by
 have : ∃ e,e ∣ N∧e ≠ 1∧e ≠ N:=Classical.byContradiction fun hn=>hp ⟨h,fun e he=>Classical.byContradiction fun h2=>hn ⟨e,he,fun h3=>h2 (.inl h3),fun h3=>h2 (.inr h3)⟩⟩
 obtain ⟨e,⟨f,hf⟩,h1,h2⟩:=this
 have he0:e ≠ 0:=fun h0=>by subst h0; omega
 have hf0:f ≠ 0:=fun h0=>by subst h0; omega
 have hf1:f ≠ 1:=fun h0=>by subst h0; omega
 have key : ∀ a b,a * b=N → a≤b → 1<a → ∃ d,Pr d∧d ∣ N∧d * d≤N:=fun a b hab hle ha=>by
  obtain ⟨d,hd,hda⟩:=ex_pr a ha
  have:=Nat.le_of_dvd (by omega) hda
  exact ⟨d,hd,Nat.dvd_trans hda ⟨b,hab.symm⟩,by rw [← hab]; exact Nat.mul_le_mul this (by omega)⟩
 rcases Nat.le_total e f with h3 | h3
 ·exact key e f hf.symm h3 (by omega)
 ·exact key f e (by rw [Nat.mul_comm]; exact hf.symm) h3 (by omega)
theorem pock_q {N q a d:Nat} (hq:Pr q) (hN:1<N) (hqN:q * ((N - 1) / q)=N - 1) (h1:a ^ (N - 1) % N=1) (h2:Nat.gcd (a ^ ((N - 1) / q) % N+(N - 1)) N=1) (hd:Pr d) (hdN:d ∣ N):q ∣ d - 1:=by
 have hd1:=hd.1
 generalize hb:a ^ ((N - 1) / q)=b at h2
 have hbq:b ^ q % d=1:=by
  rw [← hb, ← Nat.pow_mul,Nat.mul_comm,hqN]
  have:a ^ (N - 1) % N % d=1 % d:=by rw [h1]
  rw [Nat.mod_mod_of_dvd _ hdN,Nat.mod_eq_of_lt hd1] at this
  exact this
 have hdb : ¬ d ∣ b:=fun h=>by
  have h3:d ∣ b ^ q:=by
   have hq1:=hq.1
   obtain ⟨m,rfl⟩ : ∃ m,q=m+1:=⟨q - 1,by omega⟩
   rw [Nat.pow_succ]; exact Nat.dvd_trans h (Nat.dvd_mul_left _ _)
  rw [Nat.dvd_iff_mod_eq_zero] at h3
  omega
 have hb1:b % d ≠ 1:=fun h=>by
  have h3:d ∣ b % N+(N - 1):=by
   obtain ⟨c,hc⟩:=hdN
   have h4:(b % N) % d=1:=by rw [Nat.mod_mod_of_dvd _ ⟨c,hc⟩]; exact h
   have h5:b % N=d * (b % N / d)+1:=by have:=Nat.div_add_mod (b % N) d; omega
   rw [h5]
   have:d * (b % N / d)+1+(N - 1)=d * (b % N / d)+d * c:=by omega
   rw [this, ← Nat.mul_add]
   exact Nat.dvd_mul_right _ _
  have h6:=Nat.dvd_gcd h3 hdN
  rw [h2] at h6
  exact hd.not_one h6
 have hf:=fermat2 hd hdb
 have hg:=pow_gcd hd1 q (d - 1) hbq hf
 rcases hq.2 _ (Nat.gcd_dvd_left q (d - 1)) with h3 | h3
 ·rw [h3,Nat.pow_one] at hg
  exact absurd hg hb1
 ·rw [← h3]
  exact Nat.gcd_dvd_right q (d - 1)
theorem pock {N F:Nat} (hN:1<N) (hF:N<F * F) (h : ∀ d,Pr d → d ∣ N → F ∣ d - 1):Pr N:=by
 refine Classical.byContradiction fun hp=>?_
 obtain ⟨d,hd,hdN,hdd⟩:=ex_small hN hp
 have h1:=h d hd hdN
 have hd1:=hd.1
 have h2:F≤d - 1:=Nat.le_of_dvd (by omega) h1
 have:F * F≤d * d:=Nat.mul_le_mul (by omega) (by omega)
 omega
def powm (N:Nat):Nat → Nat → Nat → Nat
 | 0,_,_=>1 % N
 | f+1,a,e=>if e=0 then 1 % N else if e % 2=1 then a * powm N f (a * a % N) (e / 2) % N else powm N f (a * a % N) (e / 2)
theorem powm_eq (N:Nat) : ∀ f a e,e<2 ^ f → powm N f a e=a ^ e % N
 | 0,a,e,h=>by
  have:e=0:=by rw [Nat.pow_zero] at h; omega
  subst this; rfl
 | f+1,a,e,h=>by
  unfold powm
  by_cases h0:e=0
  ·rw [if_pos h0,h0]; rfl
  rw [if_neg h0]
  have ih:=powm_eq N f (a * a % N) (e / 2) (by rw [Nat.pow_succ] at h; omega)
  have h2:(a * a % N) ^ (e / 2) % N=a ^ (2 * (e / 2)) % N:=by
   rw [← Nat.pow_mod,Nat.pow_mul,Nat.pow_two]
  by_cases h1:e % 2=1
  ·rw [if_pos h1,ih,h2,Nat.mul_mod,Nat.mod_mod, ← Nat.mul_mod]
   have:e=2 * (e / 2)+1:=by omega
   conv=>rhs; rw [this,Nat.pow_succ,Nat.mul_comm]
  ·rw [if_neg h1,ih,h2]
   have:e=2 * (e / 2):=by omega
   conv=>rhs; rw [this]
theorem pock_p {N q a d:Nat} (f:Nat) (hq:Pr q) (hN:1<N) (hf:N<2 ^ f) (hqN:q * ((N - 1) / q)=N - 1) (h1:powm N f a (N - 1)=1) (h2:Nat.gcd (powm N f a ((N - 1) / q)+(N - 1)) N=1) (hd:Pr d) (hdN:d ∣ N):q ∣ d - 1:=by
 rw [powm_eq N f a _ (by omega)] at h1
 rw [powm_eq N f a _ (by have:=Nat.div_le_self (N - 1) q; omega)] at h2
 exact pock_q hq hN hqN h1 h2 hd hdN
theorem pr_check {p:Nat} (h:1<p) (hc : ∀ d,d<p → 2≤d → p % d ≠ 0):Pr p:=by
 refine ⟨h,fun d hd=>?_⟩
 have hle:=Nat.le_of_dvd (by omega) hd
 have h0:d ≠ 0:=fun h0=>by subst h0; obtain ⟨c,hc⟩:=hd; omega
 by_cases h1:d=1
 ·exact .inl h1
 ·by_cases h2:d=p
  ·exact .inr h2
  ·rw [Nat.dvd_iff_mod_eq_zero] at hd
   exact absurd hd (hc d (by omega) (by omega))
end Go.Nt
end

section
namespace Go.Nt
def P256:Nat:=115792089210356248762697446949407573530086143415290314195533631308867097853951
def N256:Nat:=115792089210356248762697446949407573529996955224135760342422259061068512044369
theorem pr_small:Pr 313∧Pr 5∧Pr 1087∧Pr 919∧Pr 197∧Pr 43∧Pr 7∧Pr 3∧Pr 1511∧Pr 337:=by
 refine ⟨pr_check (by decide) ?_,pr_check (by decide) ?_,pr_check (by decide) ?_,pr_check (by decide) ?_,pr_check (by decide) ?_,pr_check (by decide) ?_,pr_check (by decide) ?_,pr_check (by decide) ?_,pr_check (by decide) ?_,pr_check (by decide) ?_⟩ <;> decide +kernel
theorem pock1 {N q a:Nat} (f:Nat) (hq:Pr q) (hN:1<N) (hF:N<q * q) (hf:N<2 ^ f) (hqN:q * ((N - 1) / q)=N - 1) (h1:powm N f a (N - 1)=1) (h2:Nat.gcd (powm N f a ((N - 1) / q)+(N - 1)) N=1):Pr N :=
 pock hN hF fun d hd hdN=>pock_p f hq hN hf hqN h1 h2 hd hdN
theorem pock2 {N q a r b:Nat} (f:Nat) (hq:Pr q) (hr:Pr r) (hc:Nat.gcd q r=1) (hN:1<N) (hF:N<(q * r) * (q * r)) (hf:N<2 ^ f)
  (hqN:q * ((N - 1) / q)=N - 1) (h1:powm N f a (N - 1)=1) (h2:Nat.gcd (powm N f a ((N - 1) / q)+(N - 1)) N=1)
  (hrN:r * ((N - 1) / r)=N - 1) (h3:powm N f b (N - 1)=1) (h4:Nat.gcd (powm N f b ((N - 1) / r)+(N - 1)) N=1):Pr N :=
 pock hN hF fun d hd hdN=>Nat.Coprime.mul_dvd_of_dvd_of_dvd hc (pock_p f hq hN hf hqN h1 h2 hd hdN) (pock_p f hr hN hf hrN h3 h4 hd hdN)
theorem pr_4349:Pr 4349:=pock1 20 pr_small.2.2.1 (a:=2) (by decide) (by decide) (by decide) (by decide) (by decide +kernel) (by decide +kernel)
theorem pr_704251:Pr 704251:=pock2 20 pr_small.1 pr_small.2.1 (a:=2) (b:=2) (by decide +kernel) (by decide +kernel) (by decide +kernel) (by decide +kernel) (by decide +kernel) (by decide +kernel) (by decide +kernel) (by decide +kernel) (by decide +kernel) (by decide +kernel)
theorem pr_78283:Pr 78283:=pock1 20 pr_4349 (a:=2) (by decide +kernel) (by decide +kernel) (by decide +kernel) (by decide +kernel) (by decide +kernel) (by decide +kernel)
theorem pr_a:Pr 46076956964474543:=pock2 60 pr_704251 pr_78283 (a:=2) (b:=2) (by decide +kernel) (by decide +kernel) (by decide +kernel) (by decide +kernel) (by decide +kernel) (by decide +kernel) (by decide +kernel) (by decide +kernel) (by decide +kernel) (by decide +kernel)
theorem pr_3677:Pr 3677:=pock1 20 pr_small.2.2.2.1 (a:=2) (by decide +kernel) (by decide +kernel) (by decide +kernel) (by decide +kernel) (by decide +kernel) (by decide +kernel)
theorem pr_b:Pr 66417393611:=pock2 60 pr_3677 pr_small.2.2.2.2.1 (a:=2) (b:=2) (by decide +kernel) (by decide +kernel) (by decide +kernel) (by decide +kernel) (by decide +kernel) (by decide +kernel) (by decide +kernel) (by decide +kernel) (by decide +kernel) (by decide +kernel)
theorem pr_c:Pr 11290956913871:=pock1 60 pr_b (a:=2) (by decide +kernel) (by decide +kernel) (by decide +kernel) (by decide +kernel) (by decide +kernel) (by decide +kernel)
theorem pr_d:Pr 774023187263532362759620327192479577272145303:=pock2 160 pr_a pr_c (a:=2) (b:=2) (by decide +kernel) (by decide +kernel) (by decide +kernel) (by decide +kernel) (by decide +kernel) (by decide +kernel) (by decide +kernel) (by decide +kernel) (by decide +kernel) (by decide +kernel)
theorem pr_e:Pr 835945042244614951780389953367877943453916927241:=pock1 170 pr_d (a:=2) (by decide +kernel) (by decide +kernel) (by decide +kernel) (by decide +kernel) (by decide +kernel) (by decide +kernel)
theorem pr_P:Pr P256:=pock1 256 pr_e (a:=2) (by decide +kernel) (by decide +kernel) (by decide +kernel) (by decide +kernel) (by decide +kernel) (by decide +kernel)
theorem pr_155317:Pr 155317:=by
 refine pock (F:=43 * 7 * 3) (by decide) (by decide) fun d hd hdN=>?_
 have h1:=pock_p (N:=155317) (q:=43) (a:=2) 20 pr_small.2.2.2.2.2.1 (by decide) (by decide) (by decide) (by decide +kernel) (by decide +kernel) hd hdN
 have h2:=pock_p (N:=155317) (q:=7) (a:=2) 20 pr_small.2.2.2.2.2.2.1 (by decide) (by decide) (by decide) (by decide +kernel) (by decide +kernel) hd hdN
 have h3:=pock_p (N:=155317) (q:=3) (a:=3) 20 pr_small.2.2.2.2.2.2.2.1 (by decide) (by decide) (by decide) (by decide +kernel) (by decide +kernel) hd hdN
 exact Nat.Coprime.mul_dvd_of_dvd_of_dvd (by decide) (Nat.Coprime.mul_dvd_of_dvd_of_dvd (by decide) h1 h2) h3
theorem pr_f:Pr 191039911:=pock1 40 pr_155317 (a:=2) (by decide +kernel) (by decide +kernel) (by decide +kernel) (by decide +kernel) (by decide +kernel) (by decide +kernel)
theorem pr_3023:Pr 3023:=pock1 20 pr_small.2.2.2.2.2.2.2.2.1 (a:=2) (by decide +kernel) (by decide +kernel) (by decide +kernel) (by decide +kernel) (by decide +kernel) (by decide +kernel)
theorem pr_g:Pr 208150935158385979:=pock2 60 pr_f pr_3023 (a:=2) (b:=2) (by decide +kernel) (by decide +kernel) (by decide +kernel) (by decide +kernel) (by decide +kernel) (by decide +kernel) (by decide +kernel) (by decide +kernel) (by decide +kernel) (by decide +kernel)
theorem pr_h:Pr 2624747550333869278416773953:=pock1 100 pr_g (a:=2) (by decide +kernel) (by decide +kernel) (by decide +kernel) (by decide +kernel) (by decide +kernel) (by decide +kernel)
theorem pr_i:Pr 104471:=pock1 20 pr_small.2.2.2.2.2.2.2.2.2 (a:=2) (by decide +kernel) (by decide +kernel) (by decide +kernel) (by decide +kernel) (by decide +kernel) (by decide +kernel)
theorem pr_j:Pr 3969899:=pock1 40 pr_i (a:=2) (by decide +kernel) (by decide +kernel) (by decide +kernel) (by decide +kernel) (by decide +kernel) (by decide +kernel)
theorem pr_k:Pr 1002328039319:=pock1 60 pr_j (a:=2) (by decide +kernel) (by decide +kernel) (by decide +kernel) (by decide +kernel) (by decide +kernel) (by decide +kernel)
theorem pr_N:Pr N256:=pock2 256 pr_h pr_k (a:=2) (b:=2) (by decide +kernel) (by decide +kernel) (by decide +kernel) (by decide +kernel) (by decide +kernel) (by decide +kernel) (by decide +kernel) (by decide +kernel) (by decide +kernel) (by decide +kernel)
end Go.Nt
end

section
namespace Go.Proofs
open Go Go.Kx
open Vector (replicate)
open TryI Try
def num_Field_Add (f_M:Vx 64 4) (f_inv:BitVec 64) (f_one:Vx 64 4) (f_two:Vx 64 4) (x:Vx 64 4) (y:Vx 64 4):Option (Vx 64 4) :=
 (num_add x y).bind fun (r_1:Vx 64 4 × BitVec 64)=>((num_sub r_1.1 f_M).bind fun (r_2:Vx 64 4 × BitVec 64)=>((if r_1.2=1#64 then (some true) else (some (decide (r_2.2=0#64)))).bind fun (j1:Bool)=>(if j1=true then (some r_2.1) else (some r_1.1))))
set_option maxHeartbeats 4000000 in
set_option maxRecDepth 20000 in
theorem F59_calls (bf:Nat) (obf:Nat) (f_M:Vx 64 4) (f_inv:BitVec 64) (f_one:Vx 64 4) (f_two:Vx 64 4) (x:Vx 64 4) (y:Vx 64 4) (r:Vx 64 4) (H:num_Field_Add f_M f_inv f_one f_two x y=some r) :
  Does Try.prog 59 [ptr (some (bf,obf)) 0,aG [(4,e64 x.toList)],aG [(4,e64 y.toList)]] [] [⟨some (bf,obf),e64 f_M.toList⟩,⟨some (bf,obf+4),[v64 f_inv]⟩,⟨some (bf,obf+5),e64 f_one.toList⟩,⟨some (bf,obf+9),e64 f_two.toList⟩] (Γ:=Unit) (fun g=>aG [(4,e64 r.toList)]) (fun g=>[]):=by
 intro w hmem hro hd
 refine calls_of (N:=34) (m0:=[(0,ptr (some (bf,obf)) 0),(1,aG [(4,e64 x.toList)]),(2,aG [(4,e64 y.toList)])]) func59 rfl ntmps59 (argM_ok [ptr (some (bf,obf)) 0,aG [(4,e64 x.toList)],aG [(4,e64 y.toList)]]) rfl hmem hro hd ?_
 unfold num_Field_Add at H
 refine TC_seq (TC_region (TLe (E_boxP [(4,e64 x.toList)] rfl rfl ⟨(lenV (f:=v64) x),trivial⟩) (fun b1=>?_)))
 refine TLe (E_boxP [(4,e64 y.toList)] rfl rfl ⟨(lenV (f:=v64) y),trivial⟩) (fun b2=>?_)
 refine TLe (E_al64 4 inf57 zer57) (fun b3=>?_)
 refine TL_nil (TX_next (TC_seq (TC_region (TLv (V_lag (.o 2) isAgg57 inf57) ?_))))
 refine TLv (V_lag (.o 1) isAgg57 inf57) ?_
 obtain ⟨r_1,hr_1,H⟩:=bind_elim H
 refine TLe (E_c0 (F88_calls x y r_1 hr_1) call88 .z) (fun g_1=>?_)
 refine TVm ?_
 refine TLv V_ex ?_
 refine TLv V_ex ?_
 refine TLe (E_al64 4 inf57 zer57) (fun b4=>?_)
 refine TLn (E_sv (vs:=e64 r_1.1.toList) 0 inf57) (fun _=>?_)
 refine TVa ?_
 refine TL_nil (TX_next (TC_seq ?_))
 obtain ⟨r_2,hr_2,H⟩:=bind_elim H
 refine TA_begin [⟨some (b4,0),e64 r_1.1.toList⟩,⟨some (b3,0),e64 ((replicate 4 0#64).toList)⟩,⟨some (b2,0),e64 y.toList⟩,⟨some (b1,0),e64 x.toList⟩] 11 (by kernel_rfl) (N:=12) rfl ?_
 refine TA_tk 0 [0,0,0,0] (dn 12 1) rfl rfl (V_lag (.o 0) isAgg57 inf57) ?_
 refine TA_tk 1 [0,0,0,0] (dn 12 3) rfl rfl (V_move rfl) ?_
 refine TA_tk 2 [0,0,0,0] (dn 12 7) rfl rfl (V_nilCheck rfl) ?_
 refine TA_tk 3 [0,0,0,0] (dn 12 15) rfl rfl (V_fieldE rfl underlying113 rfl rfl inf57 rfl (v:=ptr (some (bf,obf)) 0) rfl) ?_
 refine TA_tk 4 [0,0,0,0] (dn 12 31) rfl rfl (V_lag (.r 0) isAgg57 inf57) ?_
 refine TA_mix (is:=[0,0,0,0]) (done':=dn 12 1023) [itV 5 23 (Value.tuple [aG [(4,e64 r_2.1.toList)],v64 r_2.2].toArray) [],itV 6 17 (Value.tuple [aG [(4,e64 r_2.1.toList)],v64 r_2.2].toArray) [5],itV 7 24 (aG [(4,e64 r_2.1.toList)]) [6],itA64 9 9 4] [itV 8 25 (v64 r_2.2) [6]] 2 (by kernel_rfl) (QP.then QP.body) (by kernel_rfl) rfl (.e rfl (E_cu (F85_calls r_1.1 f_M r_2 hr_2) call85 .z) (.v rfl (V_move rfl) (.v rfl V_ex (.c rfl (fun _ _=>(E_al64 4 inf57 zer57)) .nil)))) (.c rfl (fun _=>V_ex) .nil) (by kernel_rfl) rfl (fun γ=>?_)
 refine TA_cut [(25,v64 r_2.2),(9,ptr (some ((γ 9),0)) 0),(24,aG [(4,e64 r_2.1.toList)]),(8,v64 r_1.2),(7,ptr (some (b4,0)) 0),(6,ptr (some (b3,0)) 0)] [⟨some ((γ 9),0),e64 ((replicate 4 0#64).toList)⟩,⟨some (b4,0),e64 r_1.1.toList⟩,⟨some (b3,0),e64 ((replicate 4 0#64).toList)⟩,⟨some (b2,0),e64 y.toList⟩,⟨some (b1,0),e64 x.toList⟩] ⟨rfl,rfl,rfl,rfl,rfl,rfl,trivial⟩ rfl ?_
 generalize γ 9=b5
 refine TA_all (rs:=[10]) (by kernel_rfl) rfl ?_
 refine ⟨?_,trivial⟩
 refine TO_n (is:=[1,1,1,1]) (done':=dn 12 2047) rfl rfl rfl (by kernel_rfl) (E_sv (vs:=e64 r_2.1.toList) 0 inf57) (fun _ _=>rfl) (fun _=>?_)
 refine TA_all (rs:=[11]) (by kernel_rfl) rfl ?_
 refine ⟨?_,trivial⟩
 refine TO_v (is:=[]) (R:=[]) (done':=dn 12 4095) rfl rfl rfl rfl (by kernel_rfl) (V_assign rfl) (fun h=>by cases h) ?_
 refine TA_done (by kernel_rfl) ?_ 0
 refine TX_next (TC_seq (TC_seq (TC_region (TVm ?_))))
 refine TLv (V_bin rfl rfl (fun w=>eql64 w r_1.2 1#64)) ?_
 refine TVm ?_
 obtain ⟨j1,Hj,H⟩:=bind_elim H
 refine TL_join (Γ:=Unit) (fun gj1=>[(6,ptr (some (b3,0)) 0),(7,ptr (some (b4,0)) 0),(9,ptr (some (b5,0)) 0),(31,vb j1)]) (fun gj1=>[⟨some (b3,0),e64 ((replicate 4 0#64).toList)⟩,⟨some (b4,0),e64 r_1.1.toList⟩,⟨some (b5,0),e64 r_2.1.toList⟩]) ?_ ?_
 ·intro gj1
  refine TX_next (TCb H (fun hc H=>?_) (fun hc H=>?_))
  ·refine TC_seq (TC_region (TLv (V_lag (.o 2) isAgg57 inf57) ?_))
   refine TLn (E_sv (vs:=e64 r_2.1.toList) 0 inf57) (fun _=>?_)
   refine TL_nil (TX_next (TC_ret (TX_then_ret ?_)))
   obtain rfl:=sj H
   exact TXr (vs:=[_]) rfl ⟨(Res_agg (n:=4) rfl (by simp) (.o 0) isAgg57 inf57 rfl (lenV (f:=v64) r_2.1)),trivial⟩
  ·refine TC_skip (TX_next (TC_seq (TC_region (TLv (V_lag (.o 1) isAgg57 inf57) ?_))))
   refine TLn (E_sv (vs:=e64 r_1.1.toList) 0 inf57) (fun _=>?_)
   refine TL_nil (TX_next (TC_ret ?_))
   obtain rfl:=sj H
   exact TXr (vs:=[_]) rfl ⟨(Res_agg (n:=4) rfl (by simp) (.o 0) isAgg57 inf57 rfl (lenV (f:=v64) r_1.1)),trivial⟩
 ·intro hJ
  replace H:=Hj
  refine TFd (d:=28) H (fun hc H=>?_) (fun hc H=>?_)
  ·refine TLs ?_
   refine TLs ?_
   refine TVt ?_
   refine TL_nil ?_
   obtain rfl:=sj H
   exact TXj [2,1,0] (hJ ())
  ·refine TLw (V_move rfl) ?_
   refine TLw (V_bin rfl rfl (fun w=>eql64 w r_2.2 0#64)) ?_
   refine TVf ?_
   refine TL_nil ?_
   obtain rfl:=sj H
   exact TXj [2,1,0] (hJ ())
end Go.Proofs
end

section
namespace Go.Proofs
open Go Go.Kx
open Vector (replicate)
open TryI Try
def num_Field_Sub (f_M:Vx 64 4) (f_inv:BitVec 64) (f_one:Vx 64 4) (f_two:Vx 64 4) (x:Vx 64 4) (y:Vx 64 4):Option (Vx 64 4) :=
 (num_sub x y).bind fun (r_1:Vx 64 4 × BitVec 64)=>(if r_1.2=1#64 then ((num_add r_1.1 f_M).bind fun (r_2:Vx 64 4 × BitVec 64)=>(some r_2.1)) else (some r_1.1))
set_option maxHeartbeats 4000000 in
set_option maxRecDepth 20000 in
theorem F77_calls (bf:Nat) (obf:Nat) (f_M:Vx 64 4) (f_inv:BitVec 64) (f_one:Vx 64 4) (f_two:Vx 64 4) (x:Vx 64 4) (y:Vx 64 4) (r:Vx 64 4) (H:num_Field_Sub f_M f_inv f_one f_two x y=some r) :
  Does Try.prog 77 [ptr (some (bf,obf)) 0,aG [(4,e64 x.toList)],aG [(4,e64 y.toList)]] [] [⟨some (bf,obf),e64 f_M.toList⟩,⟨some (bf,obf+4),[v64 f_inv]⟩,⟨some (bf,obf+5),e64 f_one.toList⟩,⟨some (bf,obf+9),e64 f_two.toList⟩] (Γ:=Unit) (fun g=>aG [(4,e64 r.toList)]) (fun g=>[]):=by
 intro w hmem hro hd
 refine calls_of (N:=27) (m0:=[(0,ptr (some (bf,obf)) 0),(1,aG [(4,e64 x.toList)]),(2,aG [(4,e64 y.toList)])]) func77 rfl ntmps77 (argM_ok [ptr (some (bf,obf)) 0,aG [(4,e64 x.toList)],aG [(4,e64 y.toList)]]) rfl hmem hro hd ?_
 unfold num_Field_Sub at H
 refine TC_seq (TC_region (TLe (E_boxP [(4,e64 x.toList)] rfl rfl ⟨(lenV (f:=v64) x),trivial⟩) (fun b1=>?_)))
 refine TLe (E_boxP [(4,e64 y.toList)] rfl rfl ⟨(lenV (f:=v64) y),trivial⟩) (fun b2=>?_)
 refine TLe (E_al64 4 inf57 zer57) (fun b3=>?_)
 refine TL_nil (TX_next (TC_seq (TC_region (TLv (V_lag (.o 2) isAgg57 inf57) ?_))))
 refine TLv (V_lag (.o 1) isAgg57 inf57) ?_
 obtain ⟨r_1,hr_1,H⟩:=bind_elim H
 refine TLe (E_c0 (F85_calls x y r_1 hr_1) call85 .z) (fun g_1=>?_)
 refine TVm ?_
 refine TLv V_ex ?_
 refine TLv V_ex ?_
 refine TLe (E_al64 4 inf57 zer57) (fun b4=>?_)
 refine TLn (E_sv (vs:=e64 r_1.1.toList) 0 inf57) (fun _=>?_)
 refine TVa ?_
 refine TL_nil (TX_next (TC_seq (TC_seq (TC_region (TVm ?_)))))
 refine TLv (V_bin rfl rfl (fun w=>eql64 w r_1.2 1#64)) ?_
 refine TL_nil (TX_next (TCd H (fun hc H=>?_) (fun hc H=>?_)))
 ·obtain ⟨r_2,hr_2,H⟩:=bind_elim H
  refine TA_begin [⟨some (b3,0),e64 ((replicate 4 0#64).toList)⟩,⟨some (b2,0),e64 y.toList⟩,⟨some (b1,0),e64 x.toList⟩] 10 (by kernel_rfl) (N:=10) rfl ?_
  refine TA_tk 1 [1,1,1] (dn 10 2) rfl rfl (V_move rfl) ?_
  refine TA_tk 2 [1,1,1] (dn 10 6) rfl rfl (V_nilCheck rfl) ?_
  refine TA_tk 3 [1,1,1] (dn 10 14) rfl rfl (V_fieldE rfl underlying113 rfl rfl inf57 rfl (v:=ptr (some (bf,obf)) 0) rfl) ?_
  refine TA_tk 4 [1,1,1] (dn 10 30) rfl rfl (V_lag (.r 0) isAgg57 inf57) ?_
  refine TA_all (rs:=[0]) (by kernel_rfl) rfl ?_
  refine ⟨?_,trivial⟩
  refine TO_v (is:=[1,1,1]) (done':=dn 10 31) rfl rfl rfl rfl (by kernel_rfl) (V_lag (.o 0) isAgg57 inf57) (fun _=>rfl) ?_
  refine TA_all (rs:=[5]) (by kernel_rfl) rfl ?_
  refine ⟨?_,trivial⟩
  refine TO_e (is:=[1,1,1]) (done':=dn 10 63) rfl rfl rfl rfl (by kernel_rfl) (E_c0 (F88_calls r_1.1 f_M r_2 hr_2) call88 .z) (fun _ _=>rfl) (fun g_2=>?_)
  refine TA_tk 6 [1,1,1] (dn 10 127) rfl rfl (V_move rfl) ?_
  refine TA_tk 7 [1,1,1] (dn 10 255) rfl rfl V_ex ?_
  refine TA_tk 8 [1,1,1] (dn 10 511) rfl rfl V_ex ?_
  refine TA_all (rs:=[9]) (by kernel_rfl) rfl ?_
  refine ⟨?_,trivial⟩
  refine TO_n (is:=[1,1,1]) (done':=dn 10 1023) rfl rfl rfl (by kernel_rfl) (E_sv (vs:=e64 r_2.1.toList) 0 inf57) (fun _ _=>rfl) (fun _=>?_)
  refine TA_done (by kernel_rfl) ?_ 0
  refine TX_next (TC_seq (TC_region (TLv (V_lag (.o 0) isAgg57 inf57) ?_)))
  refine TLn (E_sv (vs:=e64 r_2.1.toList) 1 inf57) (fun _=>?_)
  refine TL_nil (TX_next (TC_ret ?_))
  obtain rfl:=sj H
  exact TXr (vs:=[_]) rfl ⟨(Res_agg (n:=4) rfl (by simp) (.o 1) isAgg57 inf57 rfl (lenV (f:=v64) r_2.1)),trivial⟩
 ·refine TC_skip (TX_next (TC_seq (TC_region (TLv (V_lag (.o 0) isAgg57 inf57) ?_))))
  refine TLn (E_sv (vs:=e64 r_1.1.toList) 1 inf57) (fun _=>?_)
  refine TL_nil (TX_next (TC_ret ?_))
  obtain rfl:=sj H
  exact TXr (vs:=[_]) rfl ⟨(Res_agg (n:=4) rfl (by simp) (.o 1) isAgg57 inf57 rfl (lenV (f:=v64) r_1.1)),trivial⟩
end Go.Proofs
end

section
namespace Go.Proofs
open Go Go.Kx
open Vector (replicate)
open TryI Try
def num_Field_In (f_M:Vx 64 4) (f_inv:BitVec 64) (f_one:Vx 64 4) (f_two:Vx 64 4) (x:Vx 64 4):Option (Vx 64 4) :=
 (num_Field_Mul f_M f_inv f_one f_two x f_two).bind fun (r_1:Vx 64 4)=>(some r_1)
set_option maxHeartbeats 4000000 in
set_option maxRecDepth 20000 in
theorem F56_calls (bf:Nat) (obf:Nat) (f_M:Vx 64 4) (f_inv:BitVec 64) (f_one:Vx 64 4) (f_two:Vx 64 4) (x:Vx 64 4) (r:Vx 64 4) (H:num_Field_In f_M f_inv f_one f_two x=some r) :
  Does Try.prog 56 [ptr (some (bf,obf)) 0,aG [(4,e64 x.toList)]] [] [⟨some (bf,obf),e64 f_M.toList⟩,⟨some (bf,obf+4),[v64 f_inv]⟩,⟨some (bf,obf+5),e64 f_one.toList⟩,⟨some (bf,obf+9),e64 f_two.toList⟩] (Γ:=Unit) (fun g=>aG [(4,e64 r.toList)]) (fun g=>[]):=by
 intro w hmem hro hd
 refine calls_of (N:=12) (m0:=[(0,ptr (some (bf,obf)) 0),(1,aG [(4,e64 x.toList)])]) func56 rfl ntmps56 (argM_ok [ptr (some (bf,obf)) 0,aG [(4,e64 x.toList)]]) rfl hmem hro hd ?_
 unfold num_Field_In at H
 refine TC_seq (TC_region (TLe (E_boxP [(4,e64 x.toList)] rfl rfl ⟨(lenV (f:=v64) x),trivial⟩) (fun b1=>?_)))
 refine TLe (E_al64 4 inf57 zer57) (fun b2=>?_)
 refine TL_nil (TX_next (TC_seq ?_))
 obtain ⟨r_1,hr_1,H⟩:=bind_elim H
 refine TA_begin [] 8 (by kernel_rfl) (N:=8) rfl ?_
 refine TA_mix (is:=[]) (done':=dn 8 127) [itV 0 5 (ptr (some (bf,obf)) 0) [],itV 1 6 (aG [(4,e64 x.toList)]) [],itV 2 7 (ptr (some (bf,obf)) 0) [],itV 3 8 (ptr (some (bf,obf)) 0) [2],itV 4 9 (ptr (some (bf,obf+9)) 0) [3],itV 5 10 (aG [(4,e64 f_two.toList)]) [4],itV 6 11 (aG [(4,e64 r_1.toList)]) [5,0,1]] [] 1 (by kernel_rfl) (QP.then QP.body) (by kernel_rfl) rfl (.v rfl (V_move rfl) (.v rfl (V_lag (.o 1) isAgg57 inf57) (.v rfl (V_move rfl) (.v rfl (V_nilCheck rfl) (.v rfl (V_fe underlying113 inf57) (.v rfl (V_lag (.r 3) isAgg57 inf57) (.e rfl (E_cu (F58_calls bf obf f_M f_inv f_one f_two x f_two r_1 hr_1) call58 ⟨.r 0, .r 1, .r 2, .r 3,trivial⟩) .nil))))))) .nil (by kernel_rfl) rfl (fun γ=>?_)
 refine TA_cut [(11,aG [(4,e64 r_1.toList)]),(4,ptr (some (b2,0)) 0)] [⟨some (b2,0),e64 ((replicate 4 0#64).toList)⟩,⟨some (b1,0),e64 x.toList⟩] ⟨rfl,rfl,trivial⟩ rfl ?_
 refine TA_all (rs:=[7]) (by kernel_rfl) rfl ?_
 refine ⟨?_,trivial⟩
 refine TO_n (is:=[]) (done':=dn 8 255) rfl rfl rfl (by kernel_rfl) (E_sv (vs:=e64 r_1.toList) 0 inf57) (fun _ _=>rfl) (fun _=>?_)
 refine TA_done (by kernel_rfl) ?_ 0
 refine TX_next (TC_ret ?_)
 obtain rfl:=sj H
 exact TXr (vs:=[_]) rfl ⟨(Res_agg (n:=4) rfl (by simp) (.o 0) isAgg57 inf57 rfl (lenV (f:=v64) r_1)),trivial⟩
end Go.Proofs
end

section
namespace Go.Proofs
open Go Go.Kx
open Vector (replicate)
open TryI Try
def num_Field_Out (f_M:Vx 64 4) (f_inv:BitVec 64) (f_one:Vx 64 4) (f_two:Vx 64 4) (x:Vx 64 4):Option (Vx 64 4) :=
 (num_Field_Mul f_M f_inv f_one f_two x (vp (replicate 4 0#64) 0 1#64:Vx 64 4)).bind fun (r_1:Vx 64 4)=>(some r_1)
set_option maxHeartbeats 4000000 in
set_option maxRecDepth 20000 in
theorem F57_calls (bf:Nat) (obf:Nat) (f_M:Vx 64 4) (f_inv:BitVec 64) (f_one:Vx 64 4) (f_two:Vx 64 4) (x:Vx 64 4) (r:Vx 64 4) (H:num_Field_Out f_M f_inv f_one f_two x=some r) :
  Does Try.prog 57 [ptr (some (bf,obf)) 0,aG [(4,e64 x.toList)]] [] [⟨some (bf,obf),e64 f_M.toList⟩,⟨some (bf,obf+4),[v64 f_inv]⟩,⟨some (bf,obf+5),e64 f_one.toList⟩,⟨some (bf,obf+9),e64 f_two.toList⟩] (Γ:=Unit) (fun g=>aG [(4,e64 r.toList)]) (fun g=>[]):=by
 intro w hmem hro hd
 refine calls_of (N:=9) (m0:=[(0,ptr (some (bf,obf)) 0),(1,aG [(4,e64 x.toList)])]) func57 rfl ntmps57 (argM_ok [ptr (some (bf,obf)) 0,aG [(4,e64 x.toList)]]) rfl hmem hro hd ?_
 unfold num_Field_Out at H
 refine TC_seq (TC_region (TLe (E_boxP [(4,e64 x.toList)] rfl rfl ⟨(lenV (f:=v64) x),trivial⟩) (fun b1=>?_)))
 refine TLe (E_al64 4 inf57 zer57) (fun b2=>?_)
 refine TL_nil (TX_next (TC_seq (TC_region (TVm ?_))))
 refine TLv (V_lag (.o 1) isAgg57 inf57) ?_
 refine TLv (V_buildArr (pv:=[(0,v64 1#64)]) rfl rfl underlying57 inf57 inf55 rfl zer57 (cs:=e64 ((vp (replicate 4 0#64) 0 1#64:Vx 64 4).toList)) (by kernel_rfl)) ?_
 obtain ⟨r_1,hr_1,H⟩:=bind_elim H
 refine TLe (E_c0 (F58_calls bf obf f_M f_inv f_one f_two x (vp (replicate 4 0#64) 0 1#64:Vx 64 4) r_1 hr_1) call58 ⟨.r 0, .r 1, .r 2, .r 3,trivial⟩) (fun g_1=>?_)
 refine TLn (E_sv (vs:=e64 r_1.toList) 0 inf57) (fun _=>?_)
 refine TL_nil (TX_next (TC_ret ?_))
 obtain rfl:=sj H
 exact TXr (vs:=[_]) rfl ⟨(Res_agg (n:=4) rfl (by simp) (.o 0) isAgg57 inf57 rfl (lenV (f:=v64) r_1)),trivial⟩
end Go.Proofs
end

section
namespace Go.Proofs
open Go Go.Kx
open Vector (replicate)
open TryI Try
def num_Field_Inv.b0 (f_M:Vx 64 4) (f_inv:BitVec 64) (f_one:Vx 64 4) (f_two:Vx 64 4) (x:Vx 64 4) (r_1:Vx 64 4 × BitVec 64) (s0:Int × Vx 64 4):Option ((Int × Vx 64 4) ⊕ (Vx 64 4)) :=
 if 0≤s0.1 then ((num_Field_Mul f_M f_inv f_one f_two s0.2 s0.2).bind fun (r_2:Vx 64 4)=>(if 0≤w64 (s0.1.tdiv 64)∧w64 (s0.1.tdiv 64)<(4:Int) then (if 0≤s0.1.tmod 64 then (if (((vg r_1.1 ((w64 (s0.1.tdiv 64)).toNat)) >>> (s0.1.tmod 64).toNat) &&& 1#64)=1#64 then ((num_Field_Mul f_M f_inv f_one f_two r_2 x).bind fun (r_3:Vx 64 4)=>(ltt (w64 (s0.1 - 1)) fun (i1:Int)=>(some (.inl (i1,r_3))))) else (ltt (w64 (s0.1 - 1)) fun (i2:Int)=>(some (.inl (i2,r_2))))) else none) else none)) else (some (.inr s0.2))
def num_Field_Inv (f_M:Vx 64 4) (f_inv:BitVec 64) (f_one:Vx 64 4) (f_two:Vx 64 4) (x:Vx 64 4):Option (Vx 64 4) :=
 (num_sub f_M (vp (replicate 4 0#64) 0 2#64:Vx 64 4)).bind fun (r_1:Vx 64 4 × BitVec 64)=>((loop (num_Field_Inv.b0 f_M f_inv f_one f_two x r_1) BIG (255,f_one)).bind fun (t_1:Vx 64 4)=>(some t_1))
set_option maxHeartbeats 4000000 in
set_option maxRecDepth 20000 in
theorem F60_calls (bf:Nat) (obf:Nat) (f_M:Vx 64 4) (f_inv:BitVec 64) (f_one:Vx 64 4) (f_two:Vx 64 4) (x:Vx 64 4) (r:Vx 64 4) (H:num_Field_Inv f_M f_inv f_one f_two x=some r) :
  Does Try.prog 60 [ptr (some (bf,obf)) 0,aG [(4,e64 x.toList)]] [] [⟨some (bf,obf),e64 f_M.toList⟩,⟨some (bf,obf+4),[v64 f_inv]⟩,⟨some (bf,obf+5),e64 f_one.toList⟩,⟨some (bf,obf+9),e64 f_two.toList⟩] (Γ:=Unit) (fun g=>aG [(4,e64 r.toList)]) (fun g=>[]):=by
 intro w hmem hro hd
 refine calls_of (N:=44) (m0:=[(0,ptr (some (bf,obf)) 0),(1,aG [(4,e64 x.toList)])]) func60 rfl ntmps60 (argM_ok [ptr (some (bf,obf)) 0,aG [(4,e64 x.toList)]]) rfl hmem hro hd ?_
 unfold num_Field_Inv at H
 refine TC_seq (TC_region (TLe (E_boxP [(4,e64 x.toList)] rfl rfl ⟨(lenV (f:=v64) x),trivial⟩) (fun b1=>?_)))
 refine TLe (E_al64 4 inf57 zer57) (fun b2=>?_)
 refine TL_nil (TX_next (TC_seq (TC_region (TVm ?_))))
 refine TLv (V_nilCheck rfl) ?_
 refine TLv (V_fieldE rfl underlying113 rfl rfl inf57 rfl (v:=ptr (some (bf,obf)) 0) rfl) ?_
 refine TLv (V_lag (.r 0) isAgg57 inf57) ?_
 refine TLv (V_buildArr (pv:=[(0,v64 2#64)]) rfl rfl underlying57 inf57 inf55 rfl zer57 (cs:=e64 ((vp (replicate 4 0#64) 0 2#64:Vx 64 4).toList)) (by kernel_rfl)) ?_
 obtain ⟨r_1,hr_1,H⟩:=bind_elim H
 refine TLe (E_c0 (F85_calls f_M (vp (replicate 4 0#64) 0 2#64:Vx 64 4) r_1 hr_1) call85 .z) (fun g_1=>?_)
 refine TVm ?_
 refine TLv V_ex ?_
 refine TLv V_ex ?_
 refine TLe (E_al64 4 inf57 zer57) (fun b3=>?_)
 refine TLn (E_sv (vs:=e64 r_1.1.toList) 0 inf57) (fun _=>?_)
 refine TVa ?_
 refine TL_nil (TX_next (TC_seq (TC_region (TVm ?_))))
 refine TLv (V_nilCheck rfl) ?_
 refine TLv (V_fieldE rfl underlying113 rfl rfl inf57 rfl (v:=ptr (some (bf,obf+5)) 0) rfl) ?_
 refine TLv (V_lag (.r 2) isAgg57 inf57) ?_
 refine TLe (E_al64 4 inf57 zer57) (fun b4=>?_)
 refine TLn (E_sv (vs:=e64 f_one.toList) 0 inf57) (fun _=>?_)
 refine TL_nil (TX_next (TC_seq (TC_seq (TC_region (TVa ?_)))))
 refine TL_nil (TX_next (TC_block ?_))
 obtain ⟨t_1,Hl,H⟩:=bind_elim H
 refine TC.sub (m':=[(0,_),(3,_),(4,_),(5,_),(7,_),(8,_)]) ⟨rfl,rfl,rfl,rfl,rfl,rfl,trivial⟩ ?_
 refine TC.pull (is:=[3,2,1,0]) (L':=[_,_,_,_]) rfl ?_
 refine TC_loopL (id:=0) (body:=(num_Field_Inv.b0 f_M f_inv f_one f_two x r_1)) (σ:=Int × Vx 64 4) (Γ:=Unit) (Γx:=Unit) (fun s0 g0_=>[(0,ptr (some (bf,obf)) 0),(3,ptr (some (b1,0)) 0),(4,ptr (some (b2,0)) 0),(5,ptr (some (b3,0)) 0),(7,ptr (some (b4,0)) 0),(8,vi s0.1)]) (fun s0 g0_=>[⟨some (b1,0),e64 x.toList⟩,⟨some (b2,0),e64 ((replicate 4 0#64).toList)⟩,⟨some (b3,0),e64 r_1.1.toList⟩,⟨some (b4,0),e64 s0.2.toList⟩]) (fun t g=>[(4,ptr (some (b2,0)) 0),(7,ptr (some (b4,0)) 0)]) (fun t g=>[⟨some (b2,0),e64 ((replicate 4 0#64).toList)⟩,⟨some (b4,0),e64 t.toList⟩]) ?_ BIG (255,f_one) () t_1 Hl ?_
 ·intro s0 g0_ r1 H K hK hE
  unfold num_Field_Inv.b0 at H
  refine TC_seq (TC_seq (TC_region (TVm ?_)))
  refine TLv (V_bin rfl rfl (fun w=>geqI w s0.1 0)) ?_
  refine TL_nil (TX_next (TCd H (fun hc H=>?_) (fun hc H=>?_)))
  ·refine TC_skip (TX_next (TC_seq (TC_block (TC_seq (TC_region (TVm ?_))))))
   refine TLv (V_lag (.o 3) isAgg57 inf57) ?_
   refine TLv (V_lag (.o 3) isAgg57 inf57) ?_
   obtain ⟨r_2,hr_2,H⟩:=bind_elim H
   refine TLe (E_c0 (F58_calls bf obf f_M f_inv f_one f_two s0.2 s0.2 r_2 hr_2) call58 ⟨.r 0, .r 1, .r 2, .r 3,trivial⟩) (fun g_2=>?_)
   refine TLn (E_sv (vs:=e64 r_2.toList) 3 inf57) (fun _=>?_)
   refine TL_nil (TX_next (TC_seq (TC_region (TVm ?_))))
   refine TLv (V_bin rfl rfl (fun w=>quoI w s0.1 64 (by decide))) ?_
   obtain ⟨h1,H⟩:=if_elim H
   refine TLv (V_idxArr (i:=w64 (s0.1.tdiv 64)) rfl rfl underlying57 inf55 rfl h1.1 h1.2 (k:=(w64 (s0.1.tdiv 64)).toNat) (k01 _)) ?_
   refine TLv (V_load rfl (.o 2) (get_vec (f:=v64) (V:=r_1.1) (toNat_lt h1.1 h1.2)) isAgg55) ?_
   refine TVm ?_
   refine TLv (V_bin rfl rfl (fun w=>remI w s0.1 64 (by decide))) ?_
   obtain ⟨h2,H⟩:=if_elim H
   refine TLv (V_bin rfl rfl (fun w=>shr64 w (vg r_1.1 ((w64 (s0.1.tdiv 64)).toNat)) .i64 (s0.1.tmod 64) h2)) ?_
   refine TLv (V_bin rfl rfl (fun w=>and64 w ((vg r_1.1 ((w64 (s0.1.tdiv 64)).toNat)) >>> (s0.1.tmod 64).toNat) 1#64)) ?_
   refine TLv (V_bin rfl rfl (fun w=>eql64 w (((vg r_1.1 ((w64 (s0.1.tdiv 64)).toNat)) >>> (s0.1.tmod 64).toNat) &&& 1#64) 1#64)) ?_
   refine TL_nil (TX_next (TCd H (fun hc H=>?_) (fun hc H=>?_)))
   ·refine TC_region (TVm ?_)
    refine TLv (V_lag (.o 3) isAgg57 inf57) ?_
    refine TLv (V_lag (.o 0) isAgg57 inf57) ?_
    obtain ⟨r_3,hr_3,H⟩:=bind_elim H
    refine TLe (E_c0 (F58_calls bf obf f_M f_inv f_one f_two r_2 x r_3 hr_3) call58 ⟨.r 0, .r 1, .r 2, .r 3,trivial⟩) (fun g_3=>?_)
    refine TLn (E_sv (vs:=e64 r_3.toList) 3 inf57) (fun _=>?_)
    refine TL_nil (TX_block_normal (TX_next (TC_region (TVm ?_))))
    refine TLv (V_bin rfl rfl (fun w=>subI w s0.1 1)) ?_
    refine TVa ?_
    obtain ⟨i1,hi1,H⟩:=ltt_elim H
    refine TLr 8 (congrArg vi hi1) ?_
    refine TL_nil ?_
    obtain rfl:=sj H
    exact TXk [0,0,0,0] (hK (i1,r_3) rfl ())
   ·refine TC_skip (TX_block_normal (TX_next (TC_region (TVm ?_))))
    refine TLv (V_bin rfl rfl (fun w=>subI w s0.1 1)) ?_
    refine TVa ?_
    obtain ⟨i2,hi2,H⟩:=ltt_elim H
    refine TLr 8 (congrArg vi hi2) ?_
    refine TL_nil ?_
    obtain rfl:=sj H
    exact TXk [0,0,0,0] (hK (i2,r_2) rfl ())
  ·refine TC_exit (TX_then_exit (TX_then_exit ?_))
   obtain rfl:=sj H
   exact TXj [1,2] (hE s0.2 rfl ())
 ·intro g
  refine TX_block_exit (TX_next (TC_seq (TC_region (TLv (V_lag (.o 1) isAgg57 inf57) ?_))))
  refine TLn (E_sv (vs:=e64 t_1.toList) 0 inf57) (fun _=>?_)
  refine TL_nil (TX_next (TC_ret ?_))
  obtain rfl:=sj H
  exact TXr (vs:=[_]) rfl ⟨(Res_agg (n:=4) rfl (by simp) (.o 0) isAgg57 inf57 rfl (lenV (f:=v64) t_1)),trivial⟩
end Go.Proofs
end

/-
  Part 3 of the proof of EcdsaTwins.
-/
import Derived.KernelRfl
import Derived.Test.YtiofnmmggblcgaaEcdsaTwinsA1
import Derived.Test.YtiofnmmggblcgaaEcdsaTwinsA2
set_option linter.unusedVariables false
set_option linter.unusedSimpArgs false
section
namespace Go.Kx
open Go Go.Proofs
open Vector (replicate)
theorem round_eq {B X Y Mt T T' U m M0 Ms t0 ts c2 r4 r42 r10 r102 c v3:Nat}
  (hB:B=2 ^ 64) (hM:Mt=M0+B * Ms) (ht:U=t0+B * ts+(r4+B * r42) * B ^ 4)
  (hU:U=T+X * Y) (hc2:B * c2=m * M0+t0) (h2:v3+c * B ^ 3=ts+Ms * m+c2) (h10:r10+B * r102=r4+c) (hT:T'=v3+r10 * B ^ 3+(r42+r102) * B ^ 4) :
  B * T'=T+X * Y+m * Mt:=by
 clear hB
 subst hM hT
 exact Int.ofNat_inj.1 (by
  simp only [Int.natCast_add,Int.natCast_mul,Int.natCast_pow]
  replace ht:=congrArg (Nat.cast (R:=Int)) ht
  replace hU:=congrArg (Nat.cast (R:=Int)) hU
  replace hc2:=congrArg (Nat.cast (R:=Int)) hc2
  replace h2:=congrArg (Nat.cast (R:=Int)) h2
  replace h10:=congrArg (Nat.cast (R:=Int)) h10
  simp only [Int.natCast_add,Int.natCast_mul,Int.natCast_pow] at ht hU hc2 h2 h10
  generalize (B:Int)=B at *
  generalize (X:Int)=X at *
  generalize (Y:Int)=Y at *
  generalize (T:Int)=T at *
  generalize (U:Int)=U at *
  generalize (m:Int)=m at *
  generalize (M0:Int)=M0 at *
  generalize (Ms:Int)=Ms at *
  generalize (t0:Int)=t0 at *
  generalize (ts:Int)=ts at *
  generalize (c2:Int)=c2 at *
  generalize (r4:Int)=r4 at *
  generalize (r42:Int)=r42 at *
  generalize (r10:Int)=r10 at *
  generalize (r102:Int)=r102 at *
  generalize (c:Int)=c at *
  generalize (v3:Int)=v3 at *
  obtain rfl:r4=r10+B * r102 - c:=by rw [h10,Int.add_sub_cancel]
  obtain rfl:ts=v3+c * B ^ 3 - Ms * m - c2:=by rw [h2]; omega
  obtain rfl:t0=B * c2 - m * M0:=by rw [hc2]; omega
  obtain rfl:T=U - X * Y:=by rw [hU]; omega
  rw [ht]
  clear ht hU hc2 h2 h10
  grind)
theorem outer_eq {B w X py yk q m M T T':Nat} (he:T * w=X * py+q * M) (e:B * T'=T+X * yk+m * M):T' * (w * B)=X * (py+yk * w)+(q+m * w) * M:=by
 have e3:T' * (w * B)=(B * T') * w:=by rw [Nat.mul_comm w B, ← Nat.mul_assoc,Nat.mul_comm T' B]
 rw [e3,e,Nat.add_mul,Nat.add_mul,he,Nat.mul_add,Nat.add_mul,Nat.mul_assoc X yk w,Nat.mul_right_comm m M w]
 generalize X * py=a
 generalize q * M=b
 generalize X * (yk * w)=c
 generalize m * w * M=d
 omega
theorem mul_b0 (M:Vx 64 4) (inv:BitVec 64) (hinv:(wv M 0 * inv.toNat+1) % 2 ^ 64=0) (x y:Vx 64 4) (i:Nat) (hi:i<4) (t:Vx 64 6) :
  ∃ t',num_Field_Mul.b0 M inv x y ((i:Int),t)=some (.inl (((i+1:Nat):Int),t')) ∧ ∃ m,m<2 ^ 64∧2 ^ 64 * pv (2 ^ 64) (wv t') 5=pv (2 ^ 64) (wv t) 5+n4 x * wv y i+m * n4 M:=by
 obtain ⟨⟨c,u⟩,hl1,e1,e1'⟩:=mul_b1 x y i hi t
 dsimp only at e1 e1'
 obtain ⟨r4,h4,e4,l4⟩:=add64_ex (vg u 4) c 0#64 (by decide)
 obtain ⟨w,hw⟩ : ∃ w,w=vp (vp u 4 r4.1) 5 r4.2:=⟨_,rfl⟩
 obtain ⟨m,hm⟩ : ∃ m,m=vg w 0 * inv:=⟨_,rfl⟩
 obtain ⟨hl,r6,h5,h6,e6⟩:=mac64' m (vg M 0) (vg w 0)
 obtain ⟨⟨c',v⟩,hl2,e2,e24,e25⟩:=mul_b2 M m (hl.1+r6.2) w
 dsimp only at e2 e24 e25
 obtain ⟨r10,h10,e10,l10⟩:=add64_ex (vg v 4) c' 0#64 (by decide)
 refine ⟨vp (vp v 3 r10.1) 4 ((vg (vp v 3 r10.1) 5)+r10.2),?_,m.toNat,m.isLt,?_⟩
 ·unfold num_Field_Mul.b0
  dsimp only
  refine if_i (by omega) (bind_i hl1 (bind_i (v:=r4) h4 (ltt_i fun v1 hv1=>ltt_i fun v2 hv2=>?_)))
  rw [← hw] at hv1
  subst hv1
  rw [← hm] at hv2
  subst hv2
  refine bind_i (v:=hl) h5 (bind_i (v:=r6) h6 (ltt_i fun v3 hv3=>?_))
  rw [hv3]
  refine bind_i hl2 (bind_i (v:=r10) h10 (ltt_i fun v4 hv4=>?_))
  rw [hv4,w64_s (by omega)]
 ·have hlo:r6.1.toNat=0:=by
   have hmm:m.toNat=wv w 0 * inv.toNat % 2 ^ 64:=by rw [hm,BitVec.toNat_mul]; rfl
   have hd:(m.toNat * wv M 0+wv w 0) % 2 ^ 64=0:=by
    rw [hmm,Nat.add_mod,Nat.mod_mul_mod, ← Nat.add_mod]
    have:wv w 0 * inv.toNat * wv M 0+wv w 0=wv w 0 * (wv M 0 * inv.toNat+1):=by grind
    rw [this,Nat.mul_mod,hinv,Nat.mul_zero,Nat.zero_mod]
   have e6':r6.1.toNat+2 ^ 64 * (hl.1+r6.2).toNat=m.toNat * wv M 0+wv w 0:=e6
   have:=r6.1.isLt
   rw [← e6',Nat.add_mul_mod_self_left] at hd
   rwa [Nat.mod_eq_of_lt this] at hd
  have z:(0#64).toNat=0:=rfl
  rw [z,Nat.add_zero] at e4 e10
  have hw5:wv w 5=r4.2.toNat:=by rw [hw,wv_vp (by decide) (by decide),if_pos rfl]
  have hw4:wv w 4=r4.1.toNat:=by rw [hw,wv_vp (by decide) (by decide),if_neg (by decide),wv_vp (by decide) (by decide),if_pos rfl]
  have hw3:pv (2 ^ 64) (wv w) 4=pv (2 ^ 64) (wv u) 4:=by rw [hw,pv_vp (by decide) (by decide),pv_vp (by decide) (by decide)]
  have hT:pv (2 ^ 64) (wv (vp (vp v 3 r10.1) 4 ((vg (vp v 3 r10.1) 5)+r10.2))) 5=pv (2 ^ 64) (wv v) 3+r10.1.toNat * (2 ^ 64) ^ 3+(r4.2.toNat+r10.2.toNat) * (2 ^ 64) ^ 4:=by
   rw [pv_vp1 (by decide),pv_vp1 (by decide)]
   congr 2
   rw [BitVec.toNat_add]
   have:(vg (vp v 3 r10.1) 5).toNat=r4.2.toNat:=by
    show wv _ 5=_
    rw [wv_vp (by decide) (by decide),if_neg (by decide),e25,hw5]
   rw [this,Nat.mod_eq_of_lt (by omega)]
  have hx:n4 x=pv (2 ^ 64) (wv x) 4:=rfl
  have hM:n4 M=wv M 0+2 ^ 64 * pv (2 ^ 64) (fun j=>wv M (j+1)) 3:=pv_shift 3
  have hws:pv (2 ^ 64) (wv w) 4=wv w 0+2 ^ 64 * pv (2 ^ 64) (fun j=>wv w (j+1)) 3:=pv_shift 3
  have e6':r6.1.toNat+2 ^ 64 * (hl.1+r6.2).toNat=m.toNat * wv M 0+wv w 0:=e6
  rw [hlo,Nat.zero_add] at e6'
  have e4':r4.1.toNat+2 ^ 64 * r4.2.toNat=wv u 4+c.toNat:=e4
  have e10':r10.1.toNat+2 ^ 64 * r10.2.toNat=wv v 4+c'.toNat:=e10
  rw [e24,hw4] at e10'
  rw [e1'] at e4'
  have ht5:pv (2 ^ 64) (wv t) 5=pv (2 ^ 64) (wv t) 4+wv t 4 * (2 ^ 64) ^ 4:=rfl
  generalize hBB:(2 ^ 64:Nat)=B at *
  refine round_eq (B:=B) (U:=wv w 0+B * pv B (fun j=>wv w (j+1)) 3+(r4.1.toNat+B * r4.2.toNat) * B ^ 4) hBB.symm hM rfl ?_ e6' e2 e10' hT
  rw [← hws,hw3,e4',ht5,hx]
  rw [Nat.add_mul]
  have:=e1
  omega
theorem num_Field_Mul_ex (M:Vx 64 4) (inv:BitVec 64) (one two x y:Vx 64 4) (hinv:(wv M 0 * inv.toNat+1) % 2 ^ 64=0) (hxy:n4 x * n4 y<n4 M * 2 ^ 256) :
  ∃ r,num_Field_Mul M inv one two x y=some r∧n4 r<n4 M∧(n4 r * 2 ^ 256) % n4 M=(n4 x * n4 y) % n4 M:=by
 obtain ⟨t,h1,q,hq,e⟩:=loop_inv (body:=num_Field_Mul.b0 M inv x y) (s0:=(0,replicate 6 0#64)) 4
  (fun k s=>s.1=(k:Int) ∧ ∃ q,q<(2 ^ 64) ^ k∧pv (2 ^ 64) (wv s.2) 5 * (2 ^ 64) ^ k=n4 x * pv (2 ^ 64) (wv y) k+q * n4 M)
  (fun t => ∃ q,q<(2 ^ 64) ^ 4∧pv (2 ^ 64) (wv t) 5 * (2 ^ 64) ^ 4=n4 x * pv (2 ^ 64) (wv y) 4+q * n4 M) (by decide)
  ⟨rfl,0,by decide,by
   have:pv (2 ^ 64) (wv (replicate 6 0#64)) 5=0:=by decide
   dsimp only
   rw [this]; simp [pv]⟩
  (fun k s hk hI=>by
   obtain ⟨i,t⟩:=s
   obtain ⟨hi,q,hq,he⟩:=hI
   dsimp only at hi hq he
   subst hi
   obtain ⟨t',h1,m,hm,e⟩:=mul_b0 M inv hinv x y k hk t
   refine ⟨_,h1,rfl,q+m * (2 ^ 64) ^ k,?_,?_⟩
   ·rw [pow_s (2 ^ 64) k]
    generalize hBB:(2 ^ 64:Nat)=B at *
    have:=Nat.mul_le_mul_right (B ^ k) (Nat.succ_le_of_lt hm)
    rw [Nat.succ_mul] at this
    rw [Nat.mul_comm (B ^ k) B]
    omega
   ·dsimp only
    rw [pow_s (2 ^ 64) k]
    show _=n4 x * (pv (2 ^ 64) (wv y) k+wv y k * (2 ^ 64) ^ k)+_
    exact outer_eq he e)
  (fun s hI=>by
   obtain ⟨i,t⟩:=s
   obtain ⟨hi,q,hq,he⟩:=hI
   dsimp only at hi hq he
   subst hi
   exact ⟨t,by unfold num_Field_Mul.b0; exact if_n (by dsimp only; omega) rfl,q,hq,he⟩)
 obtain ⟨z,hz⟩ : ∃ z:Vx 64 4,z = #v[vg t 0,vg t 1,vg t 2,vg t 3]:=⟨_,rfl⟩
 have ez:n4 z=pv (2 ^ 64) (wv t) 4:=by
  refine pv_congr fun j hj=>?_
  rw [hz]
  have:j=0 ∨ j=1 ∨ j=2 ∨ j=3:=by omega
  rcases this with rfl | rfl | rfl | rfl <;> rfl
 have e5:pv (2 ^ 64) (wv t) 5=n4 z+wv t 4 * 2 ^ 256:=by
  rw [ez]
  show pv (2 ^ 64) (wv t) 4+wv t 4 * (2 ^ 64) ^ 4=_
  rw [show (2 ^ 64:Nat) ^ 4=2 ^ 256 by decide]
 rw [show (2 ^ 64:Nat) ^ 4=2 ^ 256 by decide] at hq e
 have ey:pv (2 ^ 64) (wv y) 4=n4 y:=rfl
 rw [e5,ey] at e
 obtain ⟨⟨w,b⟩,hs,es,lb⟩:=num_sub_ex z M
 dsimp only at es lb
 have hzl:=n4_lt z
 have hwl:=n4_lt w
 have hMl:=n4_lt M
 have hlt:n4 z+wv t 4 * 2 ^ 256<2 * n4 M:=by
  have:q * n4 M≤2 ^ 256 * n4 M:=Nat.mul_le_mul_right _ (Nat.le_of_lt hq)
  have h3:(n4 z+wv t 4 * 2 ^ 256) * 2 ^ 256<(2 * n4 M) * 2 ^ 256:=by
   rw [e]
   generalize n4 x * n4 y=p at *
   generalize q * n4 M=p2 at *
   omega
  exact Nat.lt_of_mul_lt_mul_right h3
 have ht4:wv t 4≤1:=by omega
 have hgoal : ∀ r:Vx 64 4,(n4 r=n4 z+wv t 4 * 2 ^ 256 ∨ n4 r+n4 M=n4 z+wv t 4 * 2 ^ 256) → (n4 r * 2 ^ 256) % n4 M=(n4 x * n4 y) % n4 M:=fun r hr=>by
  have key:((n4 z+wv t 4 * 2 ^ 256) * 2 ^ 256) % n4 M=(n4 x * n4 y) % n4 M:=by rw [e,Nat.add_mul_mod_self_right]
  rcases hr with hr | hr
  ·rw [hr]; exact key
  ·rw [← hr,Nat.add_mul,Nat.add_mul_mod_self_left] at key
   exact key
 unfold num_Field_Mul
 by_cases h4:vg t 4=1#64
 ·have h4':wv t 4=1:=by unfold wv; rw [h4]; rfl
  refine ⟨w,bind_i h1 (ltt_i fun v hv=>?_),?_,hgoal w (.inr ?_)⟩
  ·rw [hv, ← hz]
   exact bind_i hs (bind_i (if_i h4 rfl) (if_i rfl rfl))
  ·omega
  ·omega
 ·have h4':wv t 4=0:=by
   have:wv t 4 ≠ 1:=fun h=>h4 (BitVec.eq_of_toNat_eq h)
   omega
  by_cases hb:b=0#64
  ·have hb':b.toNat=0:=by rw [hb]; rfl
   refine ⟨w,bind_i h1 (ltt_i fun v hv=>?_),?_,hgoal w (.inr ?_)⟩
   ·rw [hv, ← hz]
    exact bind_i hs (bind_i (if_n h4 rfl) (if_i (by simp [hb]) rfl))
   ·omega
   ·omega
  ·have hb':b.toNat=1:=by
    have:b.toNat ≠ 0:=fun h=>hb (BitVec.eq_of_toNat_eq h)
    omega
   refine ⟨z,bind_i h1 (ltt_i fun v hv=>?_),?_,hgoal z (.inl ?_)⟩
   ·rw [hv, ← hz]
    exact bind_i hs (bind_i (if_n h4 rfl) (if_n (by simp [hb]) rfl))
   ·omega
   ·omega
end Go.Kx
end

section
namespace Go.Proofs
open Go Go.Kx
open Vector (replicate)
def halberdref9_plus.b0 (b:Vx 32 8) (s0:BitVec 64 × Int × Vx 32 8):Option ((BitVec 64 × Int × Vx 32 8) ⊕ (BitVec 64 × Vx 32 8)) :=
 if s0.2.1<8 then (if 0≤s0.2.1∧s0.2.1<(8:Int) then (if 0≤s0.2.1∧s0.2.1<(8:Int) then (ltt ((((vg s0.2.2 ((s0.2.1).toNat)).setWidth 64)+((vg b ((s0.2.1).toNat)).setWidth 64))+s0.1) fun (s_1:BitVec 64)=>(if 0≤s0.2.1∧s0.2.1<(8:Int) then (ltt (vp s0.2.2 ((s0.2.1).toNat) ((s_1 &&& 4294967295#64).setWidth 32)) fun (m_1:Vx 32 8)=>(ltt (w64 (s0.2.1+1)) fun (i1:Int)=>(some (.inl (s_1 >>> 32,i1,m_1))))) else none)) else none) else none) else (some (.inr (s0.1,s0.2.2)))
def halberdref9_plus (a_:Vx 32 8) (b:Vx 32 8):Option (Vx 32 8 × BitVec 64) :=
 (loop (halberdref9_plus.b0 b) BIG (0#64,0,a_)).bind fun (t_1:BitVec 64 × Vx 32 8)=>(some (t_1.2,t_1.1))
set_option maxHeartbeats 4000000 in
set_option maxRecDepth 20000 in
theorem F83_calls (a_:Vx 32 8) (b:Vx 32 8) (r:Vx 32 8 × BitVec 64) (H:halberdref9_plus a_ b=some r) :
  Does Try.prog 83 [aG [(8,e32 a_.toList)],aG [(8,e32 b.toList)]] [] [] (Γ:=Unit) (fun g=>Value.tuple [aG [(8,e32 r.1.toList)],v64 r.2].toArray) (fun g=>[]):=by
 intro w hmem hro hd
 refine calls_of (N:=33) (m0:=[(0,aG [(8,e32 a_.toList)]),(1,aG [(8,e32 b.toList)])]) Try.func83 rfl Try.ntmps83 (argM_ok [aG [(8,e32 a_.toList)],aG [(8,e32 b.toList)]]) rfl hmem hro hd ?_
 unfold halberdref9_plus at H
 refine TC_seq (TC_region (TLe (E_boxP [(8,e32 a_.toList)] rfl rfl ⟨(lenV (f:=v32) a_),trivial⟩) (fun b1=>?_)))
 refine TLe (E_boxP [(8,e32 b.toList)] rfl rfl ⟨(lenV (f:=v32) b),trivial⟩) (fun b2=>?_)
 refine TLe (E_al32 8 TryI.inf31 TryI.zer31) (fun b3=>?_)
 refine TLv (V_assign rfl) ?_
 refine TL_nil (TX_next (TC_seq (TC_region (TLv (V_assign rfl) ?_))))
 refine TL_nil (TX_next (TC_seq (TC_seq (TC_region (TLv (V_assign rfl) ?_)))))
 refine TL_nil (TX_next (TC_block ?_))
 obtain ⟨t_1,Hl,H⟩:=bind_elim H
 refine TC.sub (m':=[(2,ptr (some (b1,0)) 0),(3,ptr (some (b2,0)) 0),(4,ptr (some (b3,0)) 0),(6,v64 0#64),(7,vi 0)]) ⟨rfl,rfl,rfl,rfl,rfl,trivial⟩ ?_
 refine TC.pull (is:=[2,1,0]) (L':=[⟨some (b1,0),e32 a_.toList⟩,⟨some (b2,0),e32 b.toList⟩,⟨some (b3,0),e32 ((replicate 8 0#32).toList)⟩]) rfl ?_
 refine TC_loopL (id:=0) (body:=(halberdref9_plus.b0 b)) (σ:=BitVec 64 × Int × Vx 32 8) (Γ:=Unit) (Γx:=Unit) (fun s0 g0_=>[(2,ptr (some (b1,0)) 0),(3,ptr (some (b2,0)) 0),(4,ptr (some (b3,0)) 0),(6,v64 s0.1),(7,vi s0.2.1)]) (fun s0 g0_=>[⟨some (b1,0),e32 s0.2.2.toList⟩,⟨some (b2,0),e32 b.toList⟩,⟨some (b3,0),e32 ((replicate 8 0#32).toList)⟩]) (fun t g=>[(2,ptr (some (b1,0)) 0),(4,ptr (some (b3,0)) 0),(6,v64 t.1)]) (fun t g=>[⟨some (b1,0),e32 t.2.toList⟩,⟨some (b3,0),e32 ((replicate 8 0#32).toList)⟩]) ?_ BIG (0#64,0,a_) () t_1 Hl ?_
 ·intro s0 g0_ r1 H K hK hE
  unfold halberdref9_plus.b0 at H
  refine TC_seq (TC_seq (TC_region (TLv (V_move rfl) ?_)))
  refine TLv (V_bin rfl rfl (fun w=>lssI w s0.2.1 8)) ?_
  refine TL_nil (TX_next (TC_cond (b:=(decide (s0.2.1<8))) rfl (fun hc=>?_) (fun hc=>?_)))
  ·replace H:=ite_t (of_decide_eq_true hc) H
   refine TC_skip (TX_next (TC_seq (TC_block (TC_seq ?_))))
   obtain ⟨h1,H⟩:=if_elim H
   obtain ⟨h2,H⟩:=if_elim H
   obtain ⟨s_1,hs_1,H⟩:=ltt_elim H
   refine TA_begin [] 12 (by kernel_rfl) (N:=12) rfl ?_
   refine TA_mix (is:=[]) (done':=dn 12 2047) [itV 0 13 (vi s0.2.1) [],itV 1 14 (ptr (some (b1,0)) ((s0.2.1).toNat)) [0],itV 2 15 (v32 (vg s0.2.2 ((s0.2.1).toNat))) [1],itV 3 16 (v64 ((vg s0.2.2 ((s0.2.1).toNat)).setWidth 64)) [2],itV 4 17 (vi s0.2.1) [],itV 5 18 (ptr (some (b2,0)) ((s0.2.1).toNat)) [4],itV 6 19 (v32 (vg b ((s0.2.1).toNat))) [5],itV 7 20 (v64 ((vg b ((s0.2.1).toNat)).setWidth 64)) [6],itV 8 21 (v64 (((vg s0.2.2 ((s0.2.1).toNat)).setWidth 64)+((vg b ((s0.2.1).toNat)).setWidth 64))) [3,7],itV 9 22 (v64 s0.1) [],itV 10 23 (v64 ((((vg s0.2.2 ((s0.2.1).toNat)).setWidth 64)+((vg b ((s0.2.1).toNat)).setWidth 64))+s0.1)) [8,9]] [] 1 (by kernel_rfl) (QP.then (QP.block (QP.then (QP.then (QP.block (QP.then QP.body)))))) (by kernel_rfl) rfl (.v rfl (V_move rfl) (.v rfl (V_idxArr (i:=s0.2.1) rfl rfl Try.underlying31 TryI.inf29 rfl h1.1 h1.2 (k:=(s0.2.1).toNat) (k01 _)) (.v rfl (V_load rfl (.o 0) (get_vec (f:=v32) (V:=s0.2.2) (toNat_lt h1.1 h1.2)) Try.isAgg29) (.v rfl (V_conv rfl (fun w=>cv32to64 w _ _ Try.underlying55 (TryI.und29) (vg s0.2.2 ((s0.2.1).toNat)))) (.v rfl (V_move rfl) (.v rfl (V_idxArr (i:=s0.2.1) rfl rfl Try.underlying31 TryI.inf29 rfl h2.1 h2.2 (k:=(s0.2.1).toNat) (k01 _)) (.v rfl (V_load rfl (.o 1) (get_vec (f:=v32) (V:=b) (toNat_lt h2.1 h2.2)) Try.isAgg29) (.v rfl (V_conv rfl (fun w=>cv32to64 w _ _ Try.underlying55 (TryI.und29) (vg b ((s0.2.1).toNat)))) (.v rfl (V_bin rfl rfl (fun w=>add64 w ((vg s0.2.2 ((s0.2.1).toNat)).setWidth 64) ((vg b ((s0.2.1).toNat)).setWidth 64))) (.v rfl (V_move rfl) (.v rfl (V_bin rfl rfl (fun w=>add64 w (((vg s0.2.2 ((s0.2.1).toNat)).setWidth 64)+((vg b ((s0.2.1).toNat)).setWidth 64)) s0.1)) .nil))))))))))) .nil (by kernel_rfl) rfl (fun γ=>?_)
   refine TA_cut [(23,v64 ((((vg s0.2.2 ((s0.2.1).toNat)).setWidth 64)+((vg b ((s0.2.1).toNat)).setWidth 64))+s0.1)),(2,ptr (some (b1,0)) 0),(3,ptr (some (b2,0)) 0),(4,ptr (some (b3,0)) 0),(7,vi s0.2.1)] [⟨some (b1,0),e32 s0.2.2.toList⟩,⟨some (b2,0),e32 b.toList⟩,⟨some (b3,0),e32 ((replicate 8 0#32).toList)⟩] ⟨rfl,rfl,rfl,rfl,rfl,trivial⟩ rfl ?_
   refine TA_all (rs:=[11]) (by kernel_rfl) rfl ?_
   refine ⟨?_,trivial⟩
   refine TO_v (is:=[]) (done':=dn 12 4095) rfl rfl rfl rfl (by kernel_rfl) (V_assign rfl) (fun _=>rfl) ?_
   refine TA_re (d:=8) (v:=v64 ((((vg s0.2.2 ((s0.2.1).toNat)).setWidth 64)+((vg b ((s0.2.1).toNat)).setWidth 64))+s0.1)) (v':=v64 s_1) rfl (congrArg v64 hs_1) ?_
   refine TA_done (by kernel_rfl) ?_ 0
   refine TX_next (TC_seq (TC_region (TLv (V_move rfl) ?_)))
   refine TLv (V_move rfl) ?_
   refine TLv (V_bin rfl rfl (fun w=>and64 w s_1 4294967295#64)) ?_
   refine TLv (V_conv rfl (fun w=>cv64to32 w _ _ Try.underlying29 (TryI.und55) (s_1 &&& 4294967295#64))) ?_
   obtain ⟨h3,H⟩:=if_elim H
   refine TLv (V_idxArr (i:=s0.2.1) rfl rfl Try.underlying31 TryI.inf29 rfl h3.1 h3.2 (k:=(s0.2.1).toNat) (k01 _)) ?_
   refine TLn (E_store (j:=0) rfl rfl TryI.inf29 rfl rfl rfl (by simpa using (toNat_lt h3.1 h3.2)) (cs':=e32 ((vp s0.2.2 ((s0.2.1).toNat) ((s_1 &&& 4294967295#64).setWidth 32)).toList)) set_vec) (fun _=>?_)
   obtain ⟨m_1,hm_1,H⟩:=ltt_elim H
   refine TL_reE (j:=0) (A:=some (b1,0)) (cs:=e32 ((vp s0.2.2 ((s0.2.1).toNat) ((s_1 &&& 4294967295#64).setWidth 32)).toList)) (cs':=e32 m_1.toList) rfl (congrArg (fun z:Vx 32 8=>e32 (Vector.toList z)) hm_1) ?_
   refine TL_nil (TX_next (TC_region (TLv (V_move rfl) ?_)))
   refine TLv (V_bin rfl rfl (fun w=>shr64 w s_1 .u64 32 (by decide))) ?_
   refine TLv (V_assign rfl) ?_
   refine TL_nil (TX_block_normal (TX_next (TC_region (TLv (V_move rfl) ?_))))
   refine TLv (V_bin rfl rfl (fun w=>addI w s0.2.1 1)) ?_
   refine TLv (V_assign rfl) ?_
   obtain ⟨i1,hi1,H⟩:=ltt_elim H
   refine TL_re (d:=7) (v:=vi (w64 (s0.2.1+1))) (v':=vi i1) rfl (congrArg vi hi1) ?_
   refine TL_nil (TX.sub (m':=[(2,ptr (some (b1,0)) 0),(3,ptr (some (b2,0)) 0),(4,ptr (some (b3,0)) 0),(6,v64 (s_1 >>> 32)),(7,vi i1)]) ⟨rfl,rfl,rfl,rfl,rfl,trivial⟩ ?_)
   refine TX.pull (is:=[0,0,0]) (L':=[⟨some (b1,0),e32 m_1.toList⟩,⟨some (b2,0),e32 b.toList⟩,⟨some (b3,0),e32 ((replicate 8 0#32).toList)⟩]) rfl ?_
   obtain rfl:=Option.some.inj H
   exact fun a w hs=>hK (s_1 >>> 32,i1,m_1) rfl () a w hs
  ·replace H:=ite_f (of_decide_eq_false hc) H
   refine TC_exit (TX_then_exit (TX_then_exit (TX.sub (m':=[(2,ptr (some (b1,0)) 0),(4,ptr (some (b3,0)) 0),(6,v64 s0.1)]) ⟨rfl,rfl,rfl,trivial⟩ ?_)))
   refine TX.pull (is:=[0,1]) (L':=[⟨some (b1,0),e32 s0.2.2.toList⟩,⟨some (b3,0),e32 ((replicate 8 0#32).toList)⟩]) rfl ?_
   obtain rfl:=Option.some.inj H
   exact hE (s0.1,s0.2.2) rfl ()
 ·intro g
  refine TX_block_exit (TX_next (TC_seq (TC_region (TLv (V_lag (.o 0) Try.isAgg31 TryI.inf31) ?_))))
  refine TLv (V_move rfl) ?_
  refine TLn (E_sv (vs:=e32 t_1.2.toList) 1 TryI.inf31) (fun _=>?_)
  refine TLv (V_assign rfl) ?_
  refine TL_nil (TX_next (TC_ret ?_))
  have hrv:=Option.some.inj H
  subst hrv
  exact TX_ret (rs:=[.cell 4 31, .tmp 5]) (vs:=[aG [(8,e32 t_1.2.toList)],v64 t_1.1]) rfl ⟨(Res_agg (n:=8) rfl (by simp) (.o 1) Try.isAgg31 TryI.inf31 rfl (lenV (f:=v32) t_1.2)),rfl,trivial⟩ (fun w' hs'=>⟨(),rfl,Step.left (Step.pulled (is:=[]) (A:=[]) hs' rfl)⟩)
end Go.Proofs
end

section
namespace Go.Proofs
open Go Go.Kx
open Vector (replicate)
def halberdref9_minus.b0 (b:Vx 32 8) (s0:BitVec 64 × Int × Vx 32 8):Option ((BitVec 64 × Int × Vx 32 8) ⊕ (Vx 32 8)) :=
 if s0.2.1<8 then (if 0≤s0.2.1∧s0.2.1<(8:Int) then (if 0≤s0.2.1∧s0.2.1<(8:Int) then (ltt ((((vg s0.2.2 ((s0.2.1).toNat)).setWidth 64) - ((vg b ((s0.2.1).toNat)).setWidth 64)) - s0.1) fun (d1:BitVec 64)=>(if 0≤s0.2.1∧s0.2.1<(8:Int) then (ltt (vp s0.2.2 ((s0.2.1).toNat) ((d1 &&& 4294967295#64).setWidth 32)) fun (m_1:Vx 32 8)=>(ltt (w64 (s0.2.1+1)) fun (i1:Int)=>(some (.inl (d1 >>> 63,i1,m_1))))) else none)) else none) else none) else (some (.inr s0.2.2))
def halberdref9_minus (a_:Vx 32 8) (b:Vx 32 8):Option (Vx 32 8) :=
 (loop (halberdref9_minus.b0 b) BIG (0#64,0,a_)).bind fun (t_1:Vx 32 8)=>(some t_1)
set_option maxHeartbeats 4000000 in
set_option maxRecDepth 20000 in
theorem F82_calls (a_:Vx 32 8) (b:Vx 32 8) (r:Vx 32 8) (H:halberdref9_minus a_ b=some r) :
  Does Try.prog 82 [aG [(8,e32 a_.toList)],aG [(8,e32 b.toList)]] [] [] (Γ:=Unit) (fun g=>aG [(8,e32 r.toList)]) (fun g=>[]):=by
 intro w hmem hro hd
 refine calls_of (N:=31) (m0:=[(0,aG [(8,e32 a_.toList)]),(1,aG [(8,e32 b.toList)])]) Try.func82 rfl Try.ntmps82 (argM_ok [aG [(8,e32 a_.toList)],aG [(8,e32 b.toList)]]) rfl hmem hro hd ?_
 unfold halberdref9_minus at H
 refine TC_seq (TC_region (TLe (E_boxP [(8,e32 a_.toList)] rfl rfl ⟨(lenV (f:=v32) a_),trivial⟩) (fun b1=>?_)))
 refine TLe (E_boxP [(8,e32 b.toList)] rfl rfl ⟨(lenV (f:=v32) b),trivial⟩) (fun b2=>?_)
 refine TLe (E_al32 8 TryI.inf31 TryI.zer31) (fun b3=>?_)
 refine TL_nil (TX_next (TC_seq (TC_region (TLv (V_assign rfl) ?_))))
 refine TL_nil (TX_next (TC_seq (TC_seq (TC_region (TLv (V_assign rfl) ?_)))))
 refine TL_nil (TX_next (TC_block ?_))
 obtain ⟨t_1,Hl,H⟩:=bind_elim H
 refine TC.sub (m':=[(2,ptr (some (b1,0)) 0),(3,ptr (some (b2,0)) 0),(4,ptr (some (b3,0)) 0),(5,v64 0#64),(6,vi 0)]) ⟨rfl,rfl,rfl,rfl,rfl,trivial⟩ ?_
 refine TC.pull (is:=[2,1,0]) (L':=[⟨some (b1,0),e32 a_.toList⟩,⟨some (b2,0),e32 b.toList⟩,⟨some (b3,0),e32 ((replicate 8 0#32).toList)⟩]) rfl ?_
 refine TC_loopL (id:=0) (body:=(halberdref9_minus.b0 b)) (σ:=BitVec 64 × Int × Vx 32 8) (Γ:=Unit) (Γx:=Unit) (fun s0 g0_=>[(2,ptr (some (b1,0)) 0),(3,ptr (some (b2,0)) 0),(4,ptr (some (b3,0)) 0),(5,v64 s0.1),(6,vi s0.2.1)]) (fun s0 g0_=>[⟨some (b1,0),e32 s0.2.2.toList⟩,⟨some (b2,0),e32 b.toList⟩,⟨some (b3,0),e32 ((replicate 8 0#32).toList)⟩]) (fun t g=>[(2,ptr (some (b1,0)) 0),(4,ptr (some (b3,0)) 0)]) (fun t g=>[⟨some (b1,0),e32 t.toList⟩,⟨some (b3,0),e32 ((replicate 8 0#32).toList)⟩]) ?_ BIG (0#64,0,a_) () t_1 Hl ?_
 ·intro s0 g0_ r1 H K hK hE
  unfold halberdref9_minus.b0 at H
  refine TC_seq (TC_seq (TC_region (TLv (V_move rfl) ?_)))
  refine TLv (V_bin rfl rfl (fun w=>lssI w s0.2.1 8)) ?_
  refine TL_nil (TX_next (TC_cond (b:=(decide (s0.2.1<8))) rfl (fun hc=>?_) (fun hc=>?_)))
  ·replace H:=ite_t (of_decide_eq_true hc) H
   refine TC_skip (TX_next (TC_seq (TC_block (TC_seq ?_))))
   obtain ⟨h1,H⟩:=if_elim H
   obtain ⟨h2,H⟩:=if_elim H
   obtain ⟨d1,hd1,H⟩:=ltt_elim H
   refine TA_begin [] 12 (by kernel_rfl) (N:=12) rfl ?_
   refine TA_mix (is:=[]) (done':=dn 12 2047) [itV 0 12 (vi s0.2.1) [],itV 1 13 (ptr (some (b1,0)) ((s0.2.1).toNat)) [0],itV 2 14 (v32 (vg s0.2.2 ((s0.2.1).toNat))) [1],itV 3 15 (v64 ((vg s0.2.2 ((s0.2.1).toNat)).setWidth 64)) [2],itV 4 16 (vi s0.2.1) [],itV 5 17 (ptr (some (b2,0)) ((s0.2.1).toNat)) [4],itV 6 18 (v32 (vg b ((s0.2.1).toNat))) [5],itV 7 19 (v64 ((vg b ((s0.2.1).toNat)).setWidth 64)) [6],itV 8 20 (v64 (((vg s0.2.2 ((s0.2.1).toNat)).setWidth 64) - ((vg b ((s0.2.1).toNat)).setWidth 64))) [7,3],itV 9 21 (v64 s0.1) [],itV 10 22 (v64 ((((vg s0.2.2 ((s0.2.1).toNat)).setWidth 64) - ((vg b ((s0.2.1).toNat)).setWidth 64)) - s0.1)) [8,9]] [] 1 (by kernel_rfl) (QP.then (QP.block (QP.then (QP.then (QP.block (QP.then QP.body)))))) (by kernel_rfl) rfl (.v rfl (V_move rfl) (.v rfl (V_idxArr (i:=s0.2.1) rfl rfl Try.underlying31 TryI.inf29 rfl h1.1 h1.2 (k:=(s0.2.1).toNat) (k01 _)) (.v rfl (V_load rfl (.o 0) (get_vec (f:=v32) (V:=s0.2.2) (toNat_lt h1.1 h1.2)) Try.isAgg29) (.v rfl (V_conv rfl (fun w=>cv32to64 w _ _ Try.underlying55 (TryI.und29) (vg s0.2.2 ((s0.2.1).toNat)))) (.v rfl (V_move rfl) (.v rfl (V_idxArr (i:=s0.2.1) rfl rfl Try.underlying31 TryI.inf29 rfl h2.1 h2.2 (k:=(s0.2.1).toNat) (k01 _)) (.v rfl (V_load rfl (.o 1) (get_vec (f:=v32) (V:=b) (toNat_lt h2.1 h2.2)) Try.isAgg29) (.v rfl (V_conv rfl (fun w=>cv32to64 w _ _ Try.underlying55 (TryI.und29) (vg b ((s0.2.1).toNat)))) (.v rfl (V_bin rfl rfl (fun w=>sub64 w ((vg s0.2.2 ((s0.2.1).toNat)).setWidth 64) ((vg b ((s0.2.1).toNat)).setWidth 64))) (.v rfl (V_move rfl) (.v rfl (V_bin rfl rfl (fun w=>sub64 w (((vg s0.2.2 ((s0.2.1).toNat)).setWidth 64) - ((vg b ((s0.2.1).toNat)).setWidth 64)) s0.1)) .nil))))))))))) .nil (by kernel_rfl) rfl (fun γ=>?_)
   refine TA_cut [(22,v64 ((((vg s0.2.2 ((s0.2.1).toNat)).setWidth 64) - ((vg b ((s0.2.1).toNat)).setWidth 64)) - s0.1)),(2,ptr (some (b1,0)) 0),(3,ptr (some (b2,0)) 0),(4,ptr (some (b3,0)) 0),(6,vi s0.2.1)] [⟨some (b1,0),e32 s0.2.2.toList⟩,⟨some (b2,0),e32 b.toList⟩,⟨some (b3,0),e32 ((replicate 8 0#32).toList)⟩] ⟨rfl,rfl,rfl,rfl,rfl,trivial⟩ rfl ?_
   refine TA_all (rs:=[11]) (by kernel_rfl) rfl ?_
   refine ⟨?_,trivial⟩
   refine TO_v (is:=[]) (done':=dn 12 4095) rfl rfl rfl rfl (by kernel_rfl) (V_assign rfl) (fun _=>rfl) ?_
   refine TA_re (d:=7) (v:=v64 ((((vg s0.2.2 ((s0.2.1).toNat)).setWidth 64) - ((vg b ((s0.2.1).toNat)).setWidth 64)) - s0.1)) (v':=v64 d1) rfl (congrArg v64 hd1) ?_
   refine TA_done (by kernel_rfl) ?_ 0
   refine TX_next (TC_seq (TC_region (TLv (V_move rfl) ?_)))
   refine TLv (V_move rfl) ?_
   refine TLv (V_bin rfl rfl (fun w=>and64 w d1 4294967295#64)) ?_
   refine TLv (V_conv rfl (fun w=>cv64to32 w _ _ Try.underlying29 (TryI.und55) (d1 &&& 4294967295#64))) ?_
   obtain ⟨h3,H⟩:=if_elim H
   refine TLv (V_idxArr (i:=s0.2.1) rfl rfl Try.underlying31 TryI.inf29 rfl h3.1 h3.2 (k:=(s0.2.1).toNat) (k01 _)) ?_
   refine TLn (E_store (j:=0) rfl rfl TryI.inf29 rfl rfl rfl (by simpa using (toNat_lt h3.1 h3.2)) (cs':=e32 ((vp s0.2.2 ((s0.2.1).toNat) ((d1 &&& 4294967295#64).setWidth 32)).toList)) set_vec) (fun _=>?_)
   obtain ⟨m_1,hm_1,H⟩:=ltt_elim H
   refine TL_reE (j:=0) (A:=some (b1,0)) (cs:=e32 ((vp s0.2.2 ((s0.2.1).toNat) ((d1 &&& 4294967295#64).setWidth 32)).toList)) (cs':=e32 m_1.toList) rfl (congrArg (fun z:Vx 32 8=>e32 (Vector.toList z)) hm_1) ?_
   refine TL_nil (TX_next (TC_region (TLv (V_move rfl) ?_)))
   refine TLv (V_bin rfl rfl (fun w=>shr64 w d1 .u64 63 (by decide))) ?_
   refine TLv (V_assign rfl) ?_
   refine TL_nil (TX_block_normal (TX_next (TC_region (TLv (V_move rfl) ?_))))
   refine TLv (V_bin rfl rfl (fun w=>addI w s0.2.1 1)) ?_
   refine TLv (V_assign rfl) ?_
   obtain ⟨i1,hi1,H⟩:=ltt_elim H
   refine TL_re (d:=6) (v:=vi (w64 (s0.2.1+1))) (v':=vi i1) rfl (congrArg vi hi1) ?_
   refine TL_nil (TX.sub (m':=[(2,ptr (some (b1,0)) 0),(3,ptr (some (b2,0)) 0),(4,ptr (some (b3,0)) 0),(5,v64 (d1 >>> 63)),(6,vi i1)]) ⟨rfl,rfl,rfl,rfl,rfl,trivial⟩ ?_)
   refine TX.pull (is:=[0,0,0]) (L':=[⟨some (b1,0),e32 m_1.toList⟩,⟨some (b2,0),e32 b.toList⟩,⟨some (b3,0),e32 ((replicate 8 0#32).toList)⟩]) rfl ?_
   obtain rfl:=Option.some.inj H
   exact fun a w hs=>hK (d1 >>> 63,i1,m_1) rfl () a w hs
  ·replace H:=ite_f (of_decide_eq_false hc) H
   refine TC_exit (TX_then_exit (TX_then_exit (TX.sub (m':=[(2,ptr (some (b1,0)) 0),(4,ptr (some (b3,0)) 0)]) ⟨rfl,rfl,trivial⟩ ?_)))
   refine TX.pull (is:=[0,1]) (L':=[⟨some (b1,0),e32 s0.2.2.toList⟩,⟨some (b3,0),e32 ((replicate 8 0#32).toList)⟩]) rfl ?_
   obtain rfl:=Option.some.inj H
   exact hE s0.2.2 rfl ()
 ·intro g
  refine TX_block_exit (TX_next (TC_seq (TC_region (TLv (V_lag (.o 0) Try.isAgg31 TryI.inf31) ?_))))
  refine TLn (E_sv (vs:=e32 t_1.toList) 1 TryI.inf31) (fun _=>?_)
  refine TL_nil (TX_next (TC_ret ?_))
  have hrv:=Option.some.inj H
  subst hrv
  exact TX_ret (rs:=[.cell 4 31]) (vs:=[aG [(8,e32 t_1.toList)]]) rfl ⟨(Res_agg (n:=8) rfl (by simp) (.o 1) Try.isAgg31 TryI.inf31 rfl (lenV (f:=v32) t_1)),trivial⟩ (fun w' hs'=>⟨(),rfl,Step.left (Step.pulled (is:=[]) (A:=[]) hs' rfl)⟩)
end Go.Proofs
end

section
namespace Go.Proofs
open Go Go.Kx
def halberdref9_less.b0 (a_:Vx 32 8) (b:Vx 32 8) (s0:Int):Option ((Int) ⊕ ((Unit) ⊕ (Bool))) :=
 if 0≤s0 then (if 0≤s0∧s0<(8:Int) then (if 0≤s0∧s0<(8:Int) then (if (vg a_ ((s0).toNat)) ≠ (vg b ((s0).toNat)) then (if 0≤s0∧s0<(8:Int) then (if 0≤s0∧s0<(8:Int) then (ltt (decide (((vg a_ ((s0).toNat))).toNat<((vg b ((s0).toNat))).toNat)) fun (x1:Bool)=>(some (.inr (.inr x1)))) else none) else none) else (some (.inl (w64 (s0 - 1))))) else none) else none) else (some (.inr (.inl ())))
def halberdref9_less (a_:Vx 32 8) (b:Vx 32 8):Option (Bool) :=
 (loop (halberdref9_less.b0 a_ b) BIG 7).bind fun (t_1:(Unit) ⊕ (Bool))=>(match t_1 with | .inl t_1=>(some false) | .inr rv=>some rv)
set_option maxHeartbeats 4000000 in
set_option maxRecDepth 20000 in
theorem F78_calls (a_:Vx 32 8) (b:Vx 32 8) (r:Bool) (H:halberdref9_less a_ b=some r) :
  Does Try.prog 78 [aG [(8,e32 a_.toList)],aG [(8,e32 b.toList)]] [] [] (Γ:=Unit) (fun g=>vb r) (fun g=>[]):=by
 intro w hmem hro hd
 refine calls_of (N:=24) (m0:=[(0,aG [(8,e32 a_.toList)]),(1,aG [(8,e32 b.toList)])]) Try.func78 rfl Try.ntmps78 (argM_ok [aG [(8,e32 a_.toList)],aG [(8,e32 b.toList)]]) rfl hmem hro hd ?_
 unfold halberdref9_less at H
 refine TC_seq (TC_region (TLe (E_boxP [(8,e32 a_.toList)] rfl rfl ⟨(lenV (f:=v32) a_),trivial⟩) (fun b1=>?_)))
 refine TLe (E_boxP [(8,e32 b.toList)] rfl rfl ⟨(lenV (f:=v32) b),trivial⟩) (fun b2=>?_)
 refine TLv (V_assign rfl) ?_
 refine TL_nil (TX_next (TC_seq (TC_seq (TC_region (TLv (V_assign rfl) ?_)))))
 refine TL_nil (TX_next (TC_block ?_))
 obtain ⟨t_1,Hl,H⟩:=bind_elim H
 refine TC.sub (m':=[(2,ptr (some (b1,0)) 0),(3,ptr (some (b2,0)) 0),(5,vi 7)]) ⟨rfl,rfl,rfl,trivial⟩ ?_
 refine TC.pull (is:=[1,0]) (L':=[⟨some (b1,0),e32 a_.toList⟩,⟨some (b2,0),e32 b.toList⟩]) rfl ?_
 refine TC_loopR (id:=0) (body:=(halberdref9_less.b0 a_ b)) (σ:=Int) (Γ:=Unit) (Γx:=Unit) (fun s0 g0_=>[(2,ptr (some (b1,0)) 0),(3,ptr (some (b2,0)) 0),(5,vi s0)]) (fun s0 g0_=>[⟨some (b1,0),e32 a_.toList⟩,⟨some (b2,0),e32 b.toList⟩]) (fun t g=>[]) (fun t g=>[]) r ?_ BIG 7 () t_1 Hl ?_
 ·intro s0 g0_ r1 H K hK hE hR1
  unfold halberdref9_less.b0 at H
  refine TC_seq (TC_seq (TC_region (TLv (V_move rfl) ?_)))
  refine TLv (V_bin rfl rfl (fun w=>geqI w s0 0)) ?_
  refine TL_nil (TX_next (TC_cond (b:=(decide (0≤s0))) rfl (fun hc=>?_) (fun hc=>?_)))
  ·replace H:=ite_t (of_decide_eq_true hc) H
   refine TC_skip (TX_next (TC_seq (TC_block (TC_seq ?_))))
   obtain ⟨h1,H⟩:=if_elim H
   obtain ⟨h2,H⟩:=if_elim H
   refine TA_begin [] 7 (by kernel_rfl) (N:=7) rfl ?_
   refine TA_mix (is:=[]) (done':=dn 7 127) [itV 0 10 (vi s0) [],itV 1 11 (ptr (some (b1,0)) ((s0).toNat)) [0],itV 2 12 (v32 (vg a_ ((s0).toNat))) [1],itV 3 13 (vi s0) [],itV 4 14 (ptr (some (b2,0)) ((s0).toNat)) [3],itV 5 15 (v32 (vg b ((s0).toNat))) [4],itV 6 16 (vb (decide ((vg a_ ((s0).toNat)) ≠ (vg b ((s0).toNat))))) [2,5]] [] 0 (by kernel_rfl) (QP.then (QP.block (QP.then (QP.then (QP.block (QP.then QP.body)))))) (by kernel_rfl) rfl (.v rfl (V_move rfl) (.v rfl (V_idxArr (i:=s0) rfl rfl Try.underlying31 TryI.inf29 rfl h1.1 h1.2 (k:=(s0).toNat) (k01 _)) (.v rfl (V_load rfl (.o 0) (get_vec (f:=v32) (V:=a_) (toNat_lt h1.1 h1.2)) Try.isAgg29) (.v rfl (V_move rfl) (.v rfl (V_idxArr (i:=s0) rfl rfl Try.underlying31 TryI.inf29 rfl h2.1 h2.2 (k:=(s0).toNat) (k01 _)) (.v rfl (V_load rfl (.o 1) (get_vec (f:=v32) (V:=b) (toNat_lt h2.1 h2.2)) Try.isAgg29) (.v rfl (V_bin rfl rfl (fun w=>neq32 w (vg a_ ((s0).toNat)) (vg b ((s0).toNat)))) .nil))))))) .nil (by kernel_rfl) rfl (fun γ=>?_)
   refine TA_cut [(16,vb (decide ((vg a_ ((s0).toNat)) ≠ (vg b ((s0).toNat))))),(2,ptr (some (b1,0)) 0),(3,ptr (some (b2,0)) 0),(5,vi s0)] [⟨some (b1,0),e32 a_.toList⟩,⟨some (b2,0),e32 b.toList⟩] ⟨rfl,rfl,rfl,rfl,trivial⟩ rfl ?_
   refine TA_done (by kernel_rfl) ?_ 0
   refine TX_next (TC_cond (b:=(decide ((vg a_ ((s0).toNat)) ≠ (vg b ((s0).toNat))))) rfl (fun hc=>?_) (fun hc=>?_))
   ·replace H:=ite_t (of_decide_eq_true hc) H
    refine TC_seq ?_
    obtain ⟨h3,H⟩:=if_elim H
    obtain ⟨h4,H⟩:=if_elim H
    obtain ⟨x1,hx1,H⟩:=ltt_elim H
    refine TA_begin [] 8 (by kernel_rfl) (N:=8) rfl ?_
    refine TA_mix (is:=[]) (done':=dn 8 127) [itV 0 17 (vi s0) [],itV 1 18 (ptr (some (b1,0)) ((s0).toNat)) [0],itV 2 19 (v32 (vg a_ ((s0).toNat))) [1],itV 3 20 (vi s0) [],itV 4 21 (ptr (some (b2,0)) ((s0).toNat)) [3],itV 5 22 (v32 (vg b ((s0).toNat))) [4],itV 6 23 (vb (decide (((vg a_ ((s0).toNat))).toNat<((vg b ((s0).toNat))).toNat))) [2,5]] [] 1 (by kernel_rfl) (QP.then (QP.block (QP.then (QP.then (QP.block (QP.then QP.body)))))) (by kernel_rfl) rfl (.v rfl (V_move rfl) (.v rfl (V_idxArr (i:=s0) rfl rfl Try.underlying31 TryI.inf29 rfl h3.1 h3.2 (k:=(s0).toNat) (k01 _)) (.v rfl (V_load rfl (.o 0) (get_vec (f:=v32) (V:=a_) (toNat_lt h3.1 h3.2)) Try.isAgg29) (.v rfl (V_move rfl) (.v rfl (V_idxArr (i:=s0) rfl rfl Try.underlying31 TryI.inf29 rfl h4.1 h4.2 (k:=(s0).toNat) (k01 _)) (.v rfl (V_load rfl (.o 1) (get_vec (f:=v32) (V:=b) (toNat_lt h4.1 h4.2)) Try.isAgg29) (.v rfl (V_bin rfl rfl (fun w=>lss32 w (vg a_ ((s0).toNat)) (vg b ((s0).toNat)))) .nil))))))) .nil (by kernel_rfl) rfl (fun γ=>?_)
    refine TA_cut [(23,vb (decide (((vg a_ ((s0).toNat))).toNat<((vg b ((s0).toNat))).toNat)))] [⟨some (b1,0),e32 a_.toList⟩,⟨some (b2,0),e32 b.toList⟩] ⟨rfl,trivial⟩ rfl ?_
    refine TA_all (rs:=[7]) (by kernel_rfl) rfl ?_
    refine ⟨?_,trivial⟩
    refine TO_v (is:=[]) (done':=dn 8 255) rfl rfl rfl rfl (by kernel_rfl) (V_assign rfl) (fun _=>rfl) ?_
    refine TA_re (d:=4) (v:=vb (decide (((vg a_ ((s0).toNat))).toNat<((vg b ((s0).toNat))).toNat))) (v':=vb x1) rfl (congrArg vb hx1) ?_
    refine TA_done (by kernel_rfl) ?_ 0
    refine TX_next (TC_ret (TX_block_ret (TX_then_ret (TX_then_ret (TX_block_ret (TX_then_ret ?_))))))
    have hrv:=(hR1 _ (Option.some.inj H).symm)
    subst hrv
    exact TX_ret (rs:=[.tmp 4]) (vs:=[vb x1]) rfl ⟨rfl,trivial⟩ (fun w' hs'=>⟨(),rfl,Step.left (Step.pulled (is:=[]) (A:=[]) hs' rfl)⟩)
   ·replace H:=ite_f (of_decide_eq_false hc) H
    refine TC_skip (TX_block_normal (TX_next (TC_region (TLv (V_move rfl) ?_))))
    refine TLv (V_bin rfl rfl (fun w=>subI w s0 1)) ?_
    refine TLv (V_assign rfl) ?_
    refine TL_nil (TX.sub (m':=[(2,ptr (some (b1,0)) 0),(3,ptr (some (b2,0)) 0),(5,vi (w64 (s0 - 1)))]) ⟨rfl,rfl,rfl,trivial⟩ ?_)
    refine TX.pull (is:=[0,0]) (L':=[⟨some (b1,0),e32 a_.toList⟩,⟨some (b2,0),e32 b.toList⟩]) rfl ?_
    obtain rfl:=Option.some.inj H
    exact fun a w hs=>hK (w64 (s0 - 1)) rfl () a w hs
  ·replace H:=ite_f (of_decide_eq_false hc) H
   refine TC_exit (TX_then_exit (TX_then_exit (TX.sub (m':=[]) trivial ?_)))
   refine TX.pull (is:=[]) (L':=[]) rfl ?_
   obtain rfl:=Option.some.inj H
   exact hE () rfl ()
 ·rcases t_1 with t_1 | rv
  ·intro gx1
   dsimp only at H
   refine TX_block_exit (TX_next (TC_seq (TC_region (TLv (V_assign rfl) ?_))))
   refine TL_nil (TX_next (TC_ret ?_))
   have hrv:=Option.some.inj H
   subst hrv
   exact TX_ret (rs:=[.tmp 4]) (vs:=[vb false]) rfl ⟨rfl,trivial⟩ (fun w' hs'=>⟨(),rfl,Step.left (Step.pulled (is:=[]) (A:=[]) hs' rfl)⟩)
  ·exact (Option.some.inj H)
end Go.Proofs
end

section
namespace Go.Proofs
open Go Go.Kx
def halberdref9_modulus (which:Int):Option (Vx 32 8) :=
 ltt (decide (which=0)) fun (x1:Bool)=>(if x1=true then (ltt ((#v[4294967295#32,4294967295#32,4294967295#32,0#32,0#32,0#32,1#32,4294967295#32]:Vx 32 8)) fun (m_1:Vx 32 8)=>(some m_1)) else (ltt (decide (which=1)) fun (x2:Bool)=>(if x2=true then (ltt ((#v[4234356049#32,4089039554#32,2803342980#32,3169254061#32,4294967295#32,4294967295#32,0#32,4294967295#32]:Vx 32 8)) fun (m_2:Vx 32 8)=>(some m_2)) else (ltt ((#v[4294967277#32,4294967295#32,4294967295#32,4294967295#32,4294967295#32,4294967295#32,4294967295#32,2147483647#32]:Vx 32 8)) fun (m_3:Vx 32 8)=>(some m_3)))))
set_option maxHeartbeats 4000000 in
set_option maxRecDepth 20000 in
theorem F79_calls (which:Int) (r:Vx 32 8) (H:halberdref9_modulus which=some r) :
  Does Try.prog 79 [vi which] [] [] (Γ:=Unit) (fun g=>aG [(8,e32 r.toList)]) (fun g=>[]):=by
 intro w hmem hro hd
 refine calls_of (N:=11) (m0:=[(0,vi which)]) Try.func79 rfl Try.ntmps79 (argM_ok [vi which]) rfl hmem hro hd ?_
 unfold halberdref9_modulus at H
 refine TC_seq (TC_region (TLe (E_al32 8 TryI.inf31 TryI.zer31) (fun b1=>?_)))
 refine TL_nil (TX_next (TC_seq (TC_seq (TC_region (TLv (V_move rfl) ?_)))))
 refine TL_nil (TX_next (TC_block (TC_seq (TC_region (TLv (V_bin rfl rfl (fun w=>eqlI w which 0)) ?_)))))
 refine TLv (V_assign rfl) ?_
 obtain ⟨x1,hx1,H⟩:=ltt_elim H
 refine TL_re (d:=4) (v:=vb (decide (which=0))) (v':=vb x1) rfl (congrArg vb hx1) ?_
 refine TL_nil (TX_next (TC_cond (b:=x1) rfl (fun hc=>?_) (fun hc=>?_)))
 ·replace H:=ite_t hc H
  refine TC_seq (TC_region (TLv (V_buildArr (pv:=[(0,v32 4294967295#32),(1,v32 4294967295#32),(2,v32 4294967295#32),(3,v32 0#32),(4,v32 0#32),(5,v32 0#32),(6,v32 1#32),(7,v32 4294967295#32)]) rfl rfl Try.underlying31 TryI.inf31 TryI.inf29 rfl TryI.zer31 (cs:=e32 ((#v[4294967295#32,4294967295#32,4294967295#32,0#32,0#32,0#32,1#32,4294967295#32]:Vx 32 8).toList)) (by kernel_rfl)) ?_))
  refine TLn (E_sv 0 TryI.inf31) (fun _=>?_)
  obtain ⟨m_1,hm_1,H⟩:=ltt_elim H
  refine TL_reE (j:=0) (A:=some (b1,0)) (cs:=e32 ((#v[4294967295#32,4294967295#32,4294967295#32,0#32,0#32,0#32,1#32,4294967295#32]:Vx 32 8).toList)) (cs':=e32 m_1.toList) rfl (congrArg (fun z:Vx 32 8=>e32 (Vector.toList z)) hm_1) ?_
  refine TL_nil (TX_next (TC_ret (TX_block_ret (TX_then_ret ?_))))
  have hrv:=Option.some.inj H
  subst hrv
  exact TX_ret (rs:=[.cell 2 31]) (vs:=[aG [(8,e32 m_1.toList)]]) rfl ⟨(Res_agg (n:=8) rfl (by simp) (.o 0) Try.isAgg31 TryI.inf31 rfl (lenV (f:=v32) m_1)),trivial⟩ (fun w' hs'=>⟨(),rfl,Step.left (Step.pulled (is:=[]) (A:=[]) hs' rfl)⟩)
 ·replace H:=ite_f (Bool.eq_false_iff.1 hc) H
  refine TC_seq (TC_region (TLv (V_bin rfl rfl (fun w=>eqlI w which 1)) ?_))
  refine TLv (V_assign rfl) ?_
  obtain ⟨x2,hx2,H⟩:=ltt_elim H
  refine TL_re (d:=7) (v:=vb (decide (which=1))) (v':=vb x2) rfl (congrArg vb hx2) ?_
  refine TL_nil (TX_next (TC_cond (b:=x2) rfl (fun hc=>?_) (fun hc=>?_)))
  ·replace H:=ite_t hc H
   refine TC_seq (TC_region (TLv (V_buildArr (pv:=[(0,v32 4234356049#32),(1,v32 4089039554#32),(2,v32 2803342980#32),(3,v32 3169254061#32),(4,v32 4294967295#32),(5,v32 4294967295#32),(6,v32 0#32),(7,v32 4294967295#32)]) rfl rfl Try.underlying31 TryI.inf31 TryI.inf29 rfl TryI.zer31 (cs:=e32 ((#v[4234356049#32,4089039554#32,2803342980#32,3169254061#32,4294967295#32,4294967295#32,0#32,4294967295#32]:Vx 32 8).toList)) (by kernel_rfl)) ?_))
   refine TLn (E_sv 0 TryI.inf31) (fun _=>?_)
   obtain ⟨m_2,hm_2,H⟩:=ltt_elim H
   refine TL_reE (j:=0) (A:=some (b1,0)) (cs:=e32 ((#v[4234356049#32,4089039554#32,2803342980#32,3169254061#32,4294967295#32,4294967295#32,0#32,4294967295#32]:Vx 32 8).toList)) (cs':=e32 m_2.toList) rfl (congrArg (fun z:Vx 32 8=>e32 (Vector.toList z)) hm_2) ?_
   refine TL_nil (TX_next (TC_ret (TX_block_ret (TX_then_ret ?_))))
   have hrv:=Option.some.inj H
   subst hrv
   exact TX_ret (rs:=[.cell 2 31]) (vs:=[aG [(8,e32 m_2.toList)]]) rfl ⟨(Res_agg (n:=8) rfl (by simp) (.o 0) Try.isAgg31 TryI.inf31 rfl (lenV (f:=v32) m_2)),trivial⟩ (fun w' hs'=>⟨(),rfl,Step.left (Step.pulled (is:=[]) (A:=[]) hs' rfl)⟩)
  ·replace H:=ite_f (Bool.eq_false_iff.1 hc) H
   refine TC_skip (TX_block_normal (TX_next (TC_seq (TC_region (TLv (V_buildArr (pv:=[(0,v32 4294967277#32),(1,v32 4294967295#32),(2,v32 4294967295#32),(3,v32 4294967295#32),(4,v32 4294967295#32),(5,v32 4294967295#32),(6,v32 4294967295#32),(7,v32 2147483647#32)]) rfl rfl Try.underlying31 TryI.inf31 TryI.inf29 rfl TryI.zer31 (cs:=e32 ((#v[4294967277#32,4294967295#32,4294967295#32,4294967295#32,4294967295#32,4294967295#32,4294967295#32,2147483647#32]:Vx 32 8).toList)) (by kernel_rfl)) ?_)))))
   refine TLn (E_sv 0 TryI.inf31) (fun _=>?_)
   obtain ⟨m_3,hm_3,H⟩:=ltt_elim H
   refine TL_reE (j:=0) (A:=some (b1,0)) (cs:=e32 ((#v[4294967277#32,4294967295#32,4294967295#32,4294967295#32,4294967295#32,4294967295#32,4294967295#32,2147483647#32]:Vx 32 8).toList)) (cs':=e32 m_3.toList) rfl (congrArg (fun z:Vx 32 8=>e32 (Vector.toList z)) hm_3) ?_
   refine TL_nil (TX_next (TC_ret ?_))
   have hrv:=Option.some.inj H
   subst hrv
   exact TX_ret (rs:=[.cell 2 31]) (vs:=[aG [(8,e32 m_3.toList)]]) rfl ⟨(Res_agg (n:=8) rfl (by simp) (.o 0) Try.isAgg31 TryI.inf31 rfl (lenV (f:=v32) m_3)),trivial⟩ (fun w' hs'=>⟨(),rfl,Step.left (Step.pulled (is:=[]) (A:=[]) hs' rfl)⟩)
end Go.Proofs
end

section
namespace Go.Proofs
open Go Go.Kx
def halberdref9_inverse (which:Int):Option (BitVec 64) :=
 ltt (decide (which=0)) fun (x1:Bool)=>(if x1=true then (some 1#64) else (ltt (decide (which=1)) fun (x2:Bool)=>(if x2=true then (some 3993025615#64) else (some 678152731#64))))
set_option maxHeartbeats 4000000 in
set_option maxRecDepth 20000 in
theorem F81_calls (which:Int) (r:BitVec 64) (H:halberdref9_inverse which=some r) :
  Does Try.prog 81 [vi which] [] [] (Γ:=Unit) (fun g=>v64 r) (fun g=>[]):=by
 intro w hmem hro hd
 refine calls_of (N:=8) (m0:=[(0,vi which)]) Try.func81 rfl Try.ntmps81 (argM_ok [vi which]) rfl hmem hro hd ?_
 unfold halberdref9_inverse at H
 refine TC_seq (TC_region (TLv (V_assign rfl) ?_))
 refine TL_nil (TX_next (TC_seq (TC_seq (TC_region (TLv (V_move rfl) ?_)))))
 refine TL_nil (TX_next (TC_block (TC_seq (TC_region (TLv (V_bin rfl rfl (fun w=>eqlI w which 0)) ?_)))))
 refine TLv (V_assign rfl) ?_
 obtain ⟨x1,hx1,H⟩:=ltt_elim H
 refine TL_re (d:=4) (v:=vb (decide (which=0))) (v':=vb x1) rfl (congrArg vb hx1) ?_
 refine TL_nil (TX_next (TC_cond (b:=x1) rfl (fun hc=>?_) (fun hc=>?_)))
 ·replace H:=ite_t hc H
  refine TC_seq (TC_region (TLv (V_assign rfl) ?_))
  refine TL_nil (TX_next (TC_ret (TX_block_ret (TX_then_ret ?_))))
  have hrv:=Option.some.inj H
  subst hrv
  exact TX_ret (rs:=[.tmp 2]) (vs:=[v64 1#64]) rfl ⟨rfl,trivial⟩ (fun w' hs'=>⟨(),rfl,Step.left (Step.pulled (is:=[]) (A:=[]) hs' rfl)⟩)
 ·replace H:=ite_f (Bool.eq_false_iff.1 hc) H
  refine TC_seq (TC_region (TLv (V_bin rfl rfl (fun w=>eqlI w which 1)) ?_))
  refine TLv (V_assign rfl) ?_
  obtain ⟨x2,hx2,H⟩:=ltt_elim H
  refine TL_re (d:=6) (v:=vb (decide (which=1))) (v':=vb x2) rfl (congrArg vb hx2) ?_
  refine TL_nil (TX_next (TC_cond (b:=x2) rfl (fun hc=>?_) (fun hc=>?_)))
  ·replace H:=ite_t hc H
   refine TC_seq (TC_region (TLv (V_assign rfl) ?_))
   refine TL_nil (TX_next (TC_ret (TX_block_ret (TX_then_ret ?_))))
   have hrv:=Option.some.inj H
   subst hrv
   exact TX_ret (rs:=[.tmp 2]) (vs:=[v64 3993025615#64]) rfl ⟨rfl,trivial⟩ (fun w' hs'=>⟨(),rfl,Step.left (Step.pulled (is:=[]) (A:=[]) hs' rfl)⟩)
  ·replace H:=ite_f (Bool.eq_false_iff.1 hc) H
   refine TC_skip (TX_block_normal (TX_next (TC_seq (TC_region (TLv (V_assign rfl) ?_)))))
   refine TL_nil (TX_next (TC_ret ?_))
   have hrv:=Option.some.inj H
   subst hrv
   exact TX_ret (rs:=[.tmp 2]) (vs:=[v64 678152731#64]) rfl ⟨rfl,trivial⟩ (fun w' hs'=>⟨(),rfl,Step.left (Step.pulled (is:=[]) (A:=[]) hs' rfl)⟩)
end Go.Proofs
end

section
namespace Go.Proofs
open Go Go.Kx
open Vector (replicate)
def halberdref9_mont.b1 (a_:Vx 32 8) (b:Vx 32 8) (s0:Int × Vx 64 10) (s1:BitVec 64 × Int × Vx 64 10):Option ((BitVec 64 × Int × Vx 64 10) ⊕ (BitVec 64 × Vx 64 10)) :=
 if s1.2.1<8 then (if 0≤s1.2.1∧s1.2.1<(10:Int) then (if 0≤s1.2.1∧s1.2.1<(8:Int) then (if 0≤s0.1∧s0.1<(8:Int) then (ltt (((vg s1.2.2 ((s1.2.1).toNat))+(((vg a_ ((s1.2.1).toNat)).setWidth 64) * ((vg b ((s0.1).toNat)).setWidth 64)))+s1.1) fun (s_1:BitVec 64)=>(if 0≤s1.2.1∧s1.2.1<(10:Int) then (ltt (vp s1.2.2 ((s1.2.1).toNat) (s_1 &&& 4294967295#64)) fun (m_1:Vx 64 10)=>(ltt (w64 (s1.2.1+1)) fun (j1:Int)=>(some (.inl (s_1 >>> 32,j1,m_1))))) else none)) else none) else none) else none) else (some (.inr (s1.1,s1.2.2)))
def halberdref9_mont.b2 (r_1:Vx 32 8) (q1:BitVec 64) (s2:BitVec 64 × Int × Vx 64 10):Option ((BitVec 64 × Int × Vx 64 10) ⊕ (BitVec 64 × Vx 64 10)) :=
 if s2.2.1<8 then (if 0≤s2.2.1∧s2.2.1<(10:Int) then (if 0≤s2.2.1∧s2.2.1<(8:Int) then (ltt (((vg s2.2.2 ((s2.2.1).toNat))+(q1 * ((vg r_1 ((s2.2.1).toNat)).setWidth 64)))+s2.1) fun (s_3:BitVec 64)=>(if 0≤w64 (s2.2.1 - 1)∧w64 (s2.2.1 - 1)<(10:Int) then (ltt (vp s2.2.2 ((w64 (s2.2.1 - 1)).toNat) (s_3 &&& 4294967295#64)) fun (m_3:Vx 64 10)=>(ltt (w64 (s2.2.1+1)) fun (j2:Int)=>(some (.inl (s_3 >>> 32,j2,m_3))))) else none)) else none) else none) else (some (.inr (s2.1,s2.2.2)))
def halberdref9_mont.b0 (a_:Vx 32 8) (b:Vx 32 8) (r_1:Vx 32 8) (r_2:BitVec 64) (s0:Int × Vx 64 10):Option ((Int × Vx 64 10) ⊕ (Vx 64 10)) :=
 if s0.1<8 then ((loop (halberdref9_mont.b1 a_ b s0) BIG (0#64,0,s0.2)).bind fun (t_2:BitVec 64 × Vx 64 10)=>(ltt ((vg t_2.2 8)+t_2.1) fun (s_2:BitVec 64)=>(ltt (vp t_2.2 8 (s_2 &&& 4294967295#64)) fun (m_2:Vx 64 10)=>(ltt (((vg (vp m_2 9 (s_2 >>> 32)) 0) * r_2) &&& 4294967295#64) fun (q1:BitVec 64)=>(ltt (((vg (vp m_2 9 (s_2 >>> 32)) 0)+(q1 * ((vg r_1 0).setWidth 64))) >>> 32) fun (c1:BitVec 64)=>((loop (halberdref9_mont.b2 r_1 q1) BIG (c1,1,vp m_2 9 (s_2 >>> 32))).bind fun (t_3:BitVec 64 × Vx 64 10)=>(ltt ((vg t_3.2 8)+t_3.1) fun (s_4:BitVec 64)=>(ltt (vp t_3.2 7 (s_4 &&& 4294967295#64)) fun (m_4:Vx 64 10)=>(ltt (vp m_4 8 ((vg m_4 9)+(s_4 >>> 32))) fun (m_5:Vx 64 10)=>(ltt (w64 (s0.1+1)) fun (i1:Int)=>(some (.inl (i1,vp m_5 9 0#64))))))))))))) else (some (.inr s0.2))
def halberdref9_mont.b3 (t_1:Vx 64 10) (s3:Int × Vx 32 8):Option ((Int × Vx 32 8) ⊕ (Vx 32 8)) :=
 if s3.1<8 then (if 0≤s3.1∧s3.1<(10:Int) then (if 0≤s3.1∧s3.1<(8:Int) then (ltt (vp s3.2 ((s3.1).toNat) ((vg t_1 ((s3.1).toNat)).setWidth 32)) fun (m_6:Vx 32 8)=>(ltt (w64 (s3.1+1)) fun (i2:Int)=>(some (.inl (i2,m_6))))) else none) else none) else (some (.inr s3.2))
def halberdref9_mont (which:Int) (a_:Vx 32 8) (b:Vx 32 8):Option (Vx 32 8) :=
 (halberdref9_modulus which).bind fun (r_1:Vx 32 8)=>((halberdref9_inverse which).bind fun (r_2:BitVec 64)=>((loop (halberdref9_mont.b0 a_ b r_1 r_2) BIG (0,replicate 10 0#64)).bind fun (t_1:Vx 64 10)=>((loop (halberdref9_mont.b3 t_1) BIG (0,replicate 8 0#32)).bind fun (t_4:Vx 32 8)=>((if (0#64).toNat<((vg t_1 8)).toNat then (some true) else ((halberdref9_less t_4 r_1).bind fun (r_4:Bool)=>(some (!r_4)))).bind fun (j3:Bool)=>(if j3=true then ((halberdref9_minus t_4 r_1).bind fun (r_3:Vx 32 8)=>(some r_3)) else (some t_4))))))
set_option maxHeartbeats 4000000 in
set_option maxRecDepth 20000 in
theorem F47_calls (which:Int) (a_:Vx 32 8) (b:Vx 32 8) (r:Vx 32 8) (H:halberdref9_mont which a_ b=some r) :
  Does Try.prog 47 [vi which,aG [(8,e32 a_.toList)],aG [(8,e32 b.toList)]] [] [] (Γ:=Unit) (fun g=>aG [(8,e32 r.toList)]) (fun g=>[]):=by
 intro w hmem hro hd
 refine calls_of (N:=137) (m0:=[(0,vi which),(1,aG [(8,e32 a_.toList)]),(2,aG [(8,e32 b.toList)])]) Try.func47 rfl Try.ntmps47 (argM_ok [vi which,aG [(8,e32 a_.toList)],aG [(8,e32 b.toList)]]) rfl hmem hro hd ?_
 unfold halberdref9_mont at H
 refine TC_seq (TC_region (TLe (E_boxP [(8,e32 a_.toList)] rfl rfl ⟨(lenV (f:=v32) a_),trivial⟩) (fun b1=>?_)))
 refine TLe (E_boxP [(8,e32 b.toList)] rfl rfl ⟨(lenV (f:=v32) b),trivial⟩) (fun b2=>?_)
 refine TLe (E_al32 8 TryI.inf31 TryI.zer31) (fun b3=>?_)
 refine TL_nil (TX_next (TC_seq (TC_region (TLv (V_move rfl) ?_))))
 obtain ⟨r_1,hr_1,H⟩:=bind_elim H
 refine TLe (E_c0 (F79_calls which r_1 hr_1) Try.call79 .z) (fun g_1=>?_)
 refine TLv (V_move rfl) ?_
 obtain ⟨r_2,hr_2,H⟩:=bind_elim H
 refine TLe (E_c0 (F81_calls which r_2 hr_2) Try.call81 .z) (fun g_2=>?_)
 refine TLe (E_al32 8 TryI.inf31 TryI.zer31) (fun b4=>?_)
 refine TLn (E_sv (vs:=e32 r_1.toList) 0 TryI.inf31) (fun _=>?_)
 refine TLv (V_assign rfl) ?_
 refine TL_nil (TX_next (TC_seq (TC_region (TLe (E_al64 10 TryI.inf107 TryI.zer107) (fun b5=>?_)))))
 refine TL_nil (TX_next (TC_seq (TC_seq (TC_region (TLv (V_assign rfl) ?_)))))
 refine TL_nil (TX_next (TC_block ?_))
 obtain ⟨t_1,Hl,H⟩:=bind_elim H
 refine TC.sub (m':=[(4,ptr (some (b1,0)) 0),(5,ptr (some (b2,0)) 0),(6,ptr (some (b3,0)) 0),(7,ptr (some (b4,0)) 0),(8,v64 r_2),(9,ptr (some (b5,0)) 0),(10,vi 0)]) ⟨rfl,rfl,rfl,rfl,rfl,rfl,rfl,trivial⟩ ?_
 refine TC.pull (is:=[4,3,2,1,0]) (L':=[⟨some (b1,0),e32 a_.toList⟩,⟨some (b2,0),e32 b.toList⟩,⟨some (b3,0),e32 ((replicate 8 0#32).toList)⟩,⟨some (b4,0),e32 r_1.toList⟩,⟨some (b5,0),e64 ((replicate 10 0#64).toList)⟩]) rfl ?_
 refine TC_loopL (id:=0) (body:=(halberdref9_mont.b0 a_ b r_1 r_2)) (σ:=Int × Vx 64 10) (Γ:=Unit) (Γx:=Unit) (fun s0 g0_=>[(4,ptr (some (b1,0)) 0),(5,ptr (some (b2,0)) 0),(6,ptr (some (b3,0)) 0),(7,ptr (some (b4,0)) 0),(8,v64 r_2),(9,ptr (some (b5,0)) 0),(10,vi s0.1)]) (fun s0 g0_=>[⟨some (b1,0),e32 a_.toList⟩,⟨some (b2,0),e32 b.toList⟩,⟨some (b3,0),e32 ((replicate 8 0#32).toList)⟩,⟨some (b4,0),e32 r_1.toList⟩,⟨some (b5,0),e64 s0.2.toList⟩]) (fun t g=>[(6,ptr (some (b3,0)) 0),(7,ptr (some (b4,0)) 0),(9,ptr (some (b5,0)) 0)]) (fun t g=>[⟨some (b3,0),e32 ((replicate 8 0#32).toList)⟩,⟨some (b4,0),e32 r_1.toList⟩,⟨some (b5,0),e64 t.toList⟩]) ?_ BIG (0,replicate 10 0#64) () t_1 Hl ?_
 ·intro s0 g0_ r1 H K hK hE
  unfold halberdref9_mont.b0 at H
  refine TC_seq (TC_seq (TC_region (TLv (V_move rfl) ?_)))
  refine TLv (V_bin rfl rfl (fun w=>lssI w s0.1 8)) ?_
  refine TL_nil (TX_next (TC_cond (b:=(decide (s0.1<8))) rfl (fun hc=>?_) (fun hc=>?_)))
  ·replace H:=ite_t (of_decide_eq_true hc) H
   refine TC_skip (TX_next (TC_seq (TC_block (TC_seq (TC_region (TLv (V_assign rfl) ?_))))))
   refine TL_nil (TX_next (TC_seq (TC_seq (TC_region (TLv (V_assign rfl) ?_)))))
   refine TL_nil (TX_next (TC_block ?_))
   obtain ⟨t_2,Hl,H⟩:=bind_elim H
   refine TC.sub (m':=[(4,ptr (some (b1,0)) 0),(5,ptr (some (b2,0)) 0),(6,ptr (some (b3,0)) 0),(7,ptr (some (b4,0)) 0),(8,v64 r_2),(9,ptr (some (b5,0)) 0),(10,vi s0.1),(11,v64 0#64),(12,vi 0)]) ⟨rfl,rfl,rfl,rfl,rfl,rfl,rfl,rfl,rfl,trivial⟩ ?_
   refine TC.pull (is:=[0,0,0,0,0]) (L':=[⟨some (b1,0),e32 a_.toList⟩,⟨some (b2,0),e32 b.toList⟩,⟨some (b3,0),e32 ((replicate 8 0#32).toList)⟩,⟨some (b4,0),e32 r_1.toList⟩,⟨some (b5,0),e64 s0.2.toList⟩]) rfl ?_
   refine TC_loopL (id:=2) (body:=(halberdref9_mont.b1 a_ b s0)) (σ:=BitVec 64 × Int × Vx 64 10) (Γ:=Unit) (Γx:=Unit) (fun s1 g1_=>[(4,ptr (some (b1,0)) 0),(5,ptr (some (b2,0)) 0),(6,ptr (some (b3,0)) 0),(7,ptr (some (b4,0)) 0),(8,v64 r_2),(9,ptr (some (b5,0)) 0),(10,vi s0.1),(11,v64 s1.1),(12,vi s1.2.1)]) (fun s1 g1_=>[⟨some (b1,0),e32 a_.toList⟩,⟨some (b2,0),e32 b.toList⟩,⟨some (b3,0),e32 ((replicate 8 0#32).toList)⟩,⟨some (b4,0),e32 r_1.toList⟩,⟨some (b5,0),e64 s1.2.2.toList⟩]) (fun t g=>[(4,ptr (some (b1,0)) 0),(5,ptr (some (b2,0)) 0),(6,ptr (some (b3,0)) 0),(7,ptr (some (b4,0)) 0),(8,v64 r_2),(9,ptr (some (b5,0)) 0),(10,vi s0.1),(11,v64 t.1)]) (fun t g=>[⟨some (b1,0),e32 a_.toList⟩,⟨some (b2,0),e32 b.toList⟩,⟨some (b3,0),e32 ((replicate 8 0#32).toList)⟩,⟨some (b4,0),e32 r_1.toList⟩,⟨some (b5,0),e64 t.2.toList⟩]) ?_ BIG (0#64,0,s0.2) () t_2 Hl ?_
   ·intro s1 g1_ r1 H K hK hE
    unfold halberdref9_mont.b1 at H
    refine TC_seq (TC_seq (TC_region (TLv (V_move rfl) ?_)))
    refine TLv (V_bin rfl rfl (fun w=>lssI w s1.2.1 8)) ?_
    refine TL_nil (TX_next (TC_cond (b:=(decide (s1.2.1<8))) rfl (fun hc=>?_) (fun hc=>?_)))
    ·replace H:=ite_t (of_decide_eq_true hc) H
     refine TC_skip (TX_next (TC_seq (TC_block (TC_seq ?_))))
     obtain ⟨h1,H⟩:=if_elim H
     obtain ⟨h2,H⟩:=if_elim H
     obtain ⟨h3,H⟩:=if_elim H
     obtain ⟨s_1,hs_1,H⟩:=ltt_elim H
     refine TA_begin [] 16 (by kernel_rfl) (N:=16) rfl ?_
     refine TA_mix (is:=[]) (done':=dn 16 32767) [itV 0 32 (vi s1.2.1) [],itV 1 33 (ptr (some (b5,0)) ((s1.2.1).toNat)) [0],itV 2 34 (v64 (vg s1.2.2 ((s1.2.1).toNat))) [1],itV 3 35 (vi s1.2.1) [],itV 4 36 (ptr (some (b1,0)) ((s1.2.1).toNat)) [3],itV 5 37 (v32 (vg a_ ((s1.2.1).toNat))) [4],itV 6 38 (v64 ((vg a_ ((s1.2.1).toNat)).setWidth 64)) [5],itV 7 39 (vi s0.1) [],itV 8 40 (ptr (some (b2,0)) ((s0.1).toNat)) [7],itV 9 41 (v32 (vg b ((s0.1).toNat))) [8],itV 10 42 (v64 ((vg b ((s0.1).toNat)).setWidth 64)) [9],itV 11 43 (v64 (((vg a_ ((s1.2.1).toNat)).setWidth 64) * ((vg b ((s0.1).toNat)).setWidth 64))) [10,6],itV 12 44 (v64 ((vg s1.2.2 ((s1.2.1).toNat))+(((vg a_ ((s1.2.1).toNat)).setWidth 64) * ((vg b ((s0.1).toNat)).setWidth 64)))) [2,11],itV 13 45 (v64 s1.1) [],itV 14 46 (v64 (((vg s1.2.2 ((s1.2.1).toNat))+(((vg a_ ((s1.2.1).toNat)).setWidth 64) * ((vg b ((s0.1).toNat)).setWidth 64)))+s1.1)) [12,13]] [] 1 (by kernel_rfl) (QP.then (QP.block (QP.then (QP.then (QP.block (QP.then (QP.block (QP.then (QP.then (QP.block (QP.then QP.body))))))))))) (by kernel_rfl) rfl (.v rfl (V_move rfl) (.v rfl (V_idxArr (i:=s1.2.1) rfl rfl Try.underlying107 TryI.inf55 rfl h1.1 h1.2 (k:=(s1.2.1).toNat) (k01 _)) (.v rfl (V_load rfl (.o 4) (get_vec (f:=v64) (V:=s1.2.2) (toNat_lt h1.1 h1.2)) Try.isAgg55) (.v rfl (V_move rfl) (.v rfl (V_idxArr (i:=s1.2.1) rfl rfl Try.underlying31 TryI.inf29 rfl h2.1 h2.2 (k:=(s1.2.1).toNat) (k01 _)) (.v rfl (V_load rfl (.o 0) (get_vec (f:=v32) (V:=a_) (toNat_lt h2.1 h2.2)) Try.isAgg29) (.v rfl (V_conv rfl (fun w=>cv32to64 w _ _ Try.underlying55 (TryI.und29) (vg a_ ((s1.2.1).toNat)))) (.v rfl (V_move rfl) (.v rfl (V_idxArr (i:=s0.1) rfl rfl Try.underlying31 TryI.inf29 rfl h3.1 h3.2 (k:=(s0.1).toNat) (k01 _)) (.v rfl (V_load rfl (.o 1) (get_vec (f:=v32) (V:=b) (toNat_lt h3.1 h3.2)) Try.isAgg29) (.v rfl (V_conv rfl (fun w=>cv32to64 w _ _ Try.underlying55 (TryI.und29) (vg b ((s0.1).toNat)))) (.v rfl (V_bin rfl rfl (fun w=>mul64 w ((vg a_ ((s1.2.1).toNat)).setWidth 64) ((vg b ((s0.1).toNat)).setWidth 64))) (.v rfl (V_bin rfl rfl (fun w=>add64 w (vg s1.2.2 ((s1.2.1).toNat)) (((vg a_ ((s1.2.1).toNat)).setWidth 64) * ((vg b ((s0.1).toNat)).setWidth 64)))) (.v rfl (V_move rfl) (.v rfl (V_bin rfl rfl (fun w=>add64 w ((vg s1.2.2 ((s1.2.1).toNat))+(((vg a_ ((s1.2.1).toNat)).setWidth 64) * ((vg b ((s0.1).toNat)).setWidth 64))) s1.1)) .nil))))))))))))))) .nil (by kernel_rfl) rfl (fun γ=>?_)
     refine TA_cut [(46,v64 (((vg s1.2.2 ((s1.2.1).toNat))+(((vg a_ ((s1.2.1).toNat)).setWidth 64) * ((vg b ((s0.1).toNat)).setWidth 64)))+s1.1)),(4,ptr (some (b1,0)) 0),(5,ptr (some (b2,0)) 0),(6,ptr (some (b3,0)) 0),(7,ptr (some (b4,0)) 0),(8,v64 r_2),(9,ptr (some (b5,0)) 0),(10,vi s0.1),(12,vi s1.2.1)] [⟨some (b1,0),e32 a_.toList⟩,⟨some (b2,0),e32 b.toList⟩,⟨some (b3,0),e32 ((replicate 8 0#32).toList)⟩,⟨some (b4,0),e32 r_1.toList⟩,⟨some (b5,0),e64 s1.2.2.toList⟩] ⟨rfl,rfl,rfl,rfl,rfl,rfl,rfl,rfl,rfl,trivial⟩ rfl ?_
     refine TA_all (rs:=[15]) (by kernel_rfl) rfl ?_
     refine ⟨?_,trivial⟩
     refine TO_v (is:=[]) (done':=dn 16 65535) rfl rfl rfl rfl (by kernel_rfl) (V_assign rfl) (fun _=>rfl) ?_
     refine TA_re (d:=13) (v:=v64 (((vg s1.2.2 ((s1.2.1).toNat))+(((vg a_ ((s1.2.1).toNat)).setWidth 64) * ((vg b ((s0.1).toNat)).setWidth 64)))+s1.1)) (v':=v64 s_1) rfl (congrArg v64 hs_1) ?_
     refine TA_done (by kernel_rfl) ?_ 0
     refine TX_next (TC_seq (TC_region (TLv (V_move rfl) ?_)))
     refine TLv (V_move rfl) ?_
     refine TLv (V_bin rfl rfl (fun w=>and64 w s_1 4294967295#64)) ?_
     obtain ⟨h4,H⟩:=if_elim H
     refine TLv (V_idxArr (i:=s1.2.1) rfl rfl Try.underlying107 TryI.inf55 rfl h4.1 h4.2 (k:=(s1.2.1).toNat) (k01 _)) ?_
     refine TLn (E_store (j:=4) rfl rfl TryI.inf55 rfl rfl rfl (by simpa using (toNat_lt h4.1 h4.2)) (cs':=e64 ((vp s1.2.2 ((s1.2.1).toNat) (s_1 &&& 4294967295#64)).toList)) set_vec) (fun _=>?_)
     obtain ⟨m_1,hm_1,H⟩:=ltt_elim H
     refine TL_reE (j:=4) (A:=some (b5,0)) (cs:=e64 ((vp s1.2.2 ((s1.2.1).toNat) (s_1 &&& 4294967295#64)).toList)) (cs':=e64 m_1.toList) rfl (congrArg (fun z:Vx 64 10=>e64 (Vector.toList z)) hm_1) ?_
     refine TL_nil (TX_next (TC_region (TLv (V_move rfl) ?_)))
     refine TLv (V_bin rfl rfl (fun w=>shr64 w s_1 .u64 32 (by decide))) ?_
     refine TLv (V_assign rfl) ?_
     refine TL_nil (TX_block_normal (TX_next (TC_region (TLv (V_move rfl) ?_))))
     refine TLv (V_bin rfl rfl (fun w=>addI w s1.2.1 1)) ?_
     refine TLv (V_assign rfl) ?_
     obtain ⟨j1,hj1,H⟩:=ltt_elim H
     refine TL_re (d:=12) (v:=vi (w64 (s1.2.1+1))) (v':=vi j1) rfl (congrArg vi hj1) ?_
     refine TL_nil (TX.sub (m':=[(4,ptr (some (b1,0)) 0),(5,ptr (some (b2,0)) 0),(6,ptr (some (b3,0)) 0),(7,ptr (some (b4,0)) 0),(8,v64 r_2),(9,ptr (some (b5,0)) 0),(10,vi s0.1),(11,v64 (s_1 >>> 32)),(12,vi j1)]) ⟨rfl,rfl,rfl,rfl,rfl,rfl,rfl,rfl,rfl,trivial⟩ ?_)
     refine TX.pull (is:=[0,0,0,0,0]) (L':=[⟨some (b1,0),e32 a_.toList⟩,⟨some (b2,0),e32 b.toList⟩,⟨some (b3,0),e32 ((replicate 8 0#32).toList)⟩,⟨some (b4,0),e32 r_1.toList⟩,⟨some (b5,0),e64 m_1.toList⟩]) rfl ?_
     obtain rfl:=Option.some.inj H
     exact fun a w hs=>hK (s_1 >>> 32,j1,m_1) rfl () a w hs
    ·replace H:=ite_f (of_decide_eq_false hc) H
     refine TC_exit (TX_then_exit (TX_then_exit (TX.sub (m':=[(4,ptr (some (b1,0)) 0),(5,ptr (some (b2,0)) 0),(6,ptr (some (b3,0)) 0),(7,ptr (some (b4,0)) 0),(8,v64 r_2),(9,ptr (some (b5,0)) 0),(10,vi s0.1),(11,v64 s1.1)]) ⟨rfl,rfl,rfl,rfl,rfl,rfl,rfl,rfl,trivial⟩ ?_)))
     refine TX.pull (is:=[0,0,0,0,0]) (L':=[⟨some (b1,0),e32 a_.toList⟩,⟨some (b2,0),e32 b.toList⟩,⟨some (b3,0),e32 ((replicate 8 0#32).toList)⟩,⟨some (b4,0),e32 r_1.toList⟩,⟨some (b5,0),e64 s1.2.2.toList⟩]) rfl ?_
     obtain rfl:=Option.some.inj H
     exact hE (s1.1,s1.2.2) rfl ()
   ·intro g
    refine TX_block_exit (TX_next (TC_seq (TC_region (TLv (V_idxArr (i:=8) rfl rfl Try.underlying107 TryI.inf55 rfl (by decide) (by decide) (k:=8) (k01 _)) ?_))))
    refine TLv (V_load rfl (.o 4) (get_vec (f:=v64) (V:=t_2.2) (by decide:8<10)) Try.isAgg55) ?_
    refine TLv (V_move rfl) ?_
    refine TLv (V_bin rfl rfl (fun w=>add64 w (vg t_2.2 8) t_2.1)) ?_
    refine TLv (V_assign rfl) ?_
    obtain ⟨s_2,hs_2,H⟩:=ltt_elim H
    refine TL_re (d:=14) (v:=v64 ((vg t_2.2 8)+t_2.1)) (v':=v64 s_2) rfl (congrArg v64 hs_2) ?_
    refine TL_nil (TX_next (TC_seq (TC_region (TLv (V_move rfl) ?_))))
    refine TLv (V_bin rfl rfl (fun w=>and64 w s_2 4294967295#64)) ?_
    refine TLv (V_idxArr (i:=8) rfl rfl Try.underlying107 TryI.inf55 rfl (by decide) (by decide) (k:=8) (k01 _)) ?_
    refine TLn (E_store (j:=4) rfl rfl TryI.inf55 rfl rfl rfl (by simp) (cs':=e64 ((vp t_2.2 8 (s_2 &&& 4294967295#64)).toList)) set_vec) (fun _=>?_)
    obtain ⟨m_2,hm_2,H⟩:=ltt_elim H
    refine TL_reE (j:=4) (A:=some (b5,0)) (cs:=e64 ((vp t_2.2 8 (s_2 &&& 4294967295#64)).toList)) (cs':=e64 m_2.toList) rfl (congrArg (fun z:Vx 64 10=>e64 (Vector.toList z)) hm_2) ?_
    refine TL_nil (TX_next (TC_seq (TC_region (TLv (V_move rfl) ?_))))
    refine TLv (V_bin rfl rfl (fun w=>shr64 w s_2 .u64 32 (by decide))) ?_
    refine TLv (V_idxArr (i:=9) rfl rfl Try.underlying107 TryI.inf55 rfl (by decide) (by decide) (k:=9) (k01 _)) ?_
    refine TLn (E_store (j:=4) rfl rfl TryI.inf55 rfl rfl rfl (by simp) (cs':=e64 ((vp m_2 9 (s_2 >>> 32)).toList)) set_vec) (fun _=>?_)
    refine TL_nil (TX_next (TC_seq (TC_region (TLv (V_idxArr (i:=0) rfl rfl Try.underlying107 TryI.inf55 rfl (by decide) (by decide) (k:=0) (k01 _)) ?_))))
    refine TLv (V_load rfl (.o 4) (get_vec (f:=v64) (V:=(vp m_2 9 (s_2 >>> 32))) (by decide:0<10)) Try.isAgg55) ?_
    refine TLv (V_move rfl) ?_
    refine TLv (V_bin rfl rfl (fun w=>mul64 w (vg (vp m_2 9 (s_2 >>> 32)) 0) r_2)) ?_
    refine TLv (V_bin rfl rfl (fun w=>and64 w ((vg (vp m_2 9 (s_2 >>> 32)) 0) * r_2) 4294967295#64)) ?_
    refine TLv (V_assign rfl) ?_
    obtain ⟨q1,hq1,H⟩:=ltt_elim H
    refine TL_re (d:=15) (v:=v64 (((vg (vp m_2 9 (s_2 >>> 32)) 0) * r_2) &&& 4294967295#64)) (v':=v64 q1) rfl (congrArg v64 hq1) ?_
    refine TL_nil (TX_next (TC_seq (TC_region (TLv (V_idxArr (i:=0) rfl rfl Try.underlying107 TryI.inf55 rfl (by decide) (by decide) (k:=0) (k01 _)) ?_))))
    refine TLv (V_load rfl (.o 4) (get_vec (f:=v64) (V:=(vp m_2 9 (s_2 >>> 32))) (by decide:0<10)) Try.isAgg55) ?_
    refine TLv (V_move rfl) ?_
    refine TLv (V_idxArr (i:=0) rfl rfl Try.underlying31 TryI.inf29 rfl (by decide) (by decide) (k:=0) (k01 _)) ?_
    refine TLv (V_load rfl (.o 3) (get_vec (f:=v32) (V:=r_1) (by decide:0<8)) Try.isAgg29) ?_
    refine TLv (V_conv rfl (fun w=>cv32to64 w _ _ Try.underlying55 (TryI.und29) (vg r_1 0))) ?_
    refine TLv (V_bin rfl rfl (fun w=>mul64 w q1 ((vg r_1 0).setWidth 64))) ?_
    refine TLv (V_bin rfl rfl (fun w=>add64 w (vg (vp m_2 9 (s_2 >>> 32)) 0) (q1 * ((vg r_1 0).setWidth 64)))) ?_
    refine TLv (V_bin rfl rfl (fun w=>shr64 w ((vg (vp m_2 9 (s_2 >>> 32)) 0)+(q1 * ((vg r_1 0).setWidth 64))) .u64 32 (by decide))) ?_
    refine TLv (V_assign rfl) ?_
    obtain ⟨c1,hc1,H⟩:=ltt_elim H
    refine TL_re (d:=11) (v:=v64 (((vg (vp m_2 9 (s_2 >>> 32)) 0)+(q1 * ((vg r_1 0).setWidth 64))) >>> 32)) (v':=v64 c1) rfl (congrArg v64 hc1) ?_
    refine TL_nil (TX_next (TC.sub (m':=[(4,ptr (some (b1,0)) 0),(5,ptr (some (b2,0)) 0),(6,ptr (some (b3,0)) 0),(7,ptr (some (b4,0)) 0),(8,v64 r_2),(9,ptr (some (b5,0)) 0),(10,vi s0.1),(11,v64 c1),(15,v64 q1)]) ⟨rfl,rfl,rfl,rfl,rfl,rfl,rfl,rfl,rfl,trivial⟩ ?_))
    refine TC.pull (is:=[0,0,0,0,0]) (L':=[⟨some (b1,0),e32 a_.toList⟩,⟨some (b2,0),e32 b.toList⟩,⟨some (b3,0),e32 ((replicate 8 0#32).toList)⟩,⟨some (b4,0),e32 r_1.toList⟩,⟨some (b5,0),e64 ((vp m_2 9 (s_2 >>> 32)).toList)⟩]) rfl ?_
    refine TC_seq (TC_seq (TC_region (TLv (V_assign rfl) ?_)))
    refine TL_nil (TX_next (TC_block ?_))
    obtain ⟨t_3,Hl,H⟩:=bind_elim H
    refine TC.sub (m':=[(4,ptr (some (b1,0)) 0),(5,ptr (some (b2,0)) 0),(6,ptr (some (b3,0)) 0),(7,ptr (some (b4,0)) 0),(8,v64 r_2),(9,ptr (some (b5,0)) 0),(10,vi s0.1),(11,v64 c1),(15,v64 q1),(16,vi 1)]) ⟨rfl,rfl,rfl,rfl,rfl,rfl,rfl,rfl,rfl,rfl,trivial⟩ ?_
    refine TC.pull (is:=[0,0,0,0,0]) (L':=[⟨some (b1,0),e32 a_.toList⟩,⟨some (b2,0),e32 b.toList⟩,⟨some (b3,0),e32 ((replicate 8 0#32).toList)⟩,⟨some (b4,0),e32 r_1.toList⟩,⟨some (b5,0),e64 ((vp m_2 9 (s_2 >>> 32)).toList)⟩]) rfl ?_
    refine TC_loopL (id:=4) (body:=(halberdref9_mont.b2 r_1 q1)) (σ:=BitVec 64 × Int × Vx 64 10) (Γ:=Unit) (Γx:=Unit) (fun s2 g2_=>[(4,ptr (some (b1,0)) 0),(5,ptr (some (b2,0)) 0),(6,ptr (some (b3,0)) 0),(7,ptr (some (b4,0)) 0),(8,v64 r_2),(9,ptr (some (b5,0)) 0),(10,vi s0.1),(11,v64 s2.1),(15,v64 q1),(16,vi s2.2.1)]) (fun s2 g2_=>[⟨some (b1,0),e32 a_.toList⟩,⟨some (b2,0),e32 b.toList⟩,⟨some (b3,0),e32 ((replicate 8 0#32).toList)⟩,⟨some (b4,0),e32 r_1.toList⟩,⟨some (b5,0),e64 s2.2.2.toList⟩]) (fun t g=>[(4,ptr (some (b1,0)) 0),(5,ptr (some (b2,0)) 0),(6,ptr (some (b3,0)) 0),(7,ptr (some (b4,0)) 0),(8,v64 r_2),(9,ptr (some (b5,0)) 0),(10,vi s0.1),(11,v64 t.1)]) (fun t g=>[⟨some (b1,0),e32 a_.toList⟩,⟨some (b2,0),e32 b.toList⟩,⟨some (b3,0),e32 ((replicate 8 0#32).toList)⟩,⟨some (b4,0),e32 r_1.toList⟩,⟨some (b5,0),e64 t.2.toList⟩]) ?_ BIG (c1,1,vp m_2 9 (s_2 >>> 32)) () t_3 Hl ?_
    ·intro s2 g2_ r1 H K hK hE
     unfold halberdref9_mont.b2 at H
     refine TC_seq (TC_seq (TC_region (TLv (V_move rfl) ?_)))
     refine TLv (V_bin rfl rfl (fun w=>lssI w s2.2.1 8)) ?_
     refine TL_nil (TX_next (TC_cond (b:=(decide (s2.2.1<8))) rfl (fun hc=>?_) (fun hc=>?_)))
     ·replace H:=ite_t (of_decide_eq_true hc) H
      refine TC_skip (TX_next (TC_seq (TC_block (TC_seq ?_))))
      obtain ⟨h5,H⟩:=if_elim H
      obtain ⟨h6,H⟩:=if_elim H
      obtain ⟨s_3,hs_3,H⟩:=ltt_elim H
      refine TA_begin [] 13 (by kernel_rfl) (N:=13) rfl ?_
      refine TA_mix (is:=[]) (done':=dn 13 4095) [itV 0 81 (vi s2.2.1) [],itV 1 82 (ptr (some (b5,0)) ((s2.2.1).toNat)) [0],itV 2 83 (v64 (vg s2.2.2 ((s2.2.1).toNat))) [1],itV 3 84 (v64 q1) [],itV 4 85 (vi s2.2.1) [],itV 5 86 (ptr (some (b4,0)) ((s2.2.1).toNat)) [4],itV 6 87 (v32 (vg r_1 ((s2.2.1).toNat))) [5],itV 7 88 (v64 ((vg r_1 ((s2.2.1).toNat)).setWidth 64)) [6],itV 8 89 (v64 (q1 * ((vg r_1 ((s2.2.1).toNat)).setWidth 64))) [7,3],itV 9 90 (v64 ((vg s2.2.2 ((s2.2.1).toNat))+(q1 * ((vg r_1 ((s2.2.1).toNat)).setWidth 64)))) [8,2],itV 10 91 (v64 s2.1) [],itV 11 92 (v64 (((vg s2.2.2 ((s2.2.1).toNat))+(q1 * ((vg r_1 ((s2.2.1).toNat)).setWidth 64)))+s2.1)) [9,10]] [] 1 (by kernel_rfl) (QP.then (QP.block (QP.then (QP.then (QP.block (QP.then (QP.block (QP.then (QP.then (QP.block (QP.then QP.body))))))))))) (by kernel_rfl) rfl (.v rfl (V_move rfl) (.v rfl (V_idxArr (i:=s2.2.1) rfl rfl Try.underlying107 TryI.inf55 rfl h5.1 h5.2 (k:=(s2.2.1).toNat) (k01 _)) (.v rfl (V_load rfl (.o 4) (get_vec (f:=v64) (V:=s2.2.2) (toNat_lt h5.1 h5.2)) Try.isAgg55) (.v rfl (V_move rfl) (.v rfl (V_move rfl) (.v rfl (V_idxArr (i:=s2.2.1) rfl rfl Try.underlying31 TryI.inf29 rfl h6.1 h6.2 (k:=(s2.2.1).toNat) (k01 _)) (.v rfl (V_load rfl (.o 3) (get_vec (f:=v32) (V:=r_1) (toNat_lt h6.1 h6.2)) Try.isAgg29) (.v rfl (V_conv rfl (fun w=>cv32to64 w _ _ Try.underlying55 (TryI.und29) (vg r_1 ((s2.2.1).toNat)))) (.v rfl (V_bin rfl rfl (fun w=>mul64 w q1 ((vg r_1 ((s2.2.1).toNat)).setWidth 64))) (.v rfl (V_bin rfl rfl (fun w=>add64 w (vg s2.2.2 ((s2.2.1).toNat)) (q1 * ((vg r_1 ((s2.2.1).toNat)).setWidth 64)))) (.v rfl (V_move rfl) (.v rfl (V_bin rfl rfl (fun w=>add64 w ((vg s2.2.2 ((s2.2.1).toNat))+(q1 * ((vg r_1 ((s2.2.1).toNat)).setWidth 64))) s2.1)) .nil)))))))))))) .nil (by kernel_rfl) rfl (fun γ=>?_)
      refine TA_cut [(92,v64 (((vg s2.2.2 ((s2.2.1).toNat))+(q1 * ((vg r_1 ((s2.2.1).toNat)).setWidth 64)))+s2.1)),(4,ptr (some (b1,0)) 0),(5,ptr (some (b2,0)) 0),(6,ptr (some (b3,0)) 0),(7,ptr (some (b4,0)) 0),(8,v64 r_2),(9,ptr (some (b5,0)) 0),(10,vi s0.1),(15,v64 q1),(16,vi s2.2.1)] [⟨some (b1,0),e32 a_.toList⟩,⟨some (b2,0),e32 b.toList⟩,⟨some (b3,0),e32 ((replicate 8 0#32).toList)⟩,⟨some (b4,0),e32 r_1.toList⟩,⟨some (b5,0),e64 s2.2.2.toList⟩] ⟨rfl,rfl,rfl,rfl,rfl,rfl,rfl,rfl,rfl,rfl,trivial⟩ rfl ?_
      refine TA_all (rs:=[12]) (by kernel_rfl) rfl ?_
      refine ⟨?_,trivial⟩
      refine TO_v (is:=[]) (done':=dn 13 8191) rfl rfl rfl rfl (by kernel_rfl) (V_assign rfl) (fun _=>rfl) ?_
      refine TA_re (d:=17) (v:=v64 (((vg s2.2.2 ((s2.2.1).toNat))+(q1 * ((vg r_1 ((s2.2.1).toNat)).setWidth 64)))+s2.1)) (v':=v64 s_3) rfl (congrArg v64 hs_3) ?_
      refine TA_done (by kernel_rfl) ?_ 0
      refine TX_next (TC_seq (TC_region (TLv (V_move rfl) ?_)))
      refine TLv (V_bin rfl rfl (fun w=>subI w s2.2.1 1)) ?_
      refine TLv (V_move rfl) ?_
      refine TLv (V_bin rfl rfl (fun w=>and64 w s_3 4294967295#64)) ?_
      obtain ⟨h7,H⟩:=if_elim H
      refine TLv (V_idxArr (i:=w64 (s2.2.1 - 1)) rfl rfl Try.underlying107 TryI.inf55 rfl h7.1 h7.2 (k:=(w64 (s2.2.1 - 1)).toNat) (k01 _)) ?_
      refine TLn (E_store (j:=4) rfl rfl TryI.inf55 rfl rfl rfl (by simpa using (toNat_lt h7.1 h7.2)) (cs':=e64 ((vp s2.2.2 ((w64 (s2.2.1 - 1)).toNat) (s_3 &&& 4294967295#64)).toList)) set_vec) (fun _=>?_)
      obtain ⟨m_3,hm_3,H⟩:=ltt_elim H
      refine TL_reE (j:=4) (A:=some (b5,0)) (cs:=e64 ((vp s2.2.2 ((w64 (s2.2.1 - 1)).toNat) (s_3 &&& 4294967295#64)).toList)) (cs':=e64 m_3.toList) rfl (congrArg (fun z:Vx 64 10=>e64 (Vector.toList z)) hm_3) ?_
      refine TL_nil (TX_next (TC_region (TLv (V_move rfl) ?_)))
      refine TLv (V_bin rfl rfl (fun w=>shr64 w s_3 .u64 32 (by decide))) ?_
      refine TLv (V_assign rfl) ?_
      refine TL_nil (TX_block_normal (TX_next (TC_region (TLv (V_move rfl) ?_))))
      refine TLv (V_bin rfl rfl (fun w=>addI w s2.2.1 1)) ?_
      refine TLv (V_assign rfl) ?_
      obtain ⟨j2,hj2,H⟩:=ltt_elim H
      refine TL_re (d:=16) (v:=vi (w64 (s2.2.1+1))) (v':=vi j2) rfl (congrArg vi hj2) ?_
      refine TL_nil (TX.sub (m':=[(4,ptr (some (b1,0)) 0),(5,ptr (some (b2,0)) 0),(6,ptr (some (b3,0)) 0),(7,ptr (some (b4,0)) 0),(8,v64 r_2),(9,ptr (some (b5,0)) 0),(10,vi s0.1),(11,v64 (s_3 >>> 32)),(15,v64 q1),(16,vi j2)]) ⟨rfl,rfl,rfl,rfl,rfl,rfl,rfl,rfl,rfl,rfl,trivial⟩ ?_)
      refine TX.pull (is:=[0,0,0,0,0]) (L':=[⟨some (b1,0),e32 a_.toList⟩,⟨some (b2,0),e32 b.toList⟩,⟨some (b3,0),e32 ((replicate 8 0#32).toList)⟩,⟨some (b4,0),e32 r_1.toList⟩,⟨some (b5,0),e64 m_3.toList⟩]) rfl ?_
      obtain rfl:=Option.some.inj H
      exact fun a w hs=>hK (s_3 >>> 32,j2,m_3) rfl () a w hs
     ·replace H:=ite_f (of_decide_eq_false hc) H
      refine TC_exit (TX_then_exit (TX_then_exit (TX.sub (m':=[(4,ptr (some (b1,0)) 0),(5,ptr (some (b2,0)) 0),(6,ptr (some (b3,0)) 0),(7,ptr (some (b4,0)) 0),(8,v64 r_2),(9,ptr (some (b5,0)) 0),(10,vi s0.1),(11,v64 s2.1)]) ⟨rfl,rfl,rfl,rfl,rfl,rfl,rfl,rfl,trivial⟩ ?_)))
      refine TX.pull (is:=[0,0,0,0,0]) (L':=[⟨some (b1,0),e32 a_.toList⟩,⟨some (b2,0),e32 b.toList⟩,⟨some (b3,0),e32 ((replicate 8 0#32).toList)⟩,⟨some (b4,0),e32 r_1.toList⟩,⟨some (b5,0),e64 s2.2.2.toList⟩]) rfl ?_
      obtain rfl:=Option.some.inj H
      exact hE (s2.1,s2.2.2) rfl ()
    ·intro g
     refine TX_block_exit (TX_next (TC_seq (TC_region (TLv (V_idxArr (i:=8) rfl rfl Try.underlying107 TryI.inf55 rfl (by decide) (by decide) (k:=8) (k01 _)) ?_))))
     refine TLv (V_load rfl (.o 4) (get_vec (f:=v64) (V:=t_3.2) (by decide:8<10)) Try.isAgg55) ?_
     refine TLv (V_move rfl) ?_
     refine TLv (V_bin rfl rfl (fun w=>add64 w (vg t_3.2 8) t_3.1)) ?_
     refine TLv (V_assign rfl) ?_
     obtain ⟨s_4,hs_4,H⟩:=ltt_elim H
     refine TL_re (d:=14) (v:=v64 ((vg t_3.2 8)+t_3.1)) (v':=v64 s_4) rfl (congrArg v64 hs_4) ?_
     refine TL_nil (TX_next (TC_seq (TC_region (TLv (V_move rfl) ?_))))
     refine TLv (V_bin rfl rfl (fun w=>and64 w s_4 4294967295#64)) ?_
     refine TLv (V_idxArr (i:=7) rfl rfl Try.underlying107 TryI.inf55 rfl (by decide) (by decide) (k:=7) (k01 _)) ?_
     refine TLn (E_store (j:=4) rfl rfl TryI.inf55 rfl rfl rfl (by simp) (cs':=e64 ((vp t_3.2 7 (s_4 &&& 4294967295#64)).toList)) set_vec) (fun _=>?_)
     obtain ⟨m_4,hm_4,H⟩:=ltt_elim H
     refine TL_reE (j:=4) (A:=some (b5,0)) (cs:=e64 ((vp t_3.2 7 (s_4 &&& 4294967295#64)).toList)) (cs':=e64 m_4.toList) rfl (congrArg (fun z:Vx 64 10=>e64 (Vector.toList z)) hm_4) ?_
     refine TL_nil (TX_next (TC_seq (TC_region (TLv (V_idxArr (i:=9) rfl rfl Try.underlying107 TryI.inf55 rfl (by decide) (by decide) (k:=9) (k01 _)) ?_))))
     refine TLv (V_load rfl (.o 4) (get_vec (f:=v64) (V:=m_4) (by decide:9<10)) Try.isAgg55) ?_
     refine TLv (V_move rfl) ?_
     refine TLv (V_bin rfl rfl (fun w=>shr64 w s_4 .u64 32 (by decide))) ?_
     refine TLv (V_bin rfl rfl (fun w=>add64 w (vg m_4 9) (s_4 >>> 32))) ?_
     refine TLv (V_idxArr (i:=8) rfl rfl Try.underlying107 TryI.inf55 rfl (by decide) (by decide) (k:=8) (k01 _)) ?_
     refine TLn (E_store (j:=4) rfl rfl TryI.inf55 rfl rfl rfl (by simp) (cs':=e64 ((vp m_4 8 ((vg m_4 9)+(s_4 >>> 32))).toList)) set_vec) (fun _=>?_)
     obtain ⟨m_5,hm_5,H⟩:=ltt_elim H
     refine TL_reE (j:=4) (A:=some (b5,0)) (cs:=e64 ((vp m_4 8 ((vg m_4 9)+(s_4 >>> 32))).toList)) (cs':=e64 m_5.toList) rfl (congrArg (fun z:Vx 64 10=>e64 (Vector.toList z)) hm_5) ?_
     refine TL_nil (TX_next (TC_region (TLv (V_idxArr (i:=9) rfl rfl Try.underlying107 TryI.inf55 rfl (by decide) (by decide) (k:=9) (k01 _)) ?_)))
     refine TLn (E_store (j:=4) rfl rfl TryI.inf55 rfl rfl rfl (by simp) (cs':=e64 ((vp m_5 9 0#64).toList)) (set_vec (f:=v64) (V:=m_5) (k:=9) (x:=0#64))) (fun _=>?_)
     refine TL_nil (TX_block_normal (TX_next (TC_region (TLv (V_move rfl) ?_))))
     refine TLv (V_bin rfl rfl (fun w=>addI w s0.1 1)) ?_
     refine TLv (V_assign rfl) ?_
     obtain ⟨i1,hi1,H⟩:=ltt_elim H
     refine TL_re (d:=10) (v:=vi (w64 (s0.1+1))) (v':=vi i1) rfl (congrArg vi hi1) ?_
     refine TL_nil (TX.sub (m':=[(4,ptr (some (b1,0)) 0),(5,ptr (some (b2,0)) 0),(6,ptr (some (b3,0)) 0),(7,ptr (some (b4,0)) 0),(8,v64 r_2),(9,ptr (some (b5,0)) 0),(10,vi i1)]) ⟨rfl,rfl,rfl,rfl,rfl,rfl,rfl,trivial⟩ ?_)
     refine TX.pull (is:=[0,0,0,0,0]) (L':=[⟨some (b1,0),e32 a_.toList⟩,⟨some (b2,0),e32 b.toList⟩,⟨some (b3,0),e32 ((replicate 8 0#32).toList)⟩,⟨some (b4,0),e32 r_1.toList⟩,⟨some (b5,0),e64 ((vp m_5 9 0#64).toList)⟩]) rfl ?_
     obtain rfl:=Option.some.inj H
     exact fun a w hs=>hK (i1,vp m_5 9 0#64) rfl () a w hs
  ·replace H:=ite_f (of_decide_eq_false hc) H
   refine TC_exit (TX_then_exit (TX_then_exit (TX.sub (m':=[(6,ptr (some (b3,0)) 0),(7,ptr (some (b4,0)) 0),(9,ptr (some (b5,0)) 0)]) ⟨rfl,rfl,rfl,trivial⟩ ?_)))
   refine TX.pull (is:=[2,2,2]) (L':=[⟨some (b3,0),e32 ((replicate 8 0#32).toList)⟩,⟨some (b4,0),e32 r_1.toList⟩,⟨some (b5,0),e64 s0.2.toList⟩]) rfl ?_
   obtain rfl:=Option.some.inj H
   exact hE s0.2 rfl ()
 ·intro g
  refine TX_block_exit (TX_next (TC_seq (TC_region (TLe (E_al32 8 TryI.inf31 TryI.zer31) (fun b6=>?_)))))
  refine TL_nil (TX_next (TC_seq (TC_seq (TC_region (TLv (V_assign rfl) ?_)))))
  refine TL_nil (TX_next (TC_block ?_))
  obtain ⟨t_4,Hl,H⟩:=bind_elim H
  refine TC.sub (m':=[(6,ptr (some (b3,0)) 0),(7,ptr (some (b4,0)) 0),(9,ptr (some (b5,0)) 0),(18,ptr (some (b6,0)) 0),(19,vi 0)]) ⟨rfl,rfl,rfl,rfl,rfl,trivial⟩ ?_
  refine TC.pull (is:=[1,1,1,0]) (L':=[⟨some (b3,0),e32 ((replicate 8 0#32).toList)⟩,⟨some (b4,0),e32 r_1.toList⟩,⟨some (b5,0),e64 t_1.toList⟩,⟨some (b6,0),e32 ((replicate 8 0#32).toList)⟩]) rfl ?_
  refine TC_loopL (id:=6) (body:=(halberdref9_mont.b3 t_1)) (σ:=Int × Vx 32 8) (Γ:=Unit) (Γx:=Unit) (fun s3 g3_=>[(6,ptr (some (b3,0)) 0),(7,ptr (some (b4,0)) 0),(9,ptr (some (b5,0)) 0),(18,ptr (some (b6,0)) 0),(19,vi s3.1)]) (fun s3 g3_=>[⟨some (b3,0),e32 ((replicate 8 0#32).toList)⟩,⟨some (b4,0),e32 r_1.toList⟩,⟨some (b5,0),e64 t_1.toList⟩,⟨some (b6,0),e32 s3.2.toList⟩]) (fun t g=>[(6,ptr (some (b3,0)) 0),(7,ptr (some (b4,0)) 0),(9,ptr (some (b5,0)) 0),(18,ptr (some (b6,0)) 0)]) (fun t g=>[⟨some (b3,0),e32 ((replicate 8 0#32).toList)⟩,⟨some (b4,0),e32 r_1.toList⟩,⟨some (b5,0),e64 t_1.toList⟩,⟨some (b6,0),e32 t.toList⟩]) ?_ BIG (0,replicate 8 0#32) () t_4 Hl ?_
  ·intro s3 g3_ r1 H K hK hE
   unfold halberdref9_mont.b3 at H
   refine TC_seq (TC_seq (TC_region (TLv (V_move rfl) ?_)))
   refine TLv (V_bin rfl rfl (fun w=>lssI w s3.1 8)) ?_
   refine TL_nil (TX_next (TC_cond (b:=(decide (s3.1<8))) rfl (fun hc=>?_) (fun hc=>?_)))
   ·replace H:=ite_t (of_decide_eq_true hc) H
    refine TC_skip (TX_next (TC_seq (TC_block (TC_region (TLv (V_move rfl) ?_)))))
    refine TLv (V_move rfl) ?_
    obtain ⟨h8,H⟩:=if_elim H
    refine TLv (V_idxArr (i:=s3.1) rfl rfl Try.underlying107 TryI.inf55 rfl h8.1 h8.2 (k:=(s3.1).toNat) (k01 _)) ?_
    refine TLv (V_load rfl (.o 2) (get_vec (f:=v64) (V:=t_1) (toNat_lt h8.1 h8.2)) Try.isAgg55) ?_
    refine TLv (V_conv rfl (fun w=>cv64to32 w _ _ Try.underlying29 (TryI.und55) (vg t_1 ((s3.1).toNat)))) ?_
    obtain ⟨h9,H⟩:=if_elim H
    refine TLv (V_idxArr (i:=s3.1) rfl rfl Try.underlying31 TryI.inf29 rfl h9.1 h9.2 (k:=(s3.1).toNat) (k01 _)) ?_
    refine TLn (E_store (j:=3) rfl rfl TryI.inf29 rfl rfl rfl (by simpa using (toNat_lt h9.1 h9.2)) (cs':=e32 ((vp s3.2 ((s3.1).toNat) ((vg t_1 ((s3.1).toNat)).setWidth 32)).toList)) set_vec) (fun _=>?_)
    obtain ⟨m_6,hm_6,H⟩:=ltt_elim H
    refine TL_reE (j:=3) (A:=some (b6,0)) (cs:=e32 ((vp s3.2 ((s3.1).toNat) ((vg t_1 ((s3.1).toNat)).setWidth 32)).toList)) (cs':=e32 m_6.toList) rfl (congrArg (fun z:Vx 32 8=>e32 (Vector.toList z)) hm_6) ?_
    refine TL_nil (TX_block_normal (TX_next (TC_region (TLv (V_move rfl) ?_))))
    refine TLv (V_bin rfl rfl (fun w=>addI w s3.1 1)) ?_
    refine TLv (V_assign rfl) ?_
    obtain ⟨i2,hi2,H⟩:=ltt_elim H
    refine TL_re (d:=19) (v:=vi (w64 (s3.1+1))) (v':=vi i2) rfl (congrArg vi hi2) ?_
    refine TL_nil (TX.sub (m':=[(6,ptr (some (b3,0)) 0),(7,ptr (some (b4,0)) 0),(9,ptr (some (b5,0)) 0),(18,ptr (some (b6,0)) 0),(19,vi i2)]) ⟨rfl,rfl,rfl,rfl,rfl,trivial⟩ ?_)
    refine TX.pull (is:=[0,0,0,0]) (L':=[⟨some (b3,0),e32 ((replicate 8 0#32).toList)⟩,⟨some (b4,0),e32 r_1.toList⟩,⟨some (b5,0),e64 t_1.toList⟩,⟨some (b6,0),e32 m_6.toList⟩]) rfl ?_
    obtain rfl:=Option.some.inj H
    exact fun a w hs=>hK (i2,m_6) rfl () a w hs
   ·replace H:=ite_f (of_decide_eq_false hc) H
    refine TC_exit (TX_then_exit (TX_then_exit (TX.sub (m':=[(6,ptr (some (b3,0)) 0),(7,ptr (some (b4,0)) 0),(9,ptr (some (b5,0)) 0),(18,ptr (some (b6,0)) 0)]) ⟨rfl,rfl,rfl,rfl,trivial⟩ ?_)))
    refine TX.pull (is:=[0,0,0,0]) (L':=[⟨some (b3,0),e32 ((replicate 8 0#32).toList)⟩,⟨some (b4,0),e32 r_1.toList⟩,⟨some (b5,0),e64 t_1.toList⟩,⟨some (b6,0),e32 s3.2.toList⟩]) rfl ?_
    obtain rfl:=Option.some.inj H
    exact hE s3.2 rfl ()
  ·intro g
   refine TX_block_exit (TX_next (TC_seq (TC_seq (TC_region (TLv (V_idxArr (i:=8) rfl rfl Try.underlying107 TryI.inf55 rfl (by decide) (by decide) (k:=8) (k01 _)) ?_)))))
   refine TLv (V_load rfl (.o 2) (get_vec (f:=v64) (V:=t_1) (by decide:8<10)) Try.isAgg55) ?_
   refine TLv (V_bin rfl rfl (fun w=>gtr64 w (vg t_1 8) 0#64)) ?_
   refine TLv (V_move rfl) ?_
   obtain ⟨j3,Hj,H⟩:=bind_elim H
   refine TL_join (Γ:=Unit) (fun gj3=>[(6,ptr (some (b3,0)) 0),(7,ptr (some (b4,0)) 0),(18,ptr (some (b6,0)) 0),(132,vb j3)]) (fun gj3=>[⟨some (b3,0),e32 ((replicate 8 0#32).toList)⟩,⟨some (b4,0),e32 r_1.toList⟩,⟨some (b6,0),e32 t_4.toList⟩]) ?_ ?_
   ·intro gj3
    refine TX_next (TC_cond (b:=j3) rfl (fun hc=>?_) (fun hc=>?_))
    ·replace H:=ite_t hc H
     refine TC_region (TLv (V_lag (.o 2) Try.isAgg31 TryI.inf31) ?_)
     refine TLv (V_lag (.o 1) Try.isAgg31 TryI.inf31) ?_
     obtain ⟨r_3,hr_3,H⟩:=bind_elim H
     refine TLe (E_c0 (F82_calls t_4 r_1 r_3 hr_3) Try.call82 .z) (fun g_3=>?_)
     refine TLn (E_sv (vs:=e32 r_3.toList) 2 TryI.inf31) (fun _=>?_)
     refine TL_nil (TX_next (TC_seq (TC_region (TLv (V_lag (.o 2) Try.isAgg31 TryI.inf31) ?_))))
     refine TLn (E_sv (vs:=e32 r_3.toList) 0 TryI.inf31) (fun _=>?_)
     refine TL_nil (TX_next (TC_ret ?_))
     have hrv:=Option.some.inj H
     subst hrv
     exact TX_ret (rs:=[.cell 6 31]) (vs:=[aG [(8,e32 r_3.toList)]]) rfl ⟨(Res_agg (n:=8) rfl (by simp) (.o 0) Try.isAgg31 TryI.inf31 rfl (lenV (f:=v32) r_3)),trivial⟩ (fun w' hs'=>⟨(),rfl,Step.left (Step.pulled (is:=[]) (A:=[]) hs' rfl)⟩)
    ·replace H:=ite_f (Bool.eq_false_iff.1 hc) H
     refine TC_skip (TX_next (TC_seq (TC_region (TLv (V_lag (.o 2) Try.isAgg31 TryI.inf31) ?_))))
     refine TLn (E_sv (vs:=e32 t_4.toList) 0 TryI.inf31) (fun _=>?_)
     refine TL_nil (TX_next (TC_ret ?_))
     have hrv:=Option.some.inj H
     subst hrv
     exact TX_ret (rs:=[.cell 6 31]) (vs:=[aG [(8,e32 t_4.toList)]]) rfl ⟨(Res_agg (n:=8) rfl (by simp) (.o 0) Try.isAgg31 TryI.inf31 rfl (lenV (f:=v32) t_4)),trivial⟩ (fun w' hs'=>⟨(),rfl,Step.left (Step.pulled (is:=[]) (A:=[]) hs' rfl)⟩)
   ·intro hJ
    replace H:=Hj
    refine TL_fork (d:=127) (b:=(decide ((0#64).toNat<((vg t_1 8)).toNat))) rfl (fun hc=>?_) (fun hc=>?_)
    ·replace H:=ite_t (of_decide_eq_true hc) H
     refine TL_skip rfl rfl rfl rfl rfl rfl rfl ?_
     refine TL_skip rfl rfl rfl rfl rfl rfl rfl ?_
     refine TL_skip rfl rfl rfl rfl rfl rfl rfl ?_
     refine TL_skip rfl rfl rfl rfl rfl rfl rfl ?_
     refine TLv (V_pick (b:=true) rfl rfl) ?_
     refine TL_nil (TX.sub (m':=[(6,ptr (some (b3,0)) 0),(7,ptr (some (b4,0)) 0),(18,ptr (some (b6,0)) 0),(132,vb true)]) ⟨rfl,rfl,rfl,rfl,trivial⟩ ?_)
     refine TX.pull (is:=[0,0,1]) (L':=[⟨some (b3,0),e32 ((replicate 8 0#32).toList)⟩,⟨some (b4,0),e32 r_1.toList⟩,⟨some (b6,0),e32 t_4.toList⟩]) rfl ?_
     obtain rfl:=Option.some.inj H
     exact hJ ()
    ·replace H:=ite_f (of_decide_eq_false hc) H
     refine TL_want rfl rfl rfl rfl rfl rfl (V_lag (.o 3) Try.isAgg31 TryI.inf31) ?_
     refine TL_want rfl rfl rfl rfl rfl rfl (V_lag (.o 1) Try.isAgg31 TryI.inf31) ?_
     obtain ⟨r_4,hr_4,H⟩:=bind_elim H
     refine TL_wantE rfl rfl rfl rfl rfl rfl (E_c0 (F78_calls t_4 r_1 r_4 hr_4) Try.call78 .z) (fun g_4=>?_)
     refine TL_want rfl rfl rfl rfl rfl rfl (V_un rfl (fun w=>notB w r_4)) ?_
     refine TLv (V_pick (b:=false) rfl rfl) ?_
     refine TL_nil (TX.sub (m':=[(6,ptr (some (b3,0)) 0),(7,ptr (some (b4,0)) 0),(18,ptr (some (b6,0)) 0),(132,vb (!r_4))]) ⟨rfl,rfl,rfl,rfl,trivial⟩ ?_)
     refine TX.pull (is:=[0,0,1]) (L':=[⟨some (b3,0),e32 ((replicate 8 0#32).toList)⟩,⟨some (b4,0),e32 r_1.toList⟩,⟨some (b6,0),e32 t_4.toList⟩]) rfl ?_
     obtain rfl:=Option.some.inj H
     exact hJ ()
end Go.Proofs
end

section
namespace Go.Kx
open Go Go.Proofs
theorem sw64 (x:BitVec 32):(x.setWidth 64).toNat=x.toNat:=by
 rw [BitVec.toNat_setWidth]; have:=x.isLt; omega
theorem low32 (s:BitVec 64):((s &&& 4294967295#64).setWidth 32).toNat=s.toNat % 2 ^ 32:=by
 rw [BitVec.toNat_setWidth,and32w]; omega
theorem ref_plus_ex (x y:Vx 32 8) : ∃ r,halberdref9_plus x y=some r∧n8 r.1+2 ^ 256 * r.2.toNat=n8 x+n8 y∧r.2.toNat≤1:=by
 obtain ⟨t,h1,h2⟩:=loop_inv (body:=halberdref9_plus.b0 y) (s0:=(0#64,0,x)) 8
  (fun k s=>s.2.1=(k:Int)∧s.1.toNat≤1∧(∀ j,k≤j → j<8 → wv s.2.2 j=wv x j)∧pv (2 ^ 32) (wv s.2.2) k+s.1.toNat * (2 ^ 32) ^ k=pv (2 ^ 32) (wv x) k+pv (2 ^ 32) (wv y) k)
  (fun t=>t.1.toNat≤1∧pv (2 ^ 32) (wv t.2) 8+t.1.toNat * (2 ^ 32) ^ 8=pv (2 ^ 32) (wv x) 8+pv (2 ^ 32) (wv y) 8) (by decide)
  ⟨rfl,Nat.zero_le _,fun _ _ _=>rfl,rfl⟩
  (fun k s hk hI=>by
   obtain ⟨c,i,z⟩:=s
   obtain ⟨hi,hc,hz,hv⟩:=hI
   dsimp only at hi hc hv hz
   subst hi
   obtain ⟨s,hs⟩ : ∃ s,s=(((vg z k).setWidth 64)+((vg y k).setWidth 64))+c:=⟨_,rfl⟩
   have hxk:=(vg z k).isLt
   have hyk:=(vg y k).isLt
   have es:s.toNat=(vg z k).toNat+(vg y k).toNat+c.toNat:=by
    rw [hs]; simp only [BitVec.toNat_add,sw64]; omega
   refine ⟨(s >>> 32,((k+1:Nat):Int),vp z k ((s &&& 4294967295#64).setWidth 32)),?_,rfl,?_,?_,?_⟩
   ·unfold halberdref9_plus.b0
    dsimp only
    simp only [Int.toNat_natCast]
    refine if_i (by omega) (if_i (by omega) (if_i (by omega) (ltt_i fun v hv=>if_i (by omega) (ltt_i fun v2 hv2=>ltt_i fun v3 hv3=>?_))))
    rw [← hs] at hv
    rw [hv3,hv2,hv,w64_s (by omega)]
   ·dsimp only; rw [shr32w,es]; omega
   ·intro j h1 h2
    dsimp only
    rw [wv_vp (by omega) h2,if_neg (by omega)]
    exact hz j (by omega) h2
   ·dsimp only
    rw [pv_vp1 (by omega),pow_s (2 ^ 32) k]
    refine step_up ?_ hv
    rw [low32,shr32w,es]
    have:(vg z k).toNat=wv x k:=hz k (Nat.le_refl _) (by omega)
    rw [this]
    have:(vg y k).toNat=wv y k:=rfl
    rw [this]
    omega)
  (fun s hI=>by
   obtain ⟨c,i,z⟩:=s
   obtain ⟨hi,hc,hz,hv⟩:=hI
   dsimp only at hi hc hv
   subst hi
   exact ⟨(c,z),by unfold halberdref9_plus.b0; exact if_n (by dsimp only; omega) rfl,hc,hv⟩)
 refine ⟨(t.2,t.1),bind_i h1 rfl,?_,h2.1⟩
 have e:(2 ^ 32:Nat) ^ 8=2 ^ 256:=by decide
 have:=h2.2
 rw [e] at this
 unfold n8
 rw [Nat.mul_comm (2 ^ 256)]; exact this
theorem ref_minus_ex (x y:Vx 32 8) : ∃ r,halberdref9_minus x y=some r ∧ ∃ b,b≤1∧n8 r+n8 y=n8 x+2 ^ 256 * b:=by
 obtain ⟨t,h1,h2⟩:=loop_inv (body:=halberdref9_minus.b0 y) (s0:=(0#64,0,x)) 8
  (fun k s=>s.2.1=(k:Int)∧s.1.toNat≤1∧(∀ j,k≤j → j<8 → wv s.2.2 j=wv x j)∧pv (2 ^ 32) (wv s.2.2) k+pv (2 ^ 32) (wv y) k=pv (2 ^ 32) (wv x) k+s.1.toNat * (2 ^ 32) ^ k)
  (fun t => ∃ b,b≤1∧pv (2 ^ 32) (wv t) 8+pv (2 ^ 32) (wv y) 8=pv (2 ^ 32) (wv x) 8+b * (2 ^ 32) ^ 8) (by decide)
  ⟨rfl,Nat.zero_le _,fun _ _ _=>rfl,rfl⟩
  (fun k s hk hI=>by
   obtain ⟨c,i,z⟩:=s
   obtain ⟨hi,hc,hz,hv⟩:=hI
   dsimp only at hi hc hv hz
   subst hi
   obtain ⟨s,hs⟩ : ∃ s,s=(((vg z k).setWidth 64) - ((vg y k).setWidth 64)) - c:=⟨_,rfl⟩
   have hxk:=(vg z k).isLt
   have hyk:=(vg y k).isLt
   have es:s.toNat=((vg z k).toNat+2 ^ 64 - (vg y k).toNat - c.toNat) % 2 ^ 64:=by
    rw [hs]; simp only [BitVec.toNat_sub,sw64]; omega
   have e63:(s >>> 63).toNat=s.toNat / 2 ^ 63:=by rw [BitVec.toNat_ushiftRight,Nat.shiftRight_eq_div_pow]
   refine ⟨(s >>> 63,((k+1:Nat):Int),vp z k ((s &&& 4294967295#64).setWidth 32)),?_,rfl,?_,?_,?_⟩
   ·unfold halberdref9_minus.b0
    dsimp only
    simp only [Int.toNat_natCast]
    refine if_i (by omega) (if_i (by omega) (if_i (by omega) (ltt_i fun v hv=>if_i (by omega) (ltt_i fun v2 hv2=>ltt_i fun v3 hv3=>?_))))
    rw [← hs] at hv
    rw [hv3,hv2,hv,w64_s (by omega)]
   ·dsimp only; rw [e63,es]; omega
   ·intro j h1 h2
    dsimp only
    rw [wv_vp (by omega) h2,if_neg (by omega)]
    exact hz j (by omega) h2
   ·dsimp only
    rw [pv_vp1 (by omega),pow_s (2 ^ 32) k]
    refine step_dn ?_ hv
    rw [low32,e63,es]
    have:(vg z k).toNat=wv x k:=hz k (Nat.le_refl _) (by omega)
    rw [this] at hxk ⊢
    have:(vg y k).toNat=wv y k:=rfl
    rw [this] at hyk ⊢
    omega)
  (fun s hI=>by
   obtain ⟨c,i,z⟩:=s
   obtain ⟨hi,hc,hz,hv⟩:=hI
   dsimp only at hi hc hv
   subst hi
   exact ⟨z,by unfold halberdref9_minus.b0; exact if_n (by dsimp only; omega) rfl,c.toNat,hc,hv⟩)
 obtain ⟨b,hb,e2⟩:=h2
 refine ⟨t,bind_i h1 rfl,b,hb,?_⟩
 have e:(2 ^ 32:Nat) ^ 8=2 ^ 256:=by decide
 rw [e] at e2
 unfold n8
 rw [Nat.mul_comm (2 ^ 256)]; exact e2
theorem pv_lt_top {B:Nat} {f g:Nat → Nat} (k:Nat) : ∀ d,(∀ j,k≤j → j<k+d → f j=g j) → (pv B f (k+d)<pv B g (k+d) ↔ pv B f k<pv B g k)
 | 0,_=>Iff.rfl
 | d+1,h=>by
  show pv B f (k+d)+f (k+d) * B ^ (k+d)<pv B g (k+d)+g (k+d) * B ^ (k+d) ↔ _
  rw [h (k+d) (by omega) (by omega), ← pv_lt_top k d fun j h1 h2=>h j h1 (by omega)]
  omega
theorem pv_lt_dig {B:Nat} {f g:Nat → Nat} (hf : ∀ j,f j<B) (hg : ∀ j,g j<B) {k:Nat} (hne:f k ≠ g k):pv B f (k+1)<pv B g (k+1) ↔ f k<g k:=by
 show pv B f k+f k * B ^ k<pv B g k+g k * B ^ k ↔ _
 have h1:=pv_lt hf k
 have h2:=pv_lt hg k
 constructor
 ·intro h
  by_cases hlt:f k<g k
  ·exact hlt
  ·have:=Nat.mul_le_mul_right (B ^ k) (show g k+1≤f k by omega)
   rw [Nat.add_mul] at this
   omega
 ·intro h
  have:=Nat.mul_le_mul_right (B ^ k) (show f k+1≤g k by omega)
  rw [Nat.add_mul] at this
  omega
theorem ref_less_eq (x y:Vx 32 8):halberdref9_less x y=some (decide (n8 x<n8 y)):=by
 have : ∃ t,loop (halberdref9_less.b0 x y) BIG 7=some t∧(match t with | .inl _=>n8 x=n8 y | .inr b=>b=decide (n8 x<n8 y)):=by
  refine loop_ex (body:=halberdref9_less.b0 x y) (fun r => ∃ t,r=some t∧(match t with | .inl _=>n8 x=n8 y | .inr b=>b=decide (n8 x<n8 y))) 8 BIG
   (fun d s=>s=(d:Int) - 1∧d≤8 ∧ ∀ j,d≤j → j<8 → wv x j=wv y j) 7 ⟨rfl,by omega,fun j h1 h2=>by omega⟩ (by decide) ?_ ?_
  ·rintro k s ⟨hs,hk,he⟩
   have hs':s=(k:Int):=by omega
   subst hs'
   unfold halberdref9_less.b0
   simp only [Int.toNat_natCast]
   rw [if_pos (by omega:(0:Int)≤k),if_pos (by omega:(0:Int)≤k∧(k:Int)<8),if_pos (by omega:(0:Int)≤k∧(k:Int)<8)]
   by_cases hne:vg x k ≠ vg y k
   ·rw [if_pos hne,if_pos (by omega:(0:Int)≤k∧(k:Int)<8),if_pos (by omega:(0:Int)≤k∧(k:Int)<8)]
    refine .inr ⟨_,rfl,_,rfl,?_⟩
    have hne':wv x k ≠ wv y k:=fun h=>hne (BitVec.eq_of_toNat_eq h)
    have h1:n8 x<n8 y ↔ wv x k<wv y k:=by
     rw [← pv_lt_dig (wv_lt x) (wv_lt y) hne']
     have:=pv_lt_top (B:=2 ^ 32) (f:=wv x) (g:=wv y) (k+1) (7 - k) fun j h1 h2=>he j h1 (by omega)
     rw [show k+1+(7 - k)=8 by omega] at this
     exact this
    exact decide_eq_decide.2 h1.symm
   ·rw [if_neg hne]
    refine .inl ⟨_,rfl,?_,by omega,fun j h1 h2=>?_⟩
    ·rw [w64_id (by omega) (by omega)]
    ·by_cases hj:j=k
     ·subst hj
      have:vg x j=vg y j:=by simpa using hne
      unfold wv; rw [this]
     ·exact he j (by omega) h2
  ·rintro s ⟨hs,_,he⟩
   refine ⟨.inl (),?_,_,rfl,?_⟩
   ·unfold halberdref9_less.b0
    exact if_n (by omega) rfl
   ·exact pv_congr fun j hj=>he j (Nat.zero_le _) hj
 obtain ⟨t,h1,h2⟩:=this
 unfold halberdref9_less
 refine bind_i h1 ?_
 cases t with
 | inl u =>
  dsimp only at h2 ⊢
  have : ¬ n8 x<n8 y:=by omega
  simp [this]
 | inr b=>dsimp only at h2 ⊢; rw [h2]
end Go.Kx
end

section
namespace Go.Kx
open Go Go.Proofs
theorem mac32 (t c:BitVec 64) (a b:BitVec 32) (ht:t.toNat<2 ^ 32) (hc:c.toNat<2 ^ 32):((t+(a.setWidth 64) * (b.setWidth 64))+c).toNat=a.toNat * b.toNat+t.toNat+c.toNat:=by
 have hm:=mul_lt32 a.isLt b.isLt
 simp only [BitVec.toNat_add,BitVec.toNat_mul,sw64]
 generalize a.toNat * b.toNat=p at *
 omega
theorem mac32q (t c q:BitVec 64) (b:BitVec 32) (ht:t.toNat<2 ^ 32) (hc:c.toNat<2 ^ 32) (hq:q.toNat<2 ^ 32):((t+q * (b.setWidth 64))+c).toNat=q.toNat * b.toNat+t.toNat+c.toNat:=by
 have hm:=mul_lt32 hq b.isLt
 simp only [BitVec.toNat_add,BitVec.toNat_mul,sw64]
 generalize q.toNat * b.toNat=p at *
 omega
theorem mont_b1 (x y:Vx 32 8) (i:Nat) (hi:i<8) (t:Vx 64 10) (ht : ∀ j,j<8 → wv t j<2 ^ 32) :
  ∃ r,loop (halberdref9_mont.b1 x y ((i:Int),t)) BIG (0#64,0,t)=some r∧r.1.toNat<2 ^ 32∧(∀ j,j<8 → wv r.2 j<2 ^ 32)∧wv r.2 8=wv t 8 ∧
   pv (2 ^ 32) (wv r.2) 8+r.1.toNat * (2 ^ 32) ^ 8=pv (2 ^ 32) (wv t) 8+pv (2 ^ 32) (wv x) 8 * wv y i:=by
 refine loop_inv 8 (fun k s=>s.2.1=(k:Int)∧s.1.toNat<2 ^ 32∧(∀ j,k≤j → j<10 → wv s.2.2 j=wv t j)∧(∀ j,j<8 → wv s.2.2 j<2 ^ 32) ∧
   pv (2 ^ 32) (wv s.2.2) k+s.1.toNat * (2 ^ 32) ^ k=pv (2 ^ 32) (wv t) k+pv (2 ^ 32) (wv x) k * wv y i)
  _ (by decide) ⟨rfl,(by decide:(0#64).toNat<2 ^ 32),fun _ _ _=>rfl,ht,by simp [pv]⟩ ?_ ?_
 ·rintro k ⟨c,i',v⟩ hk ⟨hi',hc,hv,hv32,he⟩
  dsimp only at hi' hc hv hv32 he
  subst hi'
  obtain ⟨s,hs⟩ : ∃ s,s=((vg v k)+(((vg x k).setWidth 64) * ((vg y i).setWidth 64)))+c:=⟨_,rfl⟩
  have es:s.toNat=wv x k * wv y i+wv v k+c.toNat:=by rw [hs]; exact mac32 _ _ _ _ (hv32 k hk) hc
  refine ⟨(s >>> 32,((k+1:Nat):Int),vp v k (s &&& 4294967295#64)),?_,rfl,?_,?_,?_,?_⟩
  ·unfold halberdref9_mont.b1
   dsimp only
   simp only [Int.toNat_natCast]
   refine if_i (by omega) (if_i (by omega) (if_i (by omega) (if_i (by omega) (ltt_i fun v1 hv1=>if_i (by omega) (ltt_i fun v2 hv2=>ltt_i fun v3 hv3=>?_)))))
   rw [← hs] at hv1
   rw [hv3,hv2,hv1,w64_s (by omega)]
  ·dsimp only; rw [shr32w]; have:=s.isLt; omega
  ·intro j h1 h2
   dsimp only
   rw [wv_vp (by omega) h2,if_neg (by omega)]
   exact hv j (by omega) h2
  ·intro j hj
   dsimp only
   rw [wv_vp (by omega) (by omega)]
   split
   ·rw [and32w]; omega
   ·exact hv32 j hj
  ·dsimp only
   rw [pv_vp1 (by omega),pow_s (2 ^ 32) k]
   have hvk:wv v k=wv t k:=hv k (Nat.le_refl _) (by omega)
   have e':(s &&& 4294967295#64).toNat+2 ^ 32 * (s >>> 32).toNat=wv x k * wv y i+wv t k+c.toNat:=by
    rw [and32w,shr32w, ← hvk, ← es]; omega
   rw [step_mul e' he]
   show _=pv (2 ^ 32) (wv t) k+wv t k * (2 ^ 32) ^ k+(pv (2 ^ 32) (wv x) k+wv x k * (2 ^ 32) ^ k) * wv y i
   grind
 ·rintro ⟨c,i',v⟩ ⟨hi',hc,hv,hv32,he⟩
  dsimp only at hi' hc hv hv32 he
  subst hi'
  exact ⟨(c,v),by unfold halberdref9_mont.b1; exact if_n (by dsimp only; omega) rfl,hc,hv32,hv 8 (by omega) (by omega),he⟩
theorem mont_b2 (M:Vx 32 8) (q c0:BitVec 64) (t:Vx 64 10) (hq:q.toNat<2 ^ 32) (hc0:c0.toNat<2 ^ 32) (ht : ∀ j,j<8 → wv t j<2 ^ 32) :
  ∃ r,loop (halberdref9_mont.b2 M q) BIG (c0,1,t)=some r∧r.1.toNat<2 ^ 32∧(∀ j,j<8 → wv r.2 j<2 ^ 32)∧wv r.2 8=wv t 8∧wv r.2 9=wv t 9 ∧
   pv (2 ^ 32) (wv r.2) 7+r.1.toNat * (2 ^ 32) ^ 7=pv (2 ^ 32) (fun j=>wv t (j+1)) 7+pv (2 ^ 32) (fun j=>wv M (j+1)) 7 * q.toNat+c0.toNat:=by
 refine loop_inv 7 (fun k s=>s.2.1=((k+1:Nat):Int)∧s.1.toNat<2 ^ 32∧(∀ j,k≤j → j<10 → wv s.2.2 j=wv t j)∧(∀ j,j<8 → wv s.2.2 j<2 ^ 32) ∧
   pv (2 ^ 32) (wv s.2.2) k+s.1.toNat * (2 ^ 32) ^ k=pv (2 ^ 32) (fun j=>wv t (j+1)) k+pv (2 ^ 32) (fun j=>wv M (j+1)) k * q.toNat+c0.toNat)
  _ (by decide) ⟨rfl,hc0,fun _ _ _=>rfl,ht,by simp [pv]⟩ ?_ ?_
 ·rintro k ⟨c,i',v⟩ hk ⟨hi',hc,hv,hv32,he⟩
  dsimp only at hi' hc hv hv32 he
  subst hi'
  obtain ⟨s,hs⟩ : ∃ s,s=((vg v (k+1))+(q * ((vg M (k+1)).setWidth 64)))+c:=⟨_,rfl⟩
  have es:s.toNat=q.toNat * wv M (k+1)+wv v (k+1)+c.toNat:=by rw [hs]; exact mac32q _ _ _ _ (hv32 (k+1) (by omega)) hc hq
  refine ⟨(s >>> 32,((k+1+1:Nat):Int),vp v k (s &&& 4294967295#64)),?_,rfl,?_,?_,?_,?_⟩
  ·unfold halberdref9_mont.b2
   dsimp only
   have ek:w64 (((k+1:Nat):Int) - 1)=(k:Int):=by rw [w64_id (by omega) (by omega)]; omega
   rw [ek]
   simp only [Int.toNat_natCast]
   refine if_i (by omega) (if_i (by omega) (if_i (by omega) (ltt_i fun v1 hv1=>if_i (by omega) (ltt_i fun v2 hv2=>ltt_i fun v3 hv3=>?_))))
   rw [← hs] at hv1
   rw [hv3,hv2,hv1,w64_s (by omega)]
  ·dsimp only; rw [shr32w]; have:=s.isLt; omega
  ·intro j h1 h2
   dsimp only
   rw [wv_vp (by omega) h2,if_neg (by omega)]
   exact hv j (by omega) h2
  ·intro j hj
   dsimp only
   rw [wv_vp (by omega) (by omega)]
   split
   ·rw [and32w]; omega
   ·exact hv32 j hj
  ·dsimp only
   rw [pv_vp1 (by omega),pow_s (2 ^ 32) k]
   have hvk:wv v (k+1)=wv t (k+1):=hv (k+1) (by omega) (by omega)
   have e':(s &&& 4294967295#64).toNat+2 ^ 32 * (s >>> 32).toNat=q.toNat * wv M (k+1)+wv t (k+1)+c.toNat:=by
    rw [and32w,shr32w, ← hvk, ← es]; omega
   rw [step_mul e' he]
   show _=pv (2 ^ 32) (fun j=>wv t (j+1)) k+wv t (k+1) * (2 ^ 32) ^ k+(pv (2 ^ 32) (fun j=>wv M (j+1)) k+wv M (k+1) * (2 ^ 32) ^ k) * q.toNat+c0.toNat
   grind
 ·rintro ⟨c,i',v⟩ ⟨hi',hc,hv,hv32,he⟩
  dsimp only at hi' hc hv hv32 he
  subst hi'
  exact ⟨(c,v),by unfold halberdref9_mont.b2; exact if_n (by dsimp only; omega) rfl,hc,hv32,hv 8 (by omega) (by omega),hv 9 (by omega) (by omega),he⟩
theorem round_eq8 {B X Y Mt T T' U m M0 Ms t0 ts c2 r4 r42 r10 r102 c v3:Nat}
  (hM:Mt=M0+B * Ms) (ht:U=t0+B * ts+(r4+B * r42) * B ^ 8)
  (hU:U=T+X * Y) (hc2:B * c2=m * M0+t0) (h2:v3+c * B ^ 7=ts+Ms * m+c2) (h10:r10+B * r102=r4+c) (hT:T'=v3+r10 * B ^ 7+(r42+r102) * B ^ 8) :
  B * T'=T+X * Y+m * Mt:=by
 subst hM hT
 exact Int.ofNat_inj.1 (by
  simp only [Int.natCast_add,Int.natCast_mul,Int.natCast_pow]
  replace ht:=congrArg (Nat.cast (R:=Int)) ht
  replace hU:=congrArg (Nat.cast (R:=Int)) hU
  replace hc2:=congrArg (Nat.cast (R:=Int)) hc2
  replace h2:=congrArg (Nat.cast (R:=Int)) h2
  replace h10:=congrArg (Nat.cast (R:=Int)) h10
  simp only [Int.natCast_add,Int.natCast_mul,Int.natCast_pow] at ht hU hc2 h2 h10
  generalize (B:Int)=B at *
  generalize (X:Int)=X at *
  generalize (Y:Int)=Y at *
  generalize (T:Int)=T at *
  generalize (U:Int)=U at *
  generalize (m:Int)=m at *
  generalize (M0:Int)=M0 at *
  generalize (Ms:Int)=Ms at *
  generalize (t0:Int)=t0 at *
  generalize (ts:Int)=ts at *
  generalize (c2:Int)=c2 at *
  generalize (r4:Int)=r4 at *
  generalize (r42:Int)=r42 at *
  generalize (r10:Int)=r10 at *
  generalize (r102:Int)=r102 at *
  generalize (c:Int)=c at *
  generalize (v3:Int)=v3 at *
  obtain rfl:r4=r10+B * r102 - c:=by rw [h10,Int.add_sub_cancel]
  obtain rfl:ts=v3+c * B ^ 7 - Ms * m - c2:=by rw [h2]; omega
  obtain rfl:t0=B * c2 - m * M0:=by rw [hc2]; omega
  obtain rfl:T=U - X * Y:=by rw [hU]; omega
  rw [ht]
  clear ht hU hc2 h2 h10
  grind)
end Go.Kx
end

section
namespace Go.Kx
open Go Go.Proofs
open Vector (replicate)
theorem mont_b0 (M:Vx 32 8) (inv:BitVec 64) (hinv:(wv M 0 * inv.toNat+1) % 2 ^ 32=0) (x y:Vx 32 8) (i:Nat) (hi:i<8) (t:Vx 64 10)
  (ht : ∀ j,j<8 → wv t j<2 ^ 32) (ht8:wv t 8≤2) :
  ∃ t',halberdref9_mont.b0 x y M inv ((i:Int),t)=some (.inl (((i+1:Nat):Int),t'))∧(∀ j,j<8 → wv t' j<2 ^ 32)∧wv t' 8≤2 ∧
   ∃ m,m<2 ^ 32∧2 ^ 32 * pv (2 ^ 32) (wv t') 9=pv (2 ^ 32) (wv t) 9+n8 x * wv y i+m * n8 M:=by
 obtain ⟨⟨c,u⟩,hl1,hc,hu,hu8,e1⟩:=mont_b1 x y i hi t ht
 dsimp only at hc hu hu8 e1
 obtain ⟨s2,hs2⟩ : ∃ s2,s2=(vg u 8)+c:=⟨_,rfl⟩
 have es2:s2.toNat=wv u 8+c.toNat:=by
  rw [hs2,BitVec.toNat_add]
  have:(vg u 8).toNat=wv u 8:=rfl
  rw [this,hu8]; omega
 obtain ⟨w,hw⟩ : ∃ w,w=vp (vp u 8 (s2 &&& 4294967295#64)) 9 (s2 >>> 32):=⟨_,rfl⟩
 have hw8:wv w 8=s2.toNat % 2 ^ 32:=by rw [hw,wv_vp (by decide) (by decide),if_neg (by decide),wv_vp (by decide) (by decide),if_pos rfl,and32w]
 have hw9:wv w 9=s2.toNat / 2 ^ 32:=by rw [hw,wv_vp (by decide) (by decide),if_pos rfl,shr32w]
 have hwj : ∀ j,j<8 → wv w j=wv u j:=fun j hj=>by rw [hw,wv_vp (by decide) (by omega),if_neg (by omega),wv_vp (by decide) (by omega),if_neg (by omega)]
 have hw32 : ∀ j,j<8 → wv w j<2 ^ 32:=fun j hj=>by rw [hwj j hj]; exact hu j hj
 obtain ⟨q,hq⟩ : ∃ q,q=((vg w 0) * inv) &&& 4294967295#64:=⟨_,rfl⟩
 have eq:q.toNat=(wv w 0 * inv.toNat) % 2 ^ 32:=by
  rw [hq,and32w,BitVec.toNat_mul]
  have:(vg w 0).toNat=wv w 0:=rfl
  rw [this]; omega
 have hq32:q.toNat<2 ^ 32:=by rw [eq]; omega
 obtain ⟨c0,hc0⟩ : ∃ c0,c0=((vg w 0)+(q * ((vg M 0).setWidth 64))) >>> 32:=⟨_,rfl⟩
 have ec0:2 ^ 32 * c0.toNat=q.toNat * wv M 0+wv w 0:=by
  have hz:c0=(((vg w 0)+(q * ((vg M 0).setWidth 64)))+0#64) >>> 32:=by rw [hc0]; simp
  have h1:=mac32q (vg w 0) 0#64 q (vg M 0) (hw32 0 (by decide)) (by decide) hq32
  have hd:(q.toNat * wv M 0+wv w 0) % 2 ^ 32=0:=by
   rw [eq,Nat.add_mod,Nat.mod_mul_mod, ← Nat.add_mod]
   have:wv w 0 * inv.toNat * wv M 0+wv w 0=wv w 0 * (wv M 0 * inv.toNat+1):=by grind
   rw [this,Nat.mul_mod,hinv,Nat.mul_zero,Nat.zero_mod]
  have h2:(((vg w 0)+(q * ((vg M 0).setWidth 64)))+0#64).toNat=q.toNat * wv M 0+wv w 0:=h1
  rw [hz,shr32w,h2]
  omega
 have hc0l:c0.toNat<2 ^ 32:=by
  rw [hc0,shr32w]; have:=((vg w 0)+(q * ((vg M 0).setWidth 64))).isLt; omega
 obtain ⟨⟨c',v⟩,hl2,hc',hv,hv8,hv9,e2⟩:=mont_b2 M q c0 w hq32 hc0l hw32
 dsimp only at hc' hv hv8 hv9 e2
 obtain ⟨s4,hs4⟩ : ∃ s4,s4=(vg v 8)+c':=⟨_,rfl⟩
 have es4:s4.toNat=wv w 8+c'.toNat:=by
  rw [hs4,BitVec.toNat_add]
  have:(vg v 8).toNat=wv v 8:=rfl
  rw [this,hv8,hw8]; omega
 have hf8:(vg (vp v 7 (s4 &&& 4294967295#64)) 9+(s4 >>> 32)).toNat=s2.toNat / 2 ^ 32+s4.toNat / 2 ^ 32:=by
  rw [BitVec.toNat_add,shr32w]
  have:(vg (vp v 7 (s4 &&& 4294967295#64)) 9).toNat=s2.toNat / 2 ^ 32:=by
   show wv _ 9=_
   rw [wv_vp (by decide) (by decide),if_neg (by decide),hv9,hw9]
  rw [this]
  have:=s4.isLt
  omega
 refine ⟨vp (vp (vp v 7 (s4 &&& 4294967295#64)) 8 ((vg (vp v 7 (s4 &&& 4294967295#64)) 9)+(s4 >>> 32))) 9 0#64,?_,?_,?_,q.toNat,hq32,?_⟩
 ·unfold halberdref9_mont.b0
  dsimp only
  refine if_i (by omega) (bind_i hl1 (ltt_i fun v1 hv1=>ltt_i fun v2 hv2=>ltt_i fun v3 hv3=>ltt_i fun v4 hv4=>?_))
  rw [← hs2] at hv1
  subst hv1
  rw [hv2] at hv3 hv4 ⊢
  rw [← hw] at hv3 hv4 ⊢
  rw [← hq] at hv3
  rw [hv3] at hv4 ⊢
  rw [← hc0] at hv4
  rw [hv4]
  refine bind_i hl2 (ltt_i fun v5 hv5=>ltt_i fun v6 hv6=>ltt_i fun v7 hv7=>ltt_i fun v8 hv8=>?_)
  rw [← hs4] at hv5
  rw [hv8,hv7,hv6,hv5,w64_s (by omega)]
 ·intro j hj
  rw [wv_vp (by decide) (by omega),if_neg (by omega),wv_vp (by decide) (by omega),if_neg (by omega),wv_vp (by decide) (by omega)]
  split
  ·rw [and32w]; omega
  ·exact hv j hj
 ·rw [wv_vp (by decide) (by decide),if_neg (by decide),wv_vp (by decide) (by decide),if_pos rfl,hf8]
  rw [hw8] at es4
  omega
 ·have hT:pv (2 ^ 32) (wv (vp (vp (vp v 7 (s4 &&& 4294967295#64)) 8 ((vg (vp v 7 (s4 &&& 4294967295#64)) 9)+(s4 >>> 32))) 9 0#64)) 9 =
    pv (2 ^ 32) (wv v) 7+(s4.toNat % 2 ^ 32) * (2 ^ 32) ^ 7+(s2.toNat / 2 ^ 32+s4.toNat / 2 ^ 32) * (2 ^ 32) ^ 8:=by
   rw [pv_vp (by decide) (by decide),pv_vp1 (by decide),pv_vp1 (by decide),hf8,and32w]
  have hM:n8 M=wv M 0+2 ^ 32 * pv (2 ^ 32) (fun j=>wv M (j+1)) 7:=pv_shift 7
  have hws:pv (2 ^ 32) (wv w) 8=wv w 0+2 ^ 32 * pv (2 ^ 32) (fun j=>wv w (j+1)) 7:=pv_shift 7
  have hwu:pv (2 ^ 32) (wv w) 8=pv (2 ^ 32) (wv u) 8:=pv_congr hwj
  have e4:s2.toNat % 2 ^ 32+2 ^ 32 * (s2.toNat / 2 ^ 32)=wv t 8+c.toNat:=by rw [Nat.mod_add_div,es2,hu8]
  have e10:s4.toNat % 2 ^ 32+2 ^ 32 * (s4.toNat / 2 ^ 32)=s2.toNat % 2 ^ 32+c'.toNat:=by rw [Nat.mod_add_div,es4,hw8]
  have ht9:pv (2 ^ 32) (wv t) 9=pv (2 ^ 32) (wv t) 8+wv t 8 * (2 ^ 32) ^ 8:=rfl
  have hx:n8 x=pv (2 ^ 32) (wv x) 8:=rfl
  generalize s2.toNat % 2 ^ 32=r4 at *
  generalize s2.toNat / 2 ^ 32=r42 at *
  generalize s4.toNat % 2 ^ 32=r10 at *
  generalize s4.toNat / 2 ^ 32=r102 at *
  clear hs4 hs2 eq es2 es4 hc0 hq hw hw32 hwj hw8 hw9 hf8 hv hu hc hc' hc0l hq32 hinv ht
  generalize (2 ^ 32:Nat)=B at *
  refine round_eq8 (B:=B) (U:=wv w 0+B * pv B (fun j=>wv w (j+1)) 7+(r4+B * r42) * B ^ 8) hM rfl ?_ ec0 e2 e10 hT
  rw [← hws,hwu,e4,ht9,hx,Nat.add_mul]
  have:=e1
  omega
theorem mont_loop (M:Vx 32 8) (inv:BitVec 64) (hinv:(wv M 0 * inv.toNat+1) % 2 ^ 32=0) (x y:Vx 32 8) :
  ∃ t,loop (halberdref9_mont.b0 x y M inv) BIG (0,replicate 10 0#64)=some t∧(∀ j,j<8 → wv t j<2 ^ 32) ∧ ∃ q,q<2 ^ 256∧(pv (2 ^ 32) (wv t) 8+wv t 8 * 2 ^ 256) * 2 ^ 256=n8 x * n8 y+q * n8 M:=by
 obtain ⟨t,h1,h32,q,hq,e⟩:=loop_inv (body:=halberdref9_mont.b0 x y M inv) (s0:=(0,replicate 10 0#64)) 8
  (fun k s=>s.1=(k:Int)∧(∀ j,j<8 → wv s.2 j<2 ^ 32)∧wv s.2 8≤2 ∧ ∃ q,q<(2 ^ 32) ^ k∧pv (2 ^ 32) (wv s.2) 9 * (2 ^ 32) ^ k=n8 x * pv (2 ^ 32) (wv y) k+q * n8 M)
  (fun t=>(∀ j,j<8 → wv t j<2 ^ 32) ∧ ∃ q,q<(2 ^ 32) ^ 8∧pv (2 ^ 32) (wv t) 9 * (2 ^ 32) ^ 8=n8 x * pv (2 ^ 32) (wv y) 8+q * n8 M) (by decide)
  ⟨rfl,fun j hj=>by
   have:j=0 ∨ j=1 ∨ j=2 ∨ j=3 ∨ j=4 ∨ j=5 ∨ j=6 ∨ j=7:=by omega
   rcases this with rfl | rfl | rfl | rfl | rfl | rfl | rfl | rfl <;> decide,(by decide:wv (replicate 10 0#64) 8≤2),0,by decide,by
   have:pv (2 ^ 32) (wv (replicate 10 0#64)) 9=0:=by decide
   dsimp only
   rw [this]; simp [pv]⟩
  (fun k s hk hI=>by
   obtain ⟨i,t⟩:=s
   obtain ⟨hi,ht,ht8,q,hq,he⟩:=hI
   dsimp only at hi ht ht8 hq he
   subst hi
   obtain ⟨t',h1,h32,h8,m,hm,e⟩:=mont_b0 M inv hinv x y k hk t ht ht8
   refine ⟨_,h1,rfl,h32,h8,q+m * (2 ^ 32) ^ k,?_,?_⟩
   ·rw [pow_s (2 ^ 32) k]
    generalize hBB:(2 ^ 32:Nat)=B at *
    have:=Nat.mul_le_mul_right (B ^ k) (Nat.succ_le_of_lt hm)
    rw [Nat.succ_mul] at this
    rw [Nat.mul_comm (B ^ k) B]
    omega
   ·dsimp only
    rw [pow_s (2 ^ 32) k]
    show _=n8 x * (pv (2 ^ 32) (wv y) k+wv y k * (2 ^ 32) ^ k)+_
    exact outer_eq he e)
  (fun s hI=>by
   obtain ⟨i,t⟩:=s
   obtain ⟨hi,ht,ht8,q,hq,he⟩:=hI
   dsimp only at hi ht ht8 hq he
   subst hi
   exact ⟨t,by unfold halberdref9_mont.b0; exact if_n (by dsimp only; omega) rfl,ht,q,hq,he⟩)
 refine ⟨t,h1,h32,q,?_,?_⟩
 ·rw [show (2 ^ 32:Nat) ^ 8=2 ^ 256 by decide] at hq; exact hq
 ·have h9:pv (2 ^ 32) (wv t) 9=pv (2 ^ 32) (wv t) 8+wv t 8 * (2 ^ 32) ^ 8:=rfl
  rw [h9,show (2 ^ 32:Nat) ^ 8=2 ^ 256 by decide] at e
  exact e
theorem mont_fill (t:Vx 64 10):loop (halberdref9_mont.b3 t) BIG (0,replicate 8 0#32)=some (Vector.ofFn fun i:Fin 8=>(vg t i.val).setWidth 32):=by
 refine loop_fill (n:=8) (replicate 8 0#32) (fun k=>(vg t k).setWidth 32) id (by decide) (fun k v hk _=>?_) (fun v=>?_)
 ·unfold halberdref9_mont.b3
  dsimp only
  simp only [Int.toNat_natCast]
  refine if_i (by omega) (if_i (by omega) (if_i (by omega) (ltt_i fun v1 hv1=>ltt_i fun v2 hv2=>?_)))
  rw [hv2,hv1,w64_s (by omega)]
 ·unfold halberdref9_mont.b3
  exact if_n (by dsimp only; omega) rfl
theorem ref_mont_ex (which:Int) (M:Vx 32 8) (inv:BitVec 64) (hM:halberdref9_modulus which=some M) (hi:halberdref9_inverse which=some inv) (hinv:(wv M 0 * inv.toNat+1) % 2 ^ 32=0)
  (x y:Vx 32 8) (hxy:n8 x * n8 y<n8 M * 2 ^ 256) :
  ∃ r,halberdref9_mont which x y=some r∧n8 r<n8 M∧(n8 r * 2 ^ 256) % n8 M=(n8 x * n8 y) % n8 M:=by
 obtain ⟨t,h1,h32,q,hq,e⟩:=mont_loop M inv hinv x y
 obtain ⟨z,hz⟩ : ∃ z:Vx 32 8,z=Vector.ofFn fun i:Fin 8=>(vg t i.val).setWidth 32:=⟨_,rfl⟩
 have ez:n8 z=pv (2 ^ 32) (wv t) 8:=by
  refine pv_congr fun j hj=>?_
  rw [hz]
  unfold wv
  rw [vg_ofFn hj,BitVec.toNat_setWidth,Nat.mod_eq_of_lt]
  exact h32 j hj
 rw [← ez] at e
 obtain ⟨w,hs,b,lb,es⟩:=ref_minus_ex z M
 have hzl:=n8_lt z
 have hwl:=n8_lt w
 have hMl:=n8_lt M
 have hlt:n8 z+wv t 8 * 2 ^ 256<2 * n8 M:=by
  have:q * n8 M≤2 ^ 256 * n8 M:=Nat.mul_le_mul_right _ (Nat.le_of_lt hq)
  have h3:(n8 z+wv t 8 * 2 ^ 256) * 2 ^ 256<(2 * n8 M) * 2 ^ 256:=by
   rw [e]
   generalize n8 x * n8 y=p at *
   generalize q * n8 M=p2 at *
   omega
  exact Nat.lt_of_mul_lt_mul_right h3
 have ht8:wv t 8≤1:=by omega
 have hgoal : ∀ r:Vx 32 8,(n8 r=n8 z+wv t 8 * 2 ^ 256 ∨ n8 r+n8 M=n8 z+wv t 8 * 2 ^ 256) → (n8 r * 2 ^ 256) % n8 M=(n8 x * n8 y) % n8 M:=fun r hr=>by
  have key:((n8 z+wv t 8 * 2 ^ 256) * 2 ^ 256) % n8 M=(n8 x * n8 y) % n8 M:=by rw [e,Nat.add_mul_mod_self_right]
  rcases hr with hr | hr
  ·rw [hr]; exact key
  ·rw [← hr,Nat.add_mul,Nat.add_mul_mod_self_left] at key
   exact key
 have hfill:=mont_fill t
 rw [← hz] at hfill
 unfold halberdref9_mont
 by_cases h8:(0#64).toNat<(vg t 8).toNat
 ·have h8':wv t 8=1:=by
   have:(vg t 8).toNat=wv t 8:=rfl
   have z0:(0#64).toNat=0:=rfl
   omega
  refine ⟨w,bind_i hM (bind_i hi (bind_i h1 (bind_i hfill (bind_i (v:=true) (if_i h8 rfl) (if_i rfl (bind_i hs rfl)))))),?_,hgoal w (.inr ?_)⟩
  ·omega
  ·omega
 ·have h8':wv t 8=0:=by
   have:(vg t 8).toNat=wv t 8:=rfl
   have z0:(0#64).toNat=0:=rfl
   omega
  by_cases hb:n8 z<n8 M
  ·refine ⟨z,bind_i hM (bind_i hi (bind_i h1 (bind_i hfill (bind_i (v:=false) (if_n h8 (bind_i (ref_less_eq z M) (by simp [hb]))) (if_n (by decide) rfl))))),hb,hgoal z (.inl ?_)⟩
   omega
  ·refine ⟨w,bind_i hM (bind_i hi (bind_i h1 (bind_i hfill (bind_i (v:=true) (if_n h8 (bind_i (ref_less_eq z M) (by simp [hb]))) (if_i rfl (bind_i hs rfl)))))),?_,hgoal w (.inr ?_)⟩
   ·omega
   ·omega
end Go.Kx
end

section
namespace Go.Nt
def Pr (p:Nat):Prop:=1<p ∧ ∀ d,d ∣ p → d=1 ∨ d=p
theorem Pr.dvd_mul {p a b:Nat} (hp:Pr p) (h:p ∣ a * b):p ∣ a ∨ p ∣ b:=by
 rcases hp.2 (Nat.gcd p a) (Nat.gcd_dvd_left p a) with h1 | h1
 ·exact .inr (Nat.Coprime.dvd_of_dvd_mul_left h1 h)
 ·exact .inl (h1 ▸ Nat.gcd_dvd_right p a)
theorem Pr.not_one {p:Nat} (hp:Pr p) : ¬ p ∣ 1:=fun h=>by
 have:=Nat.le_of_dvd (by decide) h
 have:=hp.1
 omega
def ch:Nat → Nat → Nat
 | _,0=>1
 | 0,_+1=>0
 | n+1,k+1=>ch n k+ch n (k+1)
theorem ch_0 (n:Nat):ch n 0=1:=by cases n <;> rfl
theorem ch_ss (n k:Nat):ch (n+1) (k+1)=ch n k+ch n (k+1):=rfl
theorem ch_gt : ∀ n k,n<k → ch n k=0
 | _,0,h=>by omega
 | 0,k+1,_=>rfl
 | n+1,k+1,h=>by rw [ch_ss,ch_gt n k (by omega),ch_gt n (k+1) (by omega)]
theorem ch_self : ∀ n,ch n n=1
 | 0=>rfl
 | n+1=>by rw [ch_ss,ch_self n,ch_gt n (n+1) (by omega)]
theorem ch_mul : ∀ n k,(k+1) * ch (n+1) (k+1)=(n+1) * ch n k
 | 0,0=>rfl
 | 0,k+1=>by
  rw [ch_ss,ch_gt 0 (k+1) (by omega),ch_gt 0 (k+1+1) (by omega)]
  simp
 | n+1,0=>by
  have h:=ch_mul n 0
  rw [ch_0,Nat.zero_add,Nat.one_mul,Nat.mul_one] at h
  rw [ch_ss,h]
  simp only [ch_0]
  omega
 | n+1,k+1=>by
  have h1:=ch_mul n k
  have h2:=ch_mul n (k+1)
  have e:(k+1+1) * ch (n+1) (k+1)=(k+1) * ch (n+1) (k+1)+ch (n+1) (k+1):=by
   rw [Nat.add_mul,Nat.one_mul]
  rw [ch_ss (n+1) (k+1),Nat.mul_add,h2,e,h1,ch_ss n k,Nat.add_mul (n+1) 1,Nat.one_mul,Nat.mul_add (n+1)]
  omega
def sm (f:Nat → Nat):Nat → Nat
 | 0=>0
 | n+1=>sm f n+f n
theorem sm_shift (f:Nat → Nat) : ∀ n,sm f (n+1)=f 0+sm (fun k=>f (k+1)) n
 | 0=>by simp [sm]
 | n+1=>by
  show sm f (n+1)+f (n+1)=_
  rw [sm_shift f n]
  simp only [sm]; omega
theorem sm_add (f g:Nat → Nat) : ∀ n,sm (fun k=>f k+g k) n=sm f n+sm g n
 | 0=>rfl
 | n+1=>by simp only [sm]; rw [sm_add f g n]; omega
theorem sm_mul (c:Nat) (f:Nat → Nat) : ∀ n,sm (fun k=>f k * c) n=sm f n * c
 | 0=>by simp [sm]
 | n+1=>by simp only [sm]; rw [sm_mul c f n,Nat.add_mul]
theorem sm_congr {f g:Nat → Nat} : ∀ {n},(∀ k,k<n → f k=g k) → sm f n=sm g n
 | 0,_=>rfl
 | n+1,h=>by simp only [sm]; rw [sm_congr fun k hk=>h k (by omega),h n (by omega)]
theorem sm_dvd {p:Nat} {f:Nat → Nat} : ∀ {n},(∀ k,k<n → p ∣ f k) → p ∣ sm f n
 | 0,_=>Nat.dvd_zero p
 | n+1,h=>Nat.dvd_add (sm_dvd fun k hk=>h k (by omega)) (h n (by omega))
theorem binom (x:Nat) : ∀ n,(x+1) ^ n=sm (fun k=>ch n k * x ^ k) (n+1)
 | 0=>by simp [sm,ch]
 | n+1=>by
  have ih:=binom x n
  rw [sm_shift]
  have h1:sm (fun k=>ch (n+1) (k+1) * x ^ (k+1)) (n+1)=sm (fun k=>ch n k * x ^ k * x) (n+1)+sm (fun k=>ch n (k+1) * x ^ (k+1)) (n+1):=by
   rw [← sm_add]
   refine sm_congr fun k _=>?_
   rw [ch_ss,Nat.add_mul,Nat.pow_succ,Nat.mul_assoc]
  rw [h1,sm_mul x (fun k=>ch n k * x ^ k), ← ih]
  have h2:ch (n+1) 0 * x ^ 0+sm (fun k=>ch n (k+1) * x ^ (k+1)) (n+1)=(x+1) ^ n:=by
   have h3:=sm_shift (fun k=>ch n k * x ^ k) (n+1)
   have h4:sm (fun k=>ch n k * x ^ k) (n+1+1)=sm (fun k=>ch n k * x ^ k) (n+1)+ch n (n+1) * x ^ (n+1):=rfl
   rw [ch_gt n (n+1) (by omega),Nat.zero_mul] at h4
   have h5:=h3.symm.trans h4
   simp only [ch_0,Nat.pow_zero,Nat.mul_one] at h5 ⊢
   rw [ih]
   omega
  rw [Nat.pow_succ,Nat.mul_add,Nat.mul_one]
  omega
theorem frosh {p:Nat} (hp:Pr p) (x:Nat):(x+1) ^ p % p=(x ^ p+1) % p:=by
 obtain ⟨m,rfl⟩ : ∃ m,p=m+1:=⟨p - 1,by have:=hp.1; omega⟩
 rw [binom]
 have h1:sm (fun k=>ch (m+1) k * x ^ k) (m+1+1)=sm (fun k=>ch (m+1) k * x ^ k) (m+1)+x ^ (m+1):=by
  show sm (fun k=>ch (m+1) k * x ^ k) (m+1)+ch (m+1) (m+1) * x ^ (m+1)=_
  rw [ch_self,Nat.one_mul]
 rw [h1,sm_shift]
 have hd:(m+1) ∣ sm (fun k=>ch (m+1) (k+1) * x ^ (k+1)) m:=sm_dvd fun k hk=>by
  have:=ch_mul m k
  have h3:(m+1) ∣ (k+1) * ch (m+1) (k+1):=⟨_,this⟩
  rcases hp.dvd_mul h3 with h4 | h4
  ·have:=Nat.le_of_dvd (by omega) h4
   omega
  ·exact Nat.dvd_trans h4 (Nat.dvd_mul_right _ _)
 obtain ⟨c,hc⟩:=hd
 rw [hc,ch_0]
 simp only [Nat.pow_zero,Nat.one_mul]
 have:1+(m+1) * c+x ^ (m+1)=x ^ (m+1)+1+(m+1) * c:=by omega
 rw [this,Nat.add_mul_mod_self_left]
theorem fermat {p:Nat} (hp:Pr p) : ∀ x,x ^ p % p=x % p
 | 0=>by
  have:0 ^ p=0:=Nat.zero_pow (by have:=hp.1; omega)
  rw [this]
 | x+1=>by
  rw [frosh hp,Nat.add_mod,fermat hp x, ← Nat.add_mod]
theorem dvd_of_mod_eq {p a b:Nat} (h:a % p=b % p) (_:b≤a):p ∣ a - b:=by
 rw [Nat.dvd_iff_mod_eq_zero]
 exact Nat.sub_mod_eq_zero_of_mod_eq h
theorem mod_one_of_dvd {p a:Nat} (hp:1<p) (ha:1≤a) (h:p ∣ a - 1):a % p=1:=by
 obtain ⟨c,hc⟩:=h
 have:a=1+p * c:=by omega
 rw [this,Nat.add_mul_mod_self_left]
 exact Nat.mod_eq_of_lt hp
theorem fermat2 {p:Nat} (hp:Pr p) {x:Nat} (hx : ¬ p ∣ x):x ^ (p - 1) % p=1:=by
 have h1:=fermat hp x
 have hx1:1≤x:=by
  rcases Nat.eq_zero_or_pos x with h | h
  ·exact absurd (h ▸ Nat.dvd_zero p) hx
  ·exact h
 have hp1:=hp.1
 have hpow:x ^ p=x * x ^ (p - 1):=by
  rw [Nat.mul_comm, ← Nat.pow_succ]; congr 1; omega
 have hge:1≤x ^ (p - 1):=Nat.one_le_pow _ _ hx1
 have h2:p ∣ x * (x ^ (p - 1) - 1):=by
  have:=dvd_of_mod_eq h1 (by rw [hpow]; exact Nat.le_mul_of_pos_right x hge)
  have e:x * x ^ (p - 1) - x=x * (x ^ (p - 1) - 1):=by rw [Nat.mul_sub,Nat.mul_one]
  rwa [hpow,e] at this
 rcases hp.dvd_mul h2 with h3 | h3
 ·exact absurd h3 hx
 ·exact mod_one_of_dvd hp1 hge h3
theorem pow_gcd {b d:Nat} (hd:1<d) (m k:Nat) (hm:b ^ m % d=1) (hk:b ^ k % d=1):b ^ (Nat.gcd m k) % d=1:=by
 induction m,k using Nat.gcd.induction with
 | H0 k=>rw [Nat.gcd_zero_left]; exact hk
 | H1 m k hpos ih =>
  rw [Nat.gcd_rec]
  refine ih ?_ hm
  have e:k=m * (k / m)+k % m:=(Nat.div_add_mod k m).symm
  rw [e,Nat.pow_add,Nat.mul_mod,Nat.pow_mul,Nat.pow_mod,hm,Nat.one_pow,Nat.mod_eq_of_lt hd,Nat.one_mul,Nat.mod_mod] at hk
  exact hk
theorem ex_pr : ∀ N,1<N → ∃ d,Pr d∧d ∣ N:=by
 intro N
 induction N using Nat.strongRecOn with
 | _ N ih =>
  intro h
  by_cases hp:Pr N
  ·exact ⟨N,hp,Nat.dvd_refl N⟩
  ·have : ∃ e,e ∣ N∧e ≠ 1∧e ≠ N:=Classical.byContradiction fun hn=>hp ⟨h,fun e he=>Classical.byContradiction fun h2=>hn ⟨e,he,fun h3=>h2 (.inl h3),fun h3=>h2 (.inr h3)⟩⟩
   obtain ⟨e,he,h1,h2⟩:=this
   have hle:=Nat.le_of_dvd (by omega) he
   have h0:e ≠ 0:=fun h0=>by subst h0; obtain ⟨c,hc⟩:=he; omega
   obtain ⟨d,hd,hde⟩:=ih e (by omega) (by omega)
   exact ⟨d,hd,Nat.dvd_trans hde he⟩
theorem ex_small {N:Nat} (h:1<N) (hp : ¬ Pr N) : ∃ d,Pr d∧d ∣ N∧d * d≤N:=by
 have : ∃ e,e ∣ N∧e ≠ 1∧e ≠ N:=Classical.byContradiction fun hn=>hp ⟨h,fun e he=>Classical.byContradiction fun h2=>hn ⟨e,he,fun h3=>h2 (.inl h3),fun h3=>h2 (.inr h3)⟩⟩
 obtain ⟨e,⟨f,hf⟩,h1,h2⟩:=this
 have he0:e ≠ 0:=fun h0=>by subst h0; omega
 have hf0:f ≠ 0:=fun h0=>by subst h0; omega
 have hf1:f ≠ 1:=fun h0=>by subst h0; omega
 have key : ∀ a b,a * b=N → a≤b → 1<a → ∃ d,Pr d∧d ∣ N∧d * d≤N:=fun a b hab hle ha=>by
  obtain ⟨d,hd,hda⟩:=ex_pr a ha
  have:=Nat.le_of_dvd (by omega) hda
  exact ⟨d,hd,Nat.dvd_trans hda ⟨b,hab.symm⟩,by rw [← hab]; exact Nat.mul_le_mul this (by omega)⟩
 rcases Nat.le_total e f with h3 | h3
 ·exact key e f hf.symm h3 (by omega)
 ·exact key f e (by rw [Nat.mul_comm]; exact hf.symm) h3 (by omega)
theorem pock_q {N q a d:Nat} (hq:Pr q) (hN:1<N) (hqN:q * ((N - 1) / q)=N - 1) (h1:a ^ (N - 1) % N=1) (h2:Nat.gcd (a ^ ((N - 1) / q) % N+(N - 1)) N=1) (hd:Pr d) (hdN:d ∣ N):q ∣ d - 1:=by
 have hd1:=hd.1
 generalize hb:a ^ ((N - 1) / q)=b at h2
 have hbq:b ^ q % d=1:=by
  rw [← hb, ← Nat.pow_mul,Nat.mul_comm,hqN]
  have:a ^ (N - 1) % N % d=1 % d:=by rw [h1]
  rw [Nat.mod_mod_of_dvd _ hdN,Nat.mod_eq_of_lt hd1] at this
  exact this
 have hdb : ¬ d ∣ b:=fun h=>by
  have h3:d ∣ b ^ q:=by
   have hq1:=hq.1
   obtain ⟨m,rfl⟩ : ∃ m,q=m+1:=⟨q - 1,by omega⟩
   rw [Nat.pow_succ]; exact Nat.dvd_trans h (Nat.dvd_mul_left _ _)
  rw [Nat.dvd_iff_mod_eq_zero] at h3
  omega
 have hb1:b % d ≠ 1:=fun h=>by
  have h3:d ∣ b % N+(N - 1):=by
   obtain ⟨c,hc⟩:=hdN
   have h4:(b % N) % d=1:=by rw [Nat.mod_mod_of_dvd _ ⟨c,hc⟩]; exact h
   have h5:b % N=d * (b % N / d)+1:=by have:=Nat.div_add_mod (b % N) d; omega
   rw [h5]
   have:d * (b % N / d)+1+(N - 1)=d * (b % N / d)+d * c:=by omega
   rw [this, ← Nat.mul_add]
   exact Nat.dvd_mul_right _ _
  have h6:=Nat.dvd_gcd h3 hdN
  rw [h2] at h6
  exact hd.not_one h6
 have hf:=fermat2 hd hdb
 have hg:=pow_gcd hd1 q (d - 1) hbq hf
 rcases hq.2 _ (Nat.gcd_dvd_left q (d - 1)) with h3 | h3
 ·rw [h3,Nat.pow_one] at hg
  exact absurd hg hb1
 ·rw [← h3]
  exact Nat.gcd_dvd_right q (d - 1)
theorem pock {N F:Nat} (hN:1<N) (hF:N<F * F) (h : ∀ d,Pr d → d ∣ N → F ∣ d - 1):Pr N:=by
 refine Classical.byContradiction fun hp=>?_
 obtain ⟨d,hd,hdN,hdd⟩:=ex_small hN hp
 have h1:=h d hd hdN
 have hd1:=hd.1
 have h2:F≤d - 1:=Nat.le_of_dvd (by omega) h1
 have:F * F≤d * d:=Nat.mul_le_mul (by omega) (by omega)
 omega
def powm (N:Nat):Nat → Nat → Nat → Nat
 | 0,_,_=>1 % N
 | f+1,a,e=>if e=0 then 1 % N else if e % 2=1 then a * powm N f (a * a % N) (e / 2) % N else powm N f (a * a % N) (e / 2)
theorem powm_eq (N:Nat) : ∀ f a e,e<2 ^ f → powm N f a e=a ^ e % N
 | 0,a,e,h=>by
  have:e=0:=by rw [Nat.pow_zero] at h; omega
  subst this; rfl
 | f+1,a,e,h=>by
  unfold powm
  by_cases h0:e=0
  ·rw [if_pos h0,h0]; rfl
  rw [if_neg h0]
  have ih:=powm_eq N f (a * a % N) (e / 2) (by rw [Nat.pow_succ] at h; omega)
  have h2:(a * a % N) ^ (e / 2) % N=a ^ (2 * (e / 2)) % N:=by
   rw [← Nat.pow_mod,Nat.pow_mul,Nat.pow_two]
  by_cases h1:e % 2=1
  ·rw [if_pos h1,ih,h2,Nat.mul_mod,Nat.mod_mod, ← Nat.mul_mod]
   have:e=2 * (e / 2)+1:=by omega
   conv=>rhs; rw [this,Nat.pow_succ,Nat.mul_comm]
  ·rw [if_neg h1,ih,h2]
   have:e=2 * (e / 2):=by omega
   conv=>rhs; rw [this]
theorem pock_p {N q a d:Nat} (f:Nat) (hq:Pr q) (hN:1<N) (hf:N<2 ^ f) (hqN:q * ((N - 1) / q)=N - 1) (h1:powm N f a (N - 1)=1) (h2:Nat.gcd (powm N f a ((N - 1) / q)+(N - 1)) N=1) (hd:Pr d) (hdN:d ∣ N):q ∣ d - 1:=by
 rw [powm_eq N f a _ (by omega)] at h1
 rw [powm_eq N f a _ (by have:=Nat.div_le_self (N - 1) q; omega)] at h2
 exact pock_q hq hN hqN h1 h2 hd hdN
theorem pr_check {p:Nat} (h:1<p) (hc : ∀ d,d<p → 2≤d → p % d ≠ 0):Pr p:=by
 refine ⟨h,fun d hd=>?_⟩
 have hle:=Nat.le_of_dvd (by omega) hd
 have h0:d ≠ 0:=fun h0=>by subst h0; obtain ⟨c,hc⟩:=hd; omega
 by_cases h1:d=1
 ·exact .inl h1
 ·by_cases h2:d=p
  ·exact .inr h2
  ·rw [Nat.dvd_iff_mod_eq_zero] at hd
   exact absurd hd (hc d (by omega) (by omega))
end Go.Nt
end

section
namespace Go.Nt
def P256:Nat:=115792089210356248762697446949407573530086143415290314195533631308867097853951
def N256:Nat:=115792089210356248762697446949407573529996955224135760342422259061068512044369
theorem pr_small:Pr 313∧Pr 5∧Pr 1087∧Pr 919∧Pr 197∧Pr 43∧Pr 7∧Pr 3∧Pr 1511∧Pr 337:=by
 refine ⟨pr_check (by decide) ?_,pr_check (by decide) ?_,pr_check (by decide) ?_,pr_check (by decide) ?_,pr_check (by decide) ?_,pr_check (by decide) ?_,pr_check (by decide) ?_,pr_check (by decide) ?_,pr_check (by decide) ?_,pr_check (by decide) ?_⟩ <;> decide +kernel
theorem pock1 {N q a:Nat} (f:Nat) (hq:Pr q) (hN:1<N) (hF:N<q * q) (hf:N<2 ^ f) (hqN:q * ((N - 1) / q)=N - 1) (h1:powm N f a (N - 1)=1) (h2:Nat.gcd (powm N f a ((N - 1) / q)+(N - 1)) N=1):Pr N :=
 pock hN hF fun d hd hdN=>pock_p f hq hN hf hqN h1 h2 hd hdN
theorem pock2 {N q a r b:Nat} (f:Nat) (hq:Pr q) (hr:Pr r) (hc:Nat.gcd q r=1) (hN:1<N) (hF:N<(q * r) * (q * r)) (hf:N<2 ^ f)
  (hqN:q * ((N - 1) / q)=N - 1) (h1:powm N f a (N - 1)=1) (h2:Nat.gcd (powm N f a ((N - 1) / q)+(N - 1)) N=1)
  (hrN:r * ((N - 1) / r)=N - 1) (h3:powm N f b (N - 1)=1) (h4:Nat.gcd (powm N f b ((N - 1) / r)+(N - 1)) N=1):Pr N :=
 pock hN hF fun d hd hdN=>Nat.Coprime.mul_dvd_of_dvd_of_dvd hc (pock_p f hq hN hf hqN h1 h2 hd hdN) (pock_p f hr hN hf hrN h3 h4 hd hdN)
theorem pr_4349:Pr 4349:=pock1 20 pr_small.2.2.1 (a:=2) (by decide) (by decide) (by decide) (by decide) (by decide +kernel) (by decide +kernel)
theorem pr_704251:Pr 704251:=pock2 20 pr_small.1 pr_small.2.1 (a:=2) (b:=2) (by decide +kernel) (by decide +kernel) (by decide +kernel) (by decide +kernel) (by decide +kernel) (by decide +kernel) (by decide +kernel) (by decide +kernel) (by decide +kernel) (by decide +kernel)
theorem pr_78283:Pr 78283:=pock1 20 pr_4349 (a:=2) (by decide +kernel) (by decide +kernel) (by decide +kernel) (by decide +kernel) (by decide +kernel) (by decide +kernel)
theorem pr_a:Pr 46076956964474543:=pock2 60 pr_704251 pr_78283 (a:=2) (b:=2) (by decide +kernel) (by decide +kernel) (by decide +kernel) (by decide +kernel) (by decide +kernel) (by decide +kernel) (by decide +kernel) (by decide +kernel) (by decide +kernel) (by decide +kernel)
theorem pr_3677:Pr 3677:=pock1 20 pr_small.2.2.2.1 (a:=2) (by decide +kernel) (by decide +kernel) (by decide +kernel) (by decide +kernel) (by decide +kernel) (by decide +kernel)
theorem pr_b:Pr 66417393611:=pock2 60 pr_3677 pr_small.2.2.2.2.1 (a:=2) (b:=2) (by decide +kernel) (by decide +kernel) (by decide +kernel) (by decide +kernel) (by decide +kernel) (by decide +kernel) (by decide +kernel) (by decide +kernel) (by decide +kernel) (by decide +kernel)
theorem pr_c:Pr 11290956913871:=pock1 60 pr_b (a:=2) (by decide +kernel) (by decide +kernel) (by decide +kernel) (by decide +kernel) (by decide +kernel) (by decide +kernel)
theorem pr_d:Pr 774023187263532362759620327192479577272145303:=pock2 160 pr_a pr_c (a:=2) (b:=2) (by decide +kernel) (by decide +kernel) (by decide +kernel) (by decide +kernel) (by decide +kernel) (by decide +kernel) (by decide +kernel) (by decide +kernel) (by decide +kernel) (by decide +kernel)
theorem pr_e:Pr 835945042244614951780389953367877943453916927241:=pock1 170 pr_d (a:=2) (by decide +kernel) (by decide +kernel) (by decide +kernel) (by decide +kernel) (by decide +kernel) (by decide +kernel)
theorem pr_P:Pr P256:=pock1 256 pr_e (a:=2) (by decide +kernel) (by decide +kernel) (by decide +kernel) (by decide +kernel) (by decide +kernel) (by decide +kernel)
theorem pr_155317:Pr 155317:=by
 refine pock (F:=43 * 7 * 3) (by decide) (by decide) fun d hd hdN=>?_
 have h1:=pock_p (N:=155317) (q:=43) (a:=2) 20 pr_small.2.2.2.2.2.1 (by decide) (by decide) (by decide) (by decide +kernel) (by decide +kernel) hd hdN
 have h2:=pock_p (N:=155317) (q:=7) (a:=2) 20 pr_small.2.2.2.2.2.2.1 (by decide) (by decide) (by decide) (by decide +kernel) (by decide +kernel) hd hdN
 have h3:=pock_p (N:=155317) (q:=3) (a:=3) 20 pr_small.2.2.2.2.2.2.2.1 (by decide) (by decide) (by decide) (by decide +kernel) (by decide +kernel) hd hdN
 exact Nat.Coprime.mul_dvd_of_dvd_of_dvd (by decide) (Nat.Coprime.mul_dvd_of_dvd_of_dvd (by decide) h1 h2) h3
theorem pr_f:Pr 191039911:=pock1 40 pr_155317 (a:=2) (by decide +kernel) (by decide +kernel) (by decide +kernel) (by decide +kernel) (by decide +kernel) (by decide +kernel)
theorem pr_3023:Pr 3023:=pock1 20 pr_small.2.2.2.2.2.2.2.2.1 (a:=2) (by decide +kernel) (by decide +kernel) (by decide +kernel) (by decide +kernel) (by decide +kernel) (by decide +kernel)
theorem pr_g:Pr 208150935158385979:=pock2 60 pr_f pr_3023 (a:=2) (b:=2) (by decide +kernel) (by decide +kernel) (by decide +kernel) (by decide +kernel) (by decide +kernel) (by decide +kernel) (by decide +kernel) (by decide +kernel) (by decide +kernel) (by decide +kernel)
theorem pr_h:Pr 2624747550333869278416773953:=pock1 100 pr_g (a:=2) (by decide +kernel) (by decide +kernel) (by decide +kernel) (by decide +kernel) (by decide +kernel) (by decide +kernel)
theorem pr_i:Pr 104471:=pock1 20 pr_small.2.2.2.2.2.2.2.2.2 (a:=2) (by decide +kernel) (by decide +kernel) (by decide +kernel) (by decide +kernel) (by decide +kernel) (by decide +kernel)
theorem pr_j:Pr 3969899:=pock1 40 pr_i (a:=2) (by decide +kernel) (by decide +kernel) (by decide +kernel) (by decide +kernel) (by decide +kernel) (by decide +kernel)
theorem pr_k:Pr 1002328039319:=pock1 60 pr_j (a:=2) (by decide +kernel) (by decide +kernel) (by decide +kernel) (by decide +kernel) (by decide +kernel) (by decide +kernel)
theorem pr_N:Pr N256:=pock2 256 pr_h pr_k (a:=2) (b:=2) (by decide +kernel) (by decide +kernel) (by decide +kernel) (by decide +kernel) (by decide +kernel) (by decide +kernel) (by decide +kernel) (by decide +kernel) (by decide +kernel) (by decide +kernel)
end Go.Nt
end

section
namespace Go.Proofs
open Go Go.Kx
open Vector (replicate)
def num_Field_Add (f_M:Vx 64 4) (f_inv:BitVec 64) (f_one:Vx 64 4) (f_two:Vx 64 4) (x:Vx 64 4) (y:Vx 64 4):Option (Vx 64 4) :=
 (num_add x y).bind fun (r_1:Vx 64 4 × BitVec 64)=>((num_sub r_1.1 f_M).bind fun (r_2:Vx 64 4 × BitVec 64)=>((if r_1.2=1#64 then (some true) else (some (decide (r_2.2=0#64)))).bind fun (j1:Bool)=>(if j1=true then (some r_2.1) else (some r_1.1))))
set_option maxHeartbeats 4000000 in
set_option maxRecDepth 20000 in
theorem F59_calls (bf:Nat) (obf:Nat) (f_M:Vx 64 4) (f_inv:BitVec 64) (f_one:Vx 64 4) (f_two:Vx 64 4) (x:Vx 64 4) (y:Vx 64 4) (r:Vx 64 4) (H:num_Field_Add f_M f_inv f_one f_two x y=some r) :
  Does Try.prog 59 [ptr (some (bf,obf)) 0,aG [(4,e64 x.toList)],aG [(4,e64 y.toList)]] [] [⟨some (bf,obf),e64 f_M.toList⟩,⟨some (bf,obf+4),[v64 f_inv]⟩,⟨some (bf,obf+5),e64 f_one.toList⟩,⟨some (bf,obf+9),e64 f_two.toList⟩] (Γ:=Unit) (fun g=>aG [(4,e64 r.toList)]) (fun g=>[]):=by
 intro w hmem hro hd
 refine calls_of (N:=34) (m0:=[(0,ptr (some (bf,obf)) 0),(1,aG [(4,e64 x.toList)]),(2,aG [(4,e64 y.toList)])]) Try.func59 rfl Try.ntmps59 (argM_ok [ptr (some (bf,obf)) 0,aG [(4,e64 x.toList)],aG [(4,e64 y.toList)]]) rfl hmem hro hd ?_
 unfold num_Field_Add at H
 refine TC_seq (TC_region (TLe (E_boxP [(4,e64 x.toList)] rfl rfl ⟨(lenV (f:=v64) x),trivial⟩) (fun b1=>?_)))
 refine TLe (E_boxP [(4,e64 y.toList)] rfl rfl ⟨(lenV (f:=v64) y),trivial⟩) (fun b2=>?_)
 refine TLe (E_al64 4 TryI.inf57 TryI.zer57) (fun b3=>?_)
 refine TL_nil (TX_next (TC_seq (TC_region (TLv (V_lag (.o 2) Try.isAgg57 TryI.inf57) ?_))))
 refine TLv (V_lag (.o 1) Try.isAgg57 TryI.inf57) ?_
 obtain ⟨r_1,hr_1,H⟩:=bind_elim H
 refine TLe (E_c0 (F88_calls x y r_1 hr_1) Try.call88 .z) (fun g_1=>?_)
 refine TLv (V_move rfl) ?_
 refine TLv V_ex ?_
 refine TLv V_ex ?_
 refine TLe (E_al64 4 TryI.inf57 TryI.zer57) (fun b4=>?_)
 refine TLn (E_sv (vs:=e64 r_1.1.toList) 0 TryI.inf57) (fun _=>?_)
 refine TLv (V_assign rfl) ?_
 refine TL_nil (TX_next (TC_seq ?_))
 obtain ⟨r_2,hr_2,H⟩:=bind_elim H
 refine TA_begin [⟨some (b4,0),e64 r_1.1.toList⟩,⟨some (b3,0),e64 ((replicate 4 0#64).toList)⟩,⟨some (b2,0),e64 y.toList⟩,⟨some (b1,0),e64 x.toList⟩] 11 (by kernel_rfl) (N:=12) rfl ?_
 refine TA_tk 0 [0,0,0,0] (dn 12 1) rfl rfl (V_lag (.o 0) Try.isAgg57 TryI.inf57) ?_
 refine TA_tk 1 [0,0,0,0] (dn 12 3) rfl rfl (V_move rfl) ?_
 refine TA_tk 2 [0,0,0,0] (dn 12 7) rfl rfl (V_nilCheck rfl) ?_
 refine TA_tk 3 [0,0,0,0] (dn 12 15) rfl rfl (V_fieldE rfl Try.underlying113 rfl rfl TryI.inf57 rfl (v:=ptr (some (bf,obf)) 0) rfl) ?_
 refine TA_tk 4 [0,0,0,0] (dn 12 31) rfl rfl (V_lag (.r 0) Try.isAgg57 TryI.inf57) ?_
 refine TA_mix (is:=[0,0,0,0]) (done':=dn 12 1023) [itV 5 23 (Value.tuple [aG [(4,e64 r_2.1.toList)],v64 r_2.2].toArray) [],itV 6 17 (Value.tuple [aG [(4,e64 r_2.1.toList)],v64 r_2.2].toArray) [5],itV 7 24 (aG [(4,e64 r_2.1.toList)]) [6],itA64 9 9 4] [itV 8 25 (v64 r_2.2) [6]] 2 (by kernel_rfl) (QP.then QP.body) (by kernel_rfl) rfl (.e rfl (E_cu (F85_calls r_1.1 f_M r_2 hr_2) Try.call85 .z) (.v rfl (V_move rfl) (.v rfl V_ex (.c rfl (fun _ _=>(E_al64 4 TryI.inf57 TryI.zer57)) .nil)))) (.c rfl (fun _=>V_ex) .nil) (by kernel_rfl) rfl (fun γ=>?_)
 refine TA_cut [(25,v64 r_2.2),(9,ptr (some ((γ 9),0)) 0),(24,aG [(4,e64 r_2.1.toList)]),(8,v64 r_1.2),(7,ptr (some (b4,0)) 0),(6,ptr (some (b3,0)) 0)] [⟨some ((γ 9),0),e64 ((replicate 4 0#64).toList)⟩,⟨some (b4,0),e64 r_1.1.toList⟩,⟨some (b3,0),e64 ((replicate 4 0#64).toList)⟩,⟨some (b2,0),e64 y.toList⟩,⟨some (b1,0),e64 x.toList⟩] ⟨rfl,rfl,rfl,rfl,rfl,rfl,trivial⟩ rfl ?_
 generalize γ 9=b5
 refine TA_all (rs:=[10]) (by kernel_rfl) rfl ?_
 refine ⟨?_,trivial⟩
 refine TO_n (is:=[1,1,1,1]) (done':=dn 12 2047) rfl rfl rfl (by kernel_rfl) (E_sv (vs:=e64 r_2.1.toList) 0 TryI.inf57) (fun _ _=>rfl) (fun _=>?_)
 refine TA_all (rs:=[11]) (by kernel_rfl) rfl ?_
 refine ⟨?_,trivial⟩
 refine TO_v (is:=[]) (R:=[]) (done':=dn 12 4095) rfl rfl rfl rfl (by kernel_rfl) (V_assign rfl) (fun h=>by cases h) ?_
 refine TA_done (by kernel_rfl) ?_ 0
 refine TX_next (TC_seq (TC_seq (TC_region (TLv (V_move rfl) ?_))))
 refine TLv (V_bin rfl rfl (fun w=>eql64 w r_1.2 1#64)) ?_
 refine TLv (V_move rfl) ?_
 obtain ⟨j1,Hj,H⟩:=bind_elim H
 refine TL_join (Γ:=Unit) (fun gj1=>[(6,ptr (some (b3,0)) 0),(7,ptr (some (b4,0)) 0),(9,ptr (some (b5,0)) 0),(31,vb j1)]) (fun gj1=>[⟨some (b3,0),e64 ((replicate 4 0#64).toList)⟩,⟨some (b4,0),e64 r_1.1.toList⟩,⟨some (b5,0),e64 r_2.1.toList⟩]) ?_ ?_
 ·intro gj1
  refine TX_next (TC_cond (b:=j1) rfl (fun hc=>?_) (fun hc=>?_))
  ·replace H:=ite_t hc H
   refine TC_seq (TC_region (TLv (V_lag (.o 2) Try.isAgg57 TryI.inf57) ?_))
   refine TLn (E_sv (vs:=e64 r_2.1.toList) 0 TryI.inf57) (fun _=>?_)
   refine TL_nil (TX_next (TC_ret (TX_then_ret ?_)))
   have hrv:=Option.some.inj H
   subst hrv
   exact TX_ret (rs:=[.cell 6 57]) (vs:=[aG [(4,e64 r_2.1.toList)]]) rfl ⟨(Res_agg (n:=4) rfl (by simp) (.o 0) Try.isAgg57 TryI.inf57 rfl (lenV (f:=v64) r_2.1)),trivial⟩ (fun w' hs'=>⟨(),rfl,Step.left (Step.pulled (is:=[]) (A:=[]) hs' rfl)⟩)
  ·replace H:=ite_f (Bool.eq_false_iff.1 hc) H
   refine TC_skip (TX_next (TC_seq (TC_region (TLv (V_lag (.o 1) Try.isAgg57 TryI.inf57) ?_))))
   refine TLn (E_sv (vs:=e64 r_1.1.toList) 0 TryI.inf57) (fun _=>?_)
   refine TL_nil (TX_next (TC_ret ?_))
   have hrv:=Option.some.inj H
   subst hrv
   exact TX_ret (rs:=[.cell 6 57]) (vs:=[aG [(4,e64 r_1.1.toList)]]) rfl ⟨(Res_agg (n:=4) rfl (by simp) (.o 0) Try.isAgg57 TryI.inf57 rfl (lenV (f:=v64) r_1.1)),trivial⟩ (fun w' hs'=>⟨(),rfl,Step.left (Step.pulled (is:=[]) (A:=[]) hs' rfl)⟩)
 ·intro hJ
  replace H:=Hj
  refine TL_fork (d:=28) (b:=(decide (r_1.2=1#64))) rfl (fun hc=>?_) (fun hc=>?_)
  ·replace H:=ite_t (of_decide_eq_true hc) H
   refine TL_skip rfl rfl rfl rfl rfl rfl rfl ?_
   refine TL_skip rfl rfl rfl rfl rfl rfl rfl ?_
   refine TLv (V_pick (b:=true) rfl rfl) ?_
   refine TL_nil (TX.sub (m':=[(6,ptr (some (b3,0)) 0),(7,ptr (some (b4,0)) 0),(9,ptr (some (b5,0)) 0),(31,vb true)]) ⟨rfl,rfl,rfl,rfl,trivial⟩ ?_)
   refine TX.pull (is:=[2,1,0]) (L':=[⟨some (b3,0),e64 ((replicate 4 0#64).toList)⟩,⟨some (b4,0),e64 r_1.1.toList⟩,⟨some (b5,0),e64 r_2.1.toList⟩]) rfl ?_
   obtain rfl:=Option.some.inj H
   exact hJ ()
  ·replace H:=ite_f (of_decide_eq_false hc) H
   refine TL_want rfl rfl rfl rfl rfl rfl (V_move rfl) ?_
   refine TL_want rfl rfl rfl rfl rfl rfl (V_bin rfl rfl (fun w=>eql64 w r_2.2 0#64)) ?_
   refine TLv (V_pick (b:=false) rfl rfl) ?_
   refine TL_nil (TX.sub (m':=[(6,ptr (some (b3,0)) 0),(7,ptr (some (b4,0)) 0),(9,ptr (some (b5,0)) 0),(31,vb (decide (r_2.2=0#64)))]) ⟨rfl,rfl,rfl,rfl,trivial⟩ ?_)
   refine TX.pull (is:=[2,1,0]) (L':=[⟨some (b3,0),e64 ((replicate 4 0#64).toList)⟩,⟨some (b4,0),e64 r_1.1.toList⟩,⟨some (b5,0),e64 r_2.1.toList⟩]) rfl ?_
   obtain rfl:=Option.some.inj H
   exact hJ ()
end Go.Proofs
end

section
namespace Go.Proofs
open Go Go.Kx
open Vector (replicate)
def num_Field_Sub (f_M:Vx 64 4) (f_inv:BitVec 64) (f_one:Vx 64 4) (f_two:Vx 64 4) (x:Vx 64 4) (y:Vx 64 4):Option (Vx 64 4) :=
 (num_sub x y).bind fun (r_1:Vx 64 4 × BitVec 64)=>(if r_1.2=1#64 then ((num_add r_1.1 f_M).bind fun (r_2:Vx 64 4 × BitVec 64)=>(some r_2.1)) else (some r_1.1))
set_option maxHeartbeats 4000000 in
set_option maxRecDepth 20000 in
theorem F77_calls (bf:Nat) (obf:Nat) (f_M:Vx 64 4) (f_inv:BitVec 64) (f_one:Vx 64 4) (f_two:Vx 64 4) (x:Vx 64 4) (y:Vx 64 4) (r:Vx 64 4) (H:num_Field_Sub f_M f_inv f_one f_two x y=some r) :
  Does Try.prog 77 [ptr (some (bf,obf)) 0,aG [(4,e64 x.toList)],aG [(4,e64 y.toList)]] [] [⟨some (bf,obf),e64 f_M.toList⟩,⟨some (bf,obf+4),[v64 f_inv]⟩,⟨some (bf,obf+5),e64 f_one.toList⟩,⟨some (bf,obf+9),e64 f_two.toList⟩] (Γ:=Unit) (fun g=>aG [(4,e64 r.toList)]) (fun g=>[]):=by
 intro w hmem hro hd
 refine calls_of (N:=27) (m0:=[(0,ptr (some (bf,obf)) 0),(1,aG [(4,e64 x.toList)]),(2,aG [(4,e64 y.toList)])]) Try.func77 rfl Try.ntmps77 (argM_ok [ptr (some (bf,obf)) 0,aG [(4,e64 x.toList)],aG [(4,e64 y.toList)]]) rfl hmem hro hd ?_
 unfold num_Field_Sub at H
 refine TC_seq (TC_region (TLe (E_boxP [(4,e64 x.toList)] rfl rfl ⟨(lenV (f:=v64) x),trivial⟩) (fun b1=>?_)))
 refine TLe (E_boxP [(4,e64 y.toList)] rfl rfl ⟨(lenV (f:=v64) y),trivial⟩) (fun b2=>?_)
 refine TLe (E_al64 4 TryI.inf57 TryI.zer57) (fun b3=>?_)
 refine TL_nil (TX_next (TC_seq (TC_region (TLv (V_lag (.o 2) Try.isAgg57 TryI.inf57) ?_))))
 refine TLv (V_lag (.o 1) Try.isAgg57 TryI.inf57) ?_
 obtain ⟨r_1,hr_1,H⟩:=bind_elim H
 refine TLe (E_c0 (F85_calls x y r_1 hr_1) Try.call85 .z) (fun g_1=>?_)
 refine TLv (V_move rfl) ?_
 refine TLv V_ex ?_
 refine TLv V_ex ?_
 refine TLe (E_al64 4 TryI.inf57 TryI.zer57) (fun b4=>?_)
 refine TLn (E_sv (vs:=e64 r_1.1.toList) 0 TryI.inf57) (fun _=>?_)
 refine TLv (V_assign rfl) ?_
 refine TL_nil (TX_next (TC_seq (TC_seq (TC_region (TLv (V_move rfl) ?_)))))
 refine TLv (V_bin rfl rfl (fun w=>eql64 w r_1.2 1#64)) ?_
 refine TL_nil (TX_next (TC_cond (b:=(decide (r_1.2=1#64))) rfl (fun hc=>?_) (fun hc=>?_)))
 ·replace H:=ite_t (of_decide_eq_true hc) H
  obtain ⟨r_2,hr_2,H⟩:=bind_elim H
  refine TA_begin [⟨some (b3,0),e64 ((replicate 4 0#64).toList)⟩,⟨some (b2,0),e64 y.toList⟩,⟨some (b1,0),e64 x.toList⟩] 10 (by kernel_rfl) (N:=10) rfl ?_
  refine TA_tk 1 [1,1,1] (dn 10 2) rfl rfl (V_move rfl) ?_
  refine TA_tk 2 [1,1,1] (dn 10 6) rfl rfl (V_nilCheck rfl) ?_
  refine TA_tk 3 [1,1,1] (dn 10 14) rfl rfl (V_fieldE rfl Try.underlying113 rfl rfl TryI.inf57 rfl (v:=ptr (some (bf,obf)) 0) rfl) ?_
  refine TA_tk 4 [1,1,1] (dn 10 30) rfl rfl (V_lag (.r 0) Try.isAgg57 TryI.inf57) ?_
  refine TA_all (rs:=[0]) (by kernel_rfl) rfl ?_
  refine ⟨?_,trivial⟩
  refine TO_v (is:=[1,1,1]) (done':=dn 10 31) rfl rfl rfl rfl (by kernel_rfl) (V_lag (.o 0) Try.isAgg57 TryI.inf57) (fun _=>rfl) ?_
  refine TA_all (rs:=[5]) (by kernel_rfl) rfl ?_
  refine ⟨?_,trivial⟩
  refine TO_e (is:=[1,1,1]) (done':=dn 10 63) rfl rfl rfl rfl (by kernel_rfl) (E_c0 (F88_calls r_1.1 f_M r_2 hr_2) Try.call88 .z) (fun _ _=>rfl) (fun g_2=>?_)
  refine TA_tk 6 [1,1,1] (dn 10 127) rfl rfl (V_move rfl) ?_
  refine TA_tk 7 [1,1,1] (dn 10 255) rfl rfl V_ex ?_
  refine TA_tk 8 [1,1,1] (dn 10 511) rfl rfl V_ex ?_
  refine TA_all (rs:=[9]) (by kernel_rfl) rfl ?_
  refine ⟨?_,trivial⟩
  refine TO_n (is:=[1,1,1]) (done':=dn 10 1023) rfl rfl rfl (by kernel_rfl) (E_sv (vs:=e64 r_2.1.toList) 0 TryI.inf57) (fun _ _=>rfl) (fun _=>?_)
  refine TA_done (by kernel_rfl) ?_ 0
  refine TX_next (TC_seq (TC_region (TLv (V_lag (.o 0) Try.isAgg57 TryI.inf57) ?_)))
  refine TLn (E_sv (vs:=e64 r_2.1.toList) 1 TryI.inf57) (fun _=>?_)
  refine TL_nil (TX_next (TC_ret ?_))
  have hrv:=Option.some.inj H
  subst hrv
  exact TX_ret (rs:=[.cell 6 57]) (vs:=[aG [(4,e64 r_2.1.toList)]]) rfl ⟨(Res_agg (n:=4) rfl (by simp) (.o 1) Try.isAgg57 TryI.inf57 rfl (lenV (f:=v64) r_2.1)),trivial⟩ (fun w' hs'=>⟨(),rfl,Step.left (Step.pulled (is:=[]) (A:=[]) hs' rfl)⟩)
 ·replace H:=ite_f (of_decide_eq_false hc) H
  refine TC_skip (TX_next (TC_seq (TC_region (TLv (V_lag (.o 0) Try.isAgg57 TryI.inf57) ?_))))
  refine TLn (E_sv (vs:=e64 r_1.1.toList) 1 TryI.inf57) (fun _=>?_)
  refine TL_nil (TX_next (TC_ret ?_))
  have hrv:=Option.some.inj H
  subst hrv
  exact TX_ret (rs:=[.cell 6 57]) (vs:=[aG [(4,e64 r_1.1.toList)]]) rfl ⟨(Res_agg (n:=4) rfl (by simp) (.o 1) Try.isAgg57 TryI.inf57 rfl (lenV (f:=v64) r_1.1)),trivial⟩ (fun w' hs'=>⟨(),rfl,Step.left (Step.pulled (is:=[]) (A:=[]) hs' rfl)⟩)
end Go.Proofs
end

section
namespace Go.Proofs
open Go Go.Kx
open Vector (replicate)
def num_Field_In (f_M:Vx 64 4) (f_inv:BitVec 64) (f_one:Vx 64 4) (f_two:Vx 64 4) (x:Vx 64 4):Option (Vx 64 4) :=
 (num_Field_Mul f_M f_inv f_one f_two x f_two).bind fun (r_1:Vx 64 4)=>(some r_1)
set_option maxHeartbeats 4000000 in
set_option maxRecDepth 20000 in
theorem F56_calls (bf:Nat) (obf:Nat) (f_M:Vx 64 4) (f_inv:BitVec 64) (f_one:Vx 64 4) (f_two:Vx 64 4) (x:Vx 64 4) (r:Vx 64 4) (H:num_Field_In f_M f_inv f_one f_two x=some r) :
  Does Try.prog 56 [ptr (some (bf,obf)) 0,aG [(4,e64 x.toList)]] [] [⟨some (bf,obf),e64 f_M.toList⟩,⟨some (bf,obf+4),[v64 f_inv]⟩,⟨some (bf,obf+5),e64 f_one.toList⟩,⟨some (bf,obf+9),e64 f_two.toList⟩] (Γ:=Unit) (fun g=>aG [(4,e64 r.toList)]) (fun g=>[]):=by
 intro w hmem hro hd
 refine calls_of (N:=12) (m0:=[(0,ptr (some (bf,obf)) 0),(1,aG [(4,e64 x.toList)])]) Try.func56 rfl Try.ntmps56 (argM_ok [ptr (some (bf,obf)) 0,aG [(4,e64 x.toList)]]) rfl hmem hro hd ?_
 unfold num_Field_In at H
 refine TC_seq (TC_region (TLe (E_boxP [(4,e64 x.toList)] rfl rfl ⟨(lenV (f:=v64) x),trivial⟩) (fun b1=>?_)))
 refine TLe (E_al64 4 TryI.inf57 TryI.zer57) (fun b2=>?_)
 refine TL_nil (TX_next (TC_seq ?_))
 obtain ⟨r_1,hr_1,H⟩:=bind_elim H
 refine TA_begin [] 8 (by kernel_rfl) (N:=8) rfl ?_
 refine TA_mix (is:=[]) (done':=dn 8 127) [itV 0 5 (ptr (some (bf,obf)) 0) [],itV 1 6 (aG [(4,e64 x.toList)]) [],itV 2 7 (ptr (some (bf,obf)) 0) [],itV 3 8 (ptr (some (bf,obf)) 0) [2],itV 4 9 (ptr (some (bf,obf+9)) 0) [3],itV 5 10 (aG [(4,e64 f_two.toList)]) [4],itV 6 11 (aG [(4,e64 r_1.toList)]) [5,0,1]] [] 1 (by kernel_rfl) (QP.then QP.body) (by kernel_rfl) rfl (.v rfl (V_move rfl) (.v rfl (V_lag (.o 1) Try.isAgg57 TryI.inf57) (.v rfl (V_move rfl) (.v rfl (V_nilCheck rfl) (.v rfl (V_fe Try.underlying113 TryI.inf57) (.v rfl (V_lag (.r 3) Try.isAgg57 TryI.inf57) (.e rfl (E_cu (F58_calls bf obf f_M f_inv f_one f_two x f_two r_1 hr_1) Try.call58 ⟨.r 0, .r 1, .r 2, .r 3,trivial⟩) .nil))))))) .nil (by kernel_rfl) rfl (fun γ=>?_)
 refine TA_cut [(11,aG [(4,e64 r_1.toList)]),(4,ptr (some (b2,0)) 0)] [⟨some (b2,0),e64 ((replicate 4 0#64).toList)⟩,⟨some (b1,0),e64 x.toList⟩] ⟨rfl,rfl,trivial⟩ rfl ?_
 refine TA_all (rs:=[7]) (by kernel_rfl) rfl ?_
 refine ⟨?_,trivial⟩
 refine TO_n (is:=[]) (done':=dn 8 255) rfl rfl rfl (by kernel_rfl) (E_sv (vs:=e64 r_1.toList) 0 TryI.inf57) (fun _ _=>rfl) (fun _=>?_)
 refine TA_done (by kernel_rfl) ?_ 0
 refine TX_next (TC_ret ?_)
 have hrv:=Option.some.inj H
 subst hrv
 exact TX_ret (rs:=[.cell 4 57]) (vs:=[aG [(4,e64 r_1.toList)]]) rfl ⟨(Res_agg (n:=4) rfl (by simp) (.o 0) Try.isAgg57 TryI.inf57 rfl (lenV (f:=v64) r_1)),trivial⟩ (fun w' hs'=>⟨(),rfl,Step.left (Step.pulled (is:=[]) (A:=[]) hs' rfl)⟩)
end Go.Proofs
end

section
namespace Go.Proofs
open Go Go.Kx
open Vector (replicate)
def num_Field_Out (f_M:Vx 64 4) (f_inv:BitVec 64) (f_one:Vx 64 4) (f_two:Vx 64 4) (x:Vx 64 4):Option (Vx 64 4) :=
 (num_Field_Mul f_M f_inv f_one f_two x (vp (replicate 4 0#64) 0 1#64:Vx 64 4)).bind fun (r_1:Vx 64 4)=>(some r_1)
set_option maxHeartbeats 4000000 in
set_option maxRecDepth 20000 in
theorem F57_calls (bf:Nat) (obf:Nat) (f_M:Vx 64 4) (f_inv:BitVec 64) (f_one:Vx 64 4) (f_two:Vx 64 4) (x:Vx 64 4) (r:Vx 64 4) (H:num_Field_Out f_M f_inv f_one f_two x=some r) :
  Does Try.prog 57 [ptr (some (bf,obf)) 0,aG [(4,e64 x.toList)]] [] [⟨some (bf,obf),e64 f_M.toList⟩,⟨some (bf,obf+4),[v64 f_inv]⟩,⟨some (bf,obf+5),e64 f_one.toList⟩,⟨some (bf,obf+9),e64 f_two.toList⟩] (Γ:=Unit) (fun g=>aG [(4,e64 r.toList)]) (fun g=>[]):=by
 intro w hmem hro hd
 refine calls_of (N:=9) (m0:=[(0,ptr (some (bf,obf)) 0),(1,aG [(4,e64 x.toList)])]) Try.func57 rfl Try.ntmps57 (argM_ok [ptr (some (bf,obf)) 0,aG [(4,e64 x.toList)]]) rfl hmem hro hd ?_
 unfold num_Field_Out at H
 refine TC_seq (TC_region (TLe (E_boxP [(4,e64 x.toList)] rfl rfl ⟨(lenV (f:=v64) x),trivial⟩) (fun b1=>?_)))
 refine TLe (E_al64 4 TryI.inf57 TryI.zer57) (fun b2=>?_)
 refine TL_nil (TX_next (TC_seq (TC_region (TLv (V_move rfl) ?_))))
 refine TLv (V_lag (.o 1) Try.isAgg57 TryI.inf57) ?_
 refine TLv (V_buildArr (pv:=[(0,v64 1#64)]) rfl rfl Try.underlying57 TryI.inf57 TryI.inf55 rfl TryI.zer57 (cs:=e64 ((vp (replicate 4 0#64) 0 1#64:Vx 64 4).toList)) (by kernel_rfl)) ?_
 obtain ⟨r_1,hr_1,H⟩:=bind_elim H
 refine TLe (E_c0 (F58_calls bf obf f_M f_inv f_one f_two x (vp (replicate 4 0#64) 0 1#64:Vx 64 4) r_1 hr_1) Try.call58 ⟨.r 0, .r 1, .r 2, .r 3,trivial⟩) (fun g_1=>?_)
 refine TLn (E_sv (vs:=e64 r_1.toList) 0 TryI.inf57) (fun _=>?_)
 refine TL_nil (TX_next (TC_ret ?_))
 have hrv:=Option.some.inj H
 subst hrv
 exact TX_ret (rs:=[.cell 4 57]) (vs:=[aG [(4,e64 r_1.toList)]]) rfl ⟨(Res_agg (n:=4) rfl (by simp) (.o 0) Try.isAgg57 TryI.inf57 rfl (lenV (f:=v64) r_1)),trivial⟩ (fun w' hs'=>⟨(),rfl,Step.left (Step.pulled (is:=[]) (A:=[]) hs' rfl)⟩)
end Go.Proofs
end

/-
  Part 11 of the proof of what several laws share.
-/
import Derived.Test.YtiofnmmggblcgaaEsC1
import Derived.Test.YtiofnmmggblcgaaEsC2
import Derived.Test.YtiofnmmggblcgaaEsC3
import Derived.Test.YtiofnmmggblcgaaEsC4
import Derived.Test.YtiofnmmggblcgaaEsC5
import Derived.Test.YtiofnmmggblcgaaEsC6
import Derived.Test.YtiofnmmggblcgaaEsC7
import Derived.Test.YtiofnmmggblcgaaEsC8
import Derived.Test.YtiofnmmggblcgaaEsC9
import Derived.Test.YtiofnmmggblcgaaEsC10
set_option linter.unusedVariables false
set_option linter.unusedSimpArgs false
section
namespace Go.Proofs
open Go Go.Kx
open Vector (replicate)
open TryI Try
def num_Field_Rest (f_M:Vx 64 4) (f_inv:BitVec 64) (f_one:Vx 64 4) (f_two:Vx 64 4) (x:Vx 64 4):Option (Vx 64 4) :=
 (num_sub x f_M).bind fun (r_1:Vx 64 4 × BitVec 64)=>(if r_1.2=0#64 then (some r_1.1) else (some x))
set_option maxHeartbeats 4000000 in
set_option maxRecDepth 20000 in
theorem F54_calls (bf:Nat) (obf:Nat) (f_M:Vx 64 4) (f_inv:BitVec 64) (f_one:Vx 64 4) (f_two:Vx 64 4) (x:Vx 64 4) (r:Vx 64 4) (H:num_Field_Rest f_M f_inv f_one f_two x=some r) :
  Does Try.prog 54 [ptr (some (bf,obf)) 0,aG [(4,e64 x.toList)]] [] [⟨some (bf,obf),e64 f_M.toList⟩,⟨some (bf,obf+4),[v64 f_inv]⟩,⟨some (bf,obf+5),e64 f_one.toList⟩,⟨some (bf,obf+9),e64 f_two.toList⟩] (Γ:=Unit) (fun g=>aG [(4,e64 r.toList)]) (fun g=>[]):=by
 intro w hmem hro hd
 refine calls_of (N:=20) (m0:=[(0,ptr (some (bf,obf)) 0),(1,aG [(4,e64 x.toList)])]) func54 rfl ntmps54 (argM_ok [ptr (some (bf,obf)) 0,aG [(4,e64 x.toList)]]) rfl hmem hro hd ?_
 unfold num_Field_Rest at H
 refine TC_seq (TC_region (TLe (E_boxP [(4,e64 x.toList)] rfl rfl ⟨(lenV (f:=v64) x),trivial⟩) (fun b1=>?_)))
 refine TLe (E_al64 4 inf57 zer57) (fun b2=>?_)
 refine TL_nil (TX_next (TC_seq ?_))
 obtain ⟨r_1,hr_1,H⟩:=bind_elim H
 refine TA_begin [⟨some (b2,0),e64 ((replicate 4 0#64).toList)⟩,⟨some (b1,0),e64 x.toList⟩] 11 (by kernel_rfl) (N:=12) rfl ?_
 refine TA_tk 0 [0,0] (dn 12 1) rfl rfl (V_lag (.o 1) isAgg57 inf57) ?_
 refine TA_tk 1 [0,0] (dn 12 3) rfl rfl (V_move rfl) ?_
 refine TA_tk 2 [0,0] (dn 12 7) rfl rfl (V_nilCheck rfl) ?_
 refine TA_tk 3 [0,0] (dn 12 15) rfl rfl (V_fieldE rfl underlying113 rfl rfl inf57 rfl (v:=ptr (some (bf,obf)) 0) rfl) ?_
 refine TA_tk 4 [0,0] (dn 12 31) rfl rfl (V_lag (.r 0) isAgg57 inf57) ?_
 refine TA_mix (is:=[0,0]) (done':=dn 12 1023) [itV 5 13 (Value.tuple [aG [(4,e64 r_1.1.toList)],v64 r_1.2].toArray) [],itV 6 7 (Value.tuple [aG [(4,e64 r_1.1.toList)],v64 r_1.2].toArray) [5],itV 7 14 (aG [(4,e64 r_1.1.toList)]) [6],itA64 9 5 4] [itV 8 15 (v64 r_1.2) [6]] 2 (by kernel_rfl) (QP.then QP.body) (by kernel_rfl) rfl (.e rfl (E_cu (F85_calls x f_M r_1 hr_1) call85 .z) (.v rfl (V_move rfl) (.v rfl V_ex (.c rfl (fun _ _=>(E_al64 4 inf57 zer57)) .nil)))) (.c rfl (fun _=>V_ex) .nil) (by kernel_rfl) rfl (fun γ=>?_)
 refine TA_cut [(15,v64 r_1.2),(5,ptr (some ((γ 9),0)) 0),(14,aG [(4,e64 r_1.1.toList)]),(4,ptr (some (b2,0)) 0),(3,ptr (some (b1,0)) 0)] [⟨some ((γ 9),0),e64 ((replicate 4 0#64).toList)⟩,⟨some (b2,0),e64 ((replicate 4 0#64).toList)⟩,⟨some (b1,0),e64 x.toList⟩] ⟨rfl,rfl,rfl,rfl,rfl,trivial⟩ rfl ?_
 generalize γ 9=b3
 refine TA_all (rs:=[10]) (by kernel_rfl) rfl ?_
 refine ⟨?_,trivial⟩
 refine TO_n (is:=[1,1]) (done':=dn 12 2047) rfl rfl rfl (by kernel_rfl) (E_sv (vs:=e64 r_1.1.toList) 0 inf57) (fun _ _=>rfl) (fun _=>?_)
 refine TA_all (rs:=[11]) (by kernel_rfl) rfl ?_
 refine ⟨?_,trivial⟩
 refine TO_v (is:=[]) (R:=[]) (done':=dn 12 4095) rfl rfl rfl rfl (by kernel_rfl) (V_assign rfl) (fun h=>by cases h) ?_
 refine TA_done (by kernel_rfl) ?_ 0
 refine TX_next (TC_seq (TC_seq (TC_region (TVm ?_))))
 refine TLv (V_bin rfl rfl (fun w=>eql64 w r_1.2 0#64)) ?_
 refine TL_nil (TX_next (TCd H (fun hc H=>?_) (fun hc H=>?_)))
 ·refine TC_seq (TC_region (TLv (V_lag (.o 0) isAgg57 inf57) ?_))
  refine TLn (E_sv (vs:=e64 r_1.1.toList) 1 inf57) (fun _=>?_)
  refine TL_nil (TX_next (TC_ret (TX_then_ret ?_)))
  obtain rfl:=sj H
  exact TXr (vs:=[_]) rfl ⟨(Res_agg (n:=4) rfl (by simp) (.o 1) isAgg57 inf57 rfl (lenV (f:=v64) r_1.1)),trivial⟩
 ·refine TC_skip (TX_next (TC_seq (TC_region (TLv (V_lag (.o 2) isAgg57 inf57) ?_))))
  refine TLn (E_sv (vs:=e64 x.toList) 1 inf57) (fun _=>?_)
  refine TL_nil (TX_next (TC_ret ?_))
  obtain rfl:=sj H
  exact TXr (vs:=[_]) rfl ⟨(Res_agg (n:=4) rfl (by simp) (.o 1) isAgg57 inf57 rfl (lenV (f:=v64) x)),trivial⟩
end Go.Proofs
end

section
namespace Go.Proofs
open Go Go.Kx
open Vector (replicate)
open TryI Try
def num_Nat_Zero (x:Vx 64 4):Option (Bool) :=
 ltt (decide (x=(replicate 4 0#64:Vx 64 4))) fun (x1:Bool)=>(some x1)
set_option maxHeartbeats 4000000 in
set_option maxRecDepth 20000 in
theorem F43_calls (x:Vx 64 4) (r:Bool) (H:num_Nat_Zero x=some r) :
  Does Try.prog 43 [aG [(4,e64 x.toList)]] [] [] (Γ:=Unit) (fun g=>vb r) (fun g=>[]):=by
 intro w hmem hro hd
 refine calls_of (N:=6) (m0:=[(0,aG [(4,e64 x.toList)])]) func43 rfl ntmps43 (argM_ok [aG [(4,e64 x.toList)]]) rfl hmem hro hd ?_
 unfold num_Nat_Zero at H
 refine TC_seq (TC_region (TLe (E_boxP [(4,e64 x.toList)] rfl rfl ⟨(lenV (f:=v64) x),trivial⟩) (fun b1=>?_)))
 refine TVa ?_
 refine TL_nil (TX_next (TC_seq (TC_region (TLv (V_lag (.o 0) isAgg57 inf57) ?_))))
 refine TLv (V_buildArr (pv:=[]) rfl rfl underlying57 inf57 inf55 rfl zer57 (cs:=e64 ((replicate 4 0#64:Vx 64 4).toList)) (by kernel_rfl)) ?_
 refine TLv (V_bin rfl rfl (fun w=>eqlA w underlying57 underlying55 (by kernel_rfl) (by kernel_rfl) x (replicate 4 0#64:Vx 64 4))) ?_
 refine TVa ?_
 obtain ⟨x1,hx1,H⟩:=ltt_elim H
 refine TLr 2 (congrArg vb hx1) ?_
 refine TL_nil (TX_next (TC_ret ?_))
 obtain rfl:=sj H
 exact TX1
end Go.Proofs
end

section
namespace Go.Proofs
open Go Go.Kx
open TryI Try
def num_Nat_Less (x:Vx 64 4) (y:Vx 64 4):Option (Bool) :=
 (num_sub x y).bind fun (r_1:Vx 64 4 × BitVec 64)=>(ltt (decide (r_1.2=1#64)) fun (x1:Bool)=>(some x1))
set_option maxHeartbeats 4000000 in
set_option maxRecDepth 20000 in
theorem F100_calls (x:Vx 64 4) (y:Vx 64 4) (r:Bool) (H:num_Nat_Less x y=some r) :
  Does Try.prog 100 [aG [(4,e64 x.toList)],aG [(4,e64 y.toList)]] [] [] (Γ:=Unit) (fun g=>vb r) (fun g=>[]):=by
 intro w hmem hro hd
 refine calls_of (N:=15) (m0:=[(0,aG [(4,e64 x.toList)]),(1,aG [(4,e64 y.toList)])]) func100 rfl ntmps100 (argM_ok [aG [(4,e64 x.toList)],aG [(4,e64 y.toList)]]) rfl hmem hro hd ?_
 unfold num_Nat_Less at H
 refine TC_seq (TC_region (TLe (E_boxP [(4,e64 x.toList)] rfl rfl ⟨(lenV (f:=v64) x),trivial⟩) (fun b1=>?_)))
 refine TLe (E_boxP [(4,e64 y.toList)] rfl rfl ⟨(lenV (f:=v64) y),trivial⟩) (fun b2=>?_)
 refine TVa ?_
 refine TL_nil (TX_next (TC_seq (TC_region (TLv (V_lag (.o 1) isAgg57 inf57) ?_))))
 refine TLv (V_lag (.o 0) isAgg57 inf57) ?_
 obtain ⟨r_1,hr_1,H⟩:=bind_elim H
 refine TLe (E_c0 (F85_calls x y r_1 hr_1) call85 .z) (fun g_1=>?_)
 refine TVm ?_
 refine TLv V_ex ?_
 refine TLv V_ex ?_
 refine TLe (E_al64 4 inf57 zer57) (fun b3=>?_)
 refine TLn (E_sv (vs:=e64 r_1.1.toList) 0 inf57) (fun _=>?_)
 refine TVa ?_
 refine TL_nil (TX_next (TC_seq (TC_region (TVm ?_))))
 refine TLv (V_bin rfl rfl (fun w=>eql64 w r_1.2 1#64)) ?_
 refine TVa ?_
 obtain ⟨x1,hx1,H⟩:=ltt_elim H
 refine TLr 4 (congrArg vb hx1) ?_
 refine TL_nil (TX_next (TC_ret ?_))
 obtain rfl:=sj H
 exact TX1
end Go.Proofs
end

section
namespace Go.Kx
open Go Go.Proofs
open Vector (replicate)
structure Md (m:Nat):Prop where
 two:2<m
 lt:m<2 ^ 256
 inv : ∃ ri,(2 ^ 256 * ri) % m=1
theorem Md.cancel {m:Nat} (hm:Md m) {a b:Nat} (h:(a * 2 ^ 256) % m=(b * 2 ^ 256) % m):a % m=b % m:=by
 obtain ⟨ri,hri⟩:=hm.inv
 have key : ∀ c:Nat,(c * 2 ^ 256 % m * ri) % m=c % m:=fun c=>by
  rw [Nat.mod_mul_mod,Nat.mul_assoc,Nat.mul_mod,hri,Nat.mul_one,Nat.mod_mod]
 rw [← key a, ← key b,h]
theorem Md.cancel_lt {m:Nat} (hm:Md m) {a b:Nat} (ha:a<m) (hb:b<m) (h:(a * 2 ^ 256) % m=(b * 2 ^ 256) % m):a=b:=by
 have:=hm.cancel h
 rwa [Nat.mod_eq_of_lt ha,Nat.mod_eq_of_lt hb] at this
def R4 (m:Nat) (v:Vx 64 4) (a:Nat):Prop:=a<m∧n4 v=a * 2 ^ 256 % m
def R8 (m:Nat) (v:Vx 32 8) (a:Nat):Prop:=a<m∧n8 v=a * 2 ^ 256 % m
theorem R4.lt {m:Nat} (hm:Md m) {v:Vx 64 4} {a:Nat} (h:R4 m v a):n4 v<m:=by rw [h.2]; exact Nat.mod_lt _ (by have:=hm.two; omega)
theorem R8.lt {m:Nat} (hm:Md m) {v:Vx 32 8} {a:Nat} (h:R8 m v a):n8 v<m:=by rw [h.2]; exact Nat.mod_lt _ (by have:=hm.two; omega)
theorem R4.inj {m:Nat} (hm:Md m) {v w:Vx 64 4} {a b:Nat} (h:R4 m v a) (k:R4 m w b):v=w ↔ a=b:=by
 constructor
 ·rintro rfl
  exact hm.cancel_lt h.1 k.1 (h.2.symm.trans k.2)
 ·rintro rfl
  exact n4_ext (h.2.trans k.2.symm)
theorem R8.inj {m:Nat} (hm:Md m) {v w:Vx 32 8} {a b:Nat} (h:R8 m v a) (k:R8 m w b):v=w ↔ a=b:=by
 constructor
 ·rintro rfl
  exact hm.cancel_lt h.1 k.1 (h.2.symm.trans k.2)
 ·rintro rfl
  exact n8_ext (h.2.trans k.2.symm)
theorem n4_zero:n4 (replicate 4 0#64)=0:=by decide
theorem n8_zero:n8 (replicate 8 0#32)=0:=by decide
theorem R4_zero {m:Nat} (hm:Md m):R4 m (replicate 4 0#64) 0:=⟨by have:=hm.two; omega,by rw [n4_zero,Nat.zero_mul,Nat.zero_mod]⟩
theorem R8_zero {m:Nat} (hm:Md m):R8 m (replicate 8 0#32) 0:=⟨by have:=hm.two; omega,by rw [n8_zero,Nat.zero_mul,Nat.zero_mod]⟩
theorem prod_rep {m:Nat} (hm:Md m) {a b x y r:Nat} (hx:x=a * 2 ^ 256 % m) (hy:y=b * 2 ^ 256 % m) (hr:r<m) (e:(r * 2 ^ 256) % m=(x * y) % m):r=(a * b % m) * 2 ^ 256 % m:=by
 have h0:0<m:=by have:=hm.two; omega
 refine hm.cancel_lt hr (Nat.mod_lt _ h0) ?_
 rw [e,hx,hy, ← Nat.mul_mod,Nat.mod_mul_mod (a * b % m * 2 ^ 256),Nat.mul_assoc (a * b % m),Nat.mod_mul_mod]
 congr 1
 generalize (2 ^ 256:Nat)=R
 grind
theorem in_rep {m:Nat} (hm:Md m) {x r:Nat} (hx:x<m) (hr:r<m) (e:(r * 2 ^ 256) % m=(x * (2 ^ 512 % m)) % m):r=x * 2 ^ 256 % m:=by
 have h0:0<m:=by have:=hm.two; omega
 refine hm.cancel_lt hr (Nat.mod_lt _ h0) ?_
 have h5 : ∀ k:Nat,k=256+256 → 2 ^ k=2 ^ 256 * 2 ^ 256:=fun k h=>by rw [h]; exact Nat.pow_add 2 256 256
 rw [e,h5 512 rfl,Nat.mul_mod_mod,Nat.mod_mul_mod,Nat.mul_assoc]
theorem out_rep {m:Nat} (hm:Md m) {a x r:Nat} (ha:a<m) (hx:x=a * 2 ^ 256 % m) (hr:r<m) (e:(r * 2 ^ 256) % m=(x * 1) % m):r=a:=by
 refine hm.cancel_lt hr ha ?_
 rw [e,hx,Nat.mul_one,Nat.mod_mod]
theorem sub_mod_eq {m x y:Nat} (hx:x<m) (hy:y<m):(x+(m - y)) % m=if y≤x then x - y else x+m - y:=by
 split
 ·rw [show x+(m - y)=x - y+m by omega,Nat.add_mod_right,Nat.mod_eq_of_lt (by omega)]
 ·rw [Nat.mod_eq_of_lt (by omega)]; omega
theorem add_rep {m:Nat} {a b:Nat}:(a * 2 ^ 256 % m+b * 2 ^ 256 % m) % m=((a+b) % m) * 2 ^ 256 % m:=by
 rw [← Nat.add_mod,Nat.mod_mul_mod,Nat.add_mul]
theorem sub_rep {m:Nat} (h0:0<m) {a b:Nat} (hb:b<m):(a * 2 ^ 256 % m+(m - b * 2 ^ 256 % m)) % m=((a+(m - b)) % m) * 2 ^ 256 % m:=by
 rw [Nat.mod_mul_mod,Nat.add_mul,Nat.add_mod (a * 2 ^ 256),Nat.add_mod (a * 2 ^ 256 % m),Nat.mod_mod]
 congr 2
 rw [Nat.sub_mul]
 have hk:=Nat.mod_add_div (b * 2 ^ 256) m
 have hlt:=Nat.mod_lt (b * 2 ^ 256) h0
 have hle:b * 2 ^ 256 / m≤2 ^ 256:=by
  have:b * 2 ^ 256≤m * 2 ^ 256:=Nat.mul_le_mul_right _ (by omega)
  exact Nat.div_le_of_le_mul this
 generalize b * 2 ^ 256 / m=q at *
 generalize hc:b * 2 ^ 256 % m=c at *
 rw [← hk]
 by_cases hz:c=0
 ·subst hz
  rw [Nat.sub_zero,Nat.mod_self,Nat.zero_add, ← Nat.mul_sub,Nat.mul_mod_right]
 ·have hq:q<2 ^ 256:=by
   rcases Nat.lt_or_eq_of_le hle with h | h
   ·exact h
   ·exfalso
    subst h
    have h2:b * 2 ^ 256<m * 2 ^ 256:=Nat.mul_lt_mul_of_pos_right hb (by decide)
    omega
  obtain ⟨d,hd⟩ : ∃ d,2 ^ 256=q+1+d:=⟨2 ^ 256 - q - 1,by omega⟩
  have e:m * 2 ^ 256 - (c+m * q)=(m - c)+m * d:=by
   rw [hd,Nat.mul_add,Nat.mul_add,Nat.mul_one]
   generalize m * q=u
   generalize m * d=v
   omega
  rw [e,Nat.add_mul_mod_self_left]
theorem pv_dig {B:Nat} {f:Nat → Nat} (hf : ∀ j,f j<B) : ∀ n k,k<n → pv B f n / B ^ k % B=f k
 | 0,k,h=>by omega
 | n+1,k,h=>by
  show (pv B f n+f n * B ^ n) / B ^ k % B=f k
  have hB:0<B:=by have:=hf 0; omega
  by_cases hk:k=n
  ·subst hk
   rw [Nat.add_mul_div_right _ _ (Nat.pow_pos hB),Nat.div_eq_of_lt (pv_lt hf k),Nat.zero_add,Nat.mod_eq_of_lt (hf k)]
  ·have e:f n * B ^ n=f n * B ^ (n - k - 1) * B * B ^ k:=by
    rw [Nat.mul_assoc,Nat.mul_assoc, ← Nat.pow_succ', ← Nat.pow_add]
    congr 2; omega
   rw [e,Nat.add_mul_div_right _ _ (Nat.pow_pos hB),Nat.add_mul_mod_self_right]
   exact pv_dig hf n k (by omega)
theorem bit_eq {b n:Nat} (v:Vector (BitVec b) n) (k j:Nat) (hk:k<n) (hj:j<b):((vg v k >>> j) &&& 1#b=1#b) ↔ (pv (2 ^ b) (wv v) n / 2 ^ (b * k+j)) % 2=1:=by
 have hd:=pv_dig (wv_lt v) n k hk
 have hb:0<b:=by omega
 have e1:(1#b).toNat=1:=by rw [BitVec.toNat_ofNat]; exact Nat.mod_eq_of_lt (Nat.one_lt_two_pow (by omega))
 rw [← BitVec.toNat_inj,BitVec.toNat_and,BitVec.toNat_ushiftRight,Nat.shiftRight_eq_div_pow,e1,Nat.and_one_is_mod]
 have:(vg v k).toNat=pv (2 ^ b) (wv v) n / (2 ^ b) ^ k % 2 ^ b:=hd.symm
 rw [this,Nat.pow_add,Nat.pow_mul, ← Nat.div_div_eq_div_mul]
 generalize pv (2 ^ b) (wv v) n / (2 ^ b) ^ k=x
 have e2:2 ^ b=2 ^ j * 2 ^ (b - j):=by rw [← Nat.pow_add]; congr 1; omega
 rw [e2,Nat.mod_mul_right_div_self,Nat.mod_mod_of_dvd]
 exact ⟨2 ^ (b - j - 1),by rw [← Nat.pow_succ']; congr 1; omega⟩
theorem bit4 (v:Vx 64 4) (i:Nat) (hi:i<256):((vg v (i / 64) >>> (i % 64)) &&& 1#64=1#64) ↔ (n4 v / 2 ^ i) % 2=1:=by
 have:=bit_eq v (i / 64) (i % 64) (by omega) (by omega)
 rwa [Nat.div_add_mod] at this
theorem bit8 (v:Vx 32 8) (i:Nat) (hi:i<256):((vg v (i / 32) >>> (i % 32)) &&& 1#32=1#32) ↔ (n8 v / 2 ^ i) % 2=1:=by
 have:=bit_eq v (i / 32) (i % 32) (by omega) (by omega)
 rwa [Nat.div_add_mod] at this
theorem half_eq (E i:Nat):E / 2 ^ i=2 * (E / 2 ^ (i+1))+E / 2 ^ i % 2:=by
 rw [Nat.pow_succ, ← Nat.div_div_eq_div_mul]
 omega
theorem pow_dbl {m a e:Nat}:(a ^ e % m) * (a ^ e % m) % m=a ^ (2 * e) % m:=by
 rw [← Nat.mul_mod, ← Nat.pow_add]; congr 2; omega
theorem pow_dbl1 {m a e:Nat}:(a ^ (2 * e) % m) * a % m=a ^ (2 * e+1) % m:=by
 rw [Nat.mod_mul_mod,Nat.pow_succ]
structure Fd (m:Nat) (M:Vx 64 4) (inv:BitVec 64) (one two:Vx 64 4):Prop where
 md:Md m
 hM:n4 M=m
 hinv:(wv M 0 * inv.toNat+1) % 2 ^ 64=0
 h1:n4 one=2 ^ 256 % m
 h2:n4 two=2 ^ 512 % m
section
variable {m:Nat} {M:Vx 64 4} {inv:BitVec 64} {one two x y:Vx 64 4} {a b:Nat}
theorem Fd.mul0 (F:Fd m M inv one two) (hx:n4 x<m) : ∃ r,num_Field_Mul M inv one two x y=some r∧n4 r<m∧(n4 r * 2 ^ 256) % m=(n4 x * n4 y) % m:=by
 have:=num_Field_Mul_ex M inv one two x y F.hinv (by rw [F.hM]; exact Nat.mul_lt_mul_of_lt_of_le hx (Nat.le_of_lt (n4_lt y)) (by decide))
 rwa [F.hM] at this
theorem Fd.mul (F:Fd m M inv one two) (hx:R4 m x a) (hy:R4 m y b) : ∃ r,num_Field_Mul M inv one two x y=some r∧R4 m r (a * b % m):=by
 obtain ⟨r,h1,h2,h3⟩:=F.mul0 (y:=y) (hx.lt F.md)
 exact ⟨r,h1,Nat.mod_lt _ (by have:=F.md.two; omega),prod_rep F.md hx.2 hy.2 h2 h3⟩
theorem Fd.unit (F:Fd m M inv one two):R4 m one (1 % m):=⟨Nat.mod_lt _ (by have:=F.md.two; omega),by rw [F.h1,Nat.mod_mul_mod,Nat.one_mul]⟩
theorem Fd.into (F:Fd m M inv one two) (hx:n4 x<m) : ∃ r,num_Field_In M inv one two x=some r∧R4 m r (n4 x):=by
 obtain ⟨r,h1,h2,h3⟩:=F.mul0 (y:=two) hx
 refine ⟨r,?_,hx,in_rep F.md hx h2 (by rw [h3,F.h2])⟩
 unfold num_Field_In
 exact bind_i h1 rfl
theorem n4_one:n4 (vp (replicate 4 0#64) 0 1#64)=1:=by decide
theorem Fd.out (F:Fd m M inv one two) (hx:R4 m x a) : ∃ r,num_Field_Out M inv one two x=some r∧n4 r=a:=by
 obtain ⟨r,h1,h2,h3⟩:=F.mul0 (y:=(vp (replicate 4 0#64) 0 1#64)) (hx.lt F.md)
 rw [n4_one] at h3
 refine ⟨r,?_,out_rep F.md hx.1 hx.2 h2 h3⟩
 unfold num_Field_Out
 exact bind_i h1 rfl
theorem Fd.add0 (F:Fd m M inv one two) (hx:n4 x<m) (hy:n4 y<m) : ∃ r,num_Field_Add M inv one two x y=some r∧n4 r=(n4 x+n4 y) % m:=by
 obtain ⟨⟨s,c⟩,h1,e1,l1⟩:=num_add_ex x y
 obtain ⟨⟨d,b'⟩,h2,e2,l2⟩:=num_sub_ex s M
 dsimp only at e1 l1 e2 l2
 have hmlt:=F.md.lt
 have:=n4_lt s
 have:=n4_lt d
 rw [F.hM] at e2
 unfold num_Field_Add
 by_cases hc:c=1#64
 ·have hc':c.toNat=1:=by rw [hc]; rfl
  refine ⟨d,bind_i h1 (bind_i h2 (bind_i (if_i hc rfl) (if_i rfl rfl))),?_⟩
  rw [show n4 x+n4 y=n4 d+m by omega,Nat.add_mod_right,Nat.mod_eq_of_lt (by omega)]
 ·have hc':c.toNat=0:=by
   have:c.toNat ≠ 1:=fun h=>hc (BitVec.eq_of_toNat_eq h)
   omega
  by_cases hb:b'=0#64
  ·have hb':b'.toNat=0:=by rw [hb]; rfl
   refine ⟨d,bind_i h1 (bind_i h2 (bind_i (if_n hc rfl) (if_i (by simp [hb]) rfl))),?_⟩
   rw [show n4 x+n4 y=n4 d+m by omega,Nat.add_mod_right,Nat.mod_eq_of_lt (by omega)]
  ·have hb':b'.toNat=1:=by
    have:b'.toNat ≠ 0:=fun h=>hb (BitVec.eq_of_toNat_eq h)
    omega
   refine ⟨s,bind_i h1 (bind_i h2 (bind_i (if_n hc rfl) (if_n (by simp [hb]) rfl))),?_⟩
   rw [show n4 x+n4 y=n4 s by omega,Nat.mod_eq_of_lt (by omega)]
theorem Fd.add (F:Fd m M inv one two) (hx:R4 m x a) (hy:R4 m y b) : ∃ r,num_Field_Add M inv one two x y=some r∧R4 m r ((a+b) % m):=by
 obtain ⟨r,h1,h2⟩:=F.add0 (hx.lt F.md) (hy.lt F.md)
 exact ⟨r,h1,Nat.mod_lt _ (by have:=F.md.two; omega),by rw [h2,hx.2,hy.2,add_rep]⟩
theorem Fd.sub0 (F:Fd m M inv one two) (hx:n4 x<m) (hy:n4 y<m) : ∃ r,num_Field_Sub M inv one two x y=some r∧n4 r=(n4 x+(m - n4 y)) % m:=by
 obtain ⟨⟨s,c⟩,h1,e1,l1⟩:=num_sub_ex x y
 obtain ⟨⟨d,b'⟩,h2,e2,l2⟩:=num_add_ex s M
 dsimp only at e1 l1 e2 l2
 have hmlt:=F.md.lt
 have:=n4_lt s
 have:=n4_lt d
 rw [F.hM] at e2
 unfold num_Field_Sub
 rw [sub_mod_eq hx hy]
 by_cases hc:c=1#64
 ·have hc':c.toNat=1:=by rw [hc]; rfl
  refine ⟨d,bind_i h1 (if_i hc (bind_i h2 rfl)),?_⟩
  rw [if_neg (by omega)]; omega
 ·have hc':c.toNat=0:=by
   have:c.toNat ≠ 1:=fun h=>hc (BitVec.eq_of_toNat_eq h)
   omega
  refine ⟨s,bind_i h1 (if_n hc rfl),?_⟩
  rw [if_pos (by omega)]; omega
theorem Fd.sub (F:Fd m M inv one two) (hx:R4 m x a) (hy:R4 m y b) : ∃ r,num_Field_Sub M inv one two x y=some r∧R4 m r ((a+(m - b)) % m):=by
 obtain ⟨r,h1,h2⟩:=F.sub0 (hx.lt F.md) (hy.lt F.md)
 exact ⟨r,h1,Nat.mod_lt _ (by have:=F.md.two; omega),by rw [h2,hx.2,hy.2,sub_rep (by have:=F.md.two; omega) hy.1]⟩
theorem num_Zero_eq (x:Vx 64 4):num_Nat_Zero x=some (decide (n4 x=0)):=by
 unfold num_Nat_Zero ltt
 congr 1
 refine decide_eq_decide.2 ⟨fun h=>by rw [h,n4_zero],fun h=>n4_ext (by rw [h,n4_zero])⟩
theorem R4.zero (hm:Md m) (hx:R4 m x a):num_Nat_Zero x=some (decide (a=0)):=by
 rw [num_Zero_eq]
 congr 1
 refine decide_eq_decide.2 ⟨fun h=>?_,fun h=>?_⟩
 ·exact hm.cancel_lt hx.1 (by have:=hm.two; omega) (by rw [← hx.2,h,Nat.zero_mul,Nat.zero_mod])
 ·rw [hx.2,h,Nat.zero_mul,Nat.zero_mod]
theorem num_Less_eq (x y:Vx 64 4):num_Nat_Less x y=some (decide (n4 x<n4 y)):=by
 obtain ⟨⟨s,c⟩,h1,e1,l1⟩:=num_sub_ex x y
 dsimp only at e1 l1
 have:=n4_lt s
 have:=n4_lt y
 have:=n4_lt x
 unfold num_Nat_Less
 refine bind_i h1 ?_
 unfold ltt
 congr 1
 refine decide_eq_decide.2 ⟨fun h=>?_,fun h=>?_⟩
 ·have hc':c.toNat=1:=by rw [show c=1#64 from h]; rfl
  omega
 ·exact BitVec.eq_of_toNat_eq (show c.toNat=1 by omega)
theorem Fd.rest (F:Fd m M inv one two) (hx:n4 x<2 * m) : ∃ r,num_Field_Rest M inv one two x=some r∧n4 r=n4 x % m:=by
 obtain ⟨⟨s,c⟩,h1,e1,l1⟩:=num_sub_ex x M
 dsimp only at e1 l1
 rw [F.hM] at e1
 have:=n4_lt s
 have:=n4_lt x
 have hmlt:=F.md.lt
 unfold num_Field_Rest
 by_cases hc:c=0#64
 ·have hc':c.toNat=0:=by rw [hc]; rfl
  refine ⟨s,bind_i h1 (if_i hc rfl),?_⟩
  rw [show n4 x=n4 s+m by omega,Nat.add_mod_right,Nat.mod_eq_of_lt (by omega)]
 ·have hc':c.toNat=1:=by
   have:c.toNat ≠ 0:=fun h=>hc (BitVec.eq_of_toNat_eq h)
   omega
  refine ⟨x,bind_i h1 (if_n hc rfl),?_⟩
  rw [Nat.mod_eq_of_lt (by omega)]
theorem n4_two:n4 (vp (replicate 4 0#64) 0 2#64)=2:=by decide
theorem Fd.inverse (F:Fd m M inv one two) (hx:R4 m x a) : ∃ r,num_Field_Inv M inv one two x=some r∧R4 m r (a ^ (m - 2) % m):=by
 obtain ⟨⟨e,c⟩,h1,e1,l1⟩:=num_sub_ex M (vp (replicate 4 0#64) 0 2#64)
 dsimp only at e1 l1
 rw [F.hM,n4_two] at e1
 have hmt:=F.md.two
 have hmlt:=F.md.lt
 have:=n4_lt e
 have he:n4 e=m - 2:=by omega
 have key : ∃ r,loop (num_Field_Inv.b0 M inv one two x (e,c)) BIG (255,one)=some r∧R4 m r (a ^ (m - 2) % m):=by
  refine loop_inv 256 (fun k s=>s.1=255 - (k:Int)∧R4 m s.2 (a ^ ((m - 2) / 2 ^ (256 - k)) % m)) _ (by decide) ⟨rfl,?_⟩ ?_ ?_
  ·dsimp only
   rw [Nat.div_eq_of_lt (by rw [Nat.sub_zero]; omega),Nat.pow_zero]
   exact F.unit
  ·rintro k ⟨i,o⟩ hk ⟨hi,ho⟩
   dsimp only at hi ho
   obtain ⟨j,hj⟩ : ∃ j,j=255 - k:=⟨_,rfl⟩
   have hi':i=(j:Int):=by omega
   rw [show 256 - k=j+1 by omega] at ho
   obtain ⟨r,hr,hR⟩:=F.mul ho ho
   rw [pow_dbl] at hR
   have hbit:=bit4 e j (by omega)
   rw [he] at hbit
   have hh:=half_eq (m - 2) j
   subst hi'
   have w1:w64 ((j:Int) - 1)=255 - ((k+1:Nat):Int):=by rw [w64_id (by omega) (by omega)]; omega
   have w2:w64 ((j:Int).tdiv 64)=((j / 64:Nat):Int):=w64_div (b:=64) (by omega)
   have w3:(j:Int).tmod 64=((j % 64:Nat):Int):=tmodN' j 64
   unfold num_Field_Inv.b0
   dsimp only
   rw [w2,w3]
   simp only [Int.toNat_natCast]
   clear w2 w3
   by_cases hb:(vg e (j / 64) >>> (j % 64)) &&& 1#64=1#64
   ·obtain ⟨r2,hr2,hR2⟩:=F.mul hR hx
    rw [pow_dbl1] at hR2
    refine ⟨(255 - ((k+1:Nat):Int),r2),if_i (by omega) (bind_i hr (if_i (by omega) (if_i (by omega) (if_i hb (bind_i hr2 (ltt_i fun v hv=>by rw [hv,w1])))))),rfl,?_⟩
    dsimp only
    rw [show 256 - (k+1)=j by omega,hh,hbit.1 hb]
    exact hR2
   ·refine ⟨(255 - ((k+1:Nat):Int),r),if_i (by omega) (bind_i hr (if_i (by omega) (if_i (by omega) (if_n hb (ltt_i fun v hv=>by rw [hv,w1]))))),rfl,?_⟩
    dsimp only
    have h0:(m - 2) / 2 ^ j % 2=0:=by
     have : ¬ ((m - 2) / 2 ^ j % 2=1):=fun h=>hb (hbit.2 h)
     omega
    rw [show 256 - (k+1)=j by omega,hh,h0,Nat.add_zero]
    exact hR
  ·rintro ⟨i,o⟩ ⟨hi,ho⟩
   dsimp only at hi ho
   subst hi
   refine ⟨o,by unfold num_Field_Inv.b0; exact if_n (by dsimp only; omega) rfl,?_⟩
   rw [Nat.sub_self,Nat.pow_zero,Nat.div_one] at ho
   exact ho
 obtain ⟨r,h2,hR⟩:=key
 refine ⟨r,?_,hR⟩
 unfold num_Field_Inv
 exact bind_i h1 (bind_i h2 rfl)
end
end Go.Kx
end

section
namespace Go.Proofs
open Go Go.Kx
open Vector (replicate)
open TryI Try
def halberdref9_add (which:Int) (a_:Vx 32 8) (b:Vx 32 8):Option (Vx 32 8) :=
 (halberdref9_modulus which).bind fun (r_1:Vx 32 8)=>((halberdref9_plus a_ b).bind fun (r_2:Vx 32 8 × BitVec 64)=>((if r_2.2=1#64 then (some true) else ((halberdref9_less r_2.1 r_1).bind fun (r_4:Bool)=>(some (!r_4)))).bind fun (j1:Bool)=>(if j1=true then ((halberdref9_minus r_2.1 r_1).bind fun (r_3:Vx 32 8)=>(some r_3)) else (some r_2.1))))
set_option maxHeartbeats 4000000 in
set_option maxRecDepth 20000 in
theorem F48_calls (which:Int) (a_:Vx 32 8) (b:Vx 32 8) (r:Vx 32 8) (H:halberdref9_add which a_ b=some r) :
  Does Try.prog 48 [vi which,aG [(8,e32 a_.toList)],aG [(8,e32 b.toList)]] [] [] (Γ:=Unit) (fun g=>aG [(8,e32 r.toList)]) (fun g=>[]):=by
 intro w hmem hro hd
 refine calls_of (N:=30) (m0:=[(0,vi which),(1,aG [(8,e32 a_.toList)]),(2,aG [(8,e32 b.toList)])]) func48 rfl ntmps48 (argM_ok [vi which,aG [(8,e32 a_.toList)],aG [(8,e32 b.toList)]]) rfl hmem hro hd ?_
 unfold halberdref9_add at H
 refine TC_seq (TC_region (TLe (E_boxP [(8,e32 a_.toList)] rfl rfl ⟨(lenV (f:=v32) a_),trivial⟩) (fun b1=>?_)))
 refine TLe (E_boxP [(8,e32 b.toList)] rfl rfl ⟨(lenV (f:=v32) b),trivial⟩) (fun b2=>?_)
 refine TLe (E_al32 8 inf31 zer31) (fun b3=>?_)
 refine TL_nil (TX_next (TC_seq (TC_region (TVm ?_))))
 obtain ⟨r_1,hr_1,H⟩:=bind_elim H
 refine TLe (E_c0 (F79_calls which r_1 hr_1) call79 .z) (fun g_1=>?_)
 refine TLe (E_al32 8 inf31 zer31) (fun b4=>?_)
 refine TLn (E_sv (vs:=e32 r_1.toList) 0 inf31) (fun _=>?_)
 refine TL_nil (TX_next (TC_seq (TC_region (TLv (V_lag (.o 3) isAgg31 inf31) ?_))))
 refine TLv (V_lag (.o 2) isAgg31 inf31) ?_
 obtain ⟨r_2,hr_2,H⟩:=bind_elim H
 refine TLe (E_c0 (F83_calls a_ b r_2 hr_2) call83 .z) (fun g_2=>?_)
 refine TVm ?_
 refine TLv V_ex ?_
 refine TLv V_ex ?_
 refine TLe (E_al32 8 inf31 zer31) (fun b5=>?_)
 refine TLn (E_sv (vs:=e32 r_2.1.toList) 0 inf31) (fun _=>?_)
 refine TVa ?_
 refine TL_nil (TX_next (TC_seq (TC_seq (TC_region (TVm ?_)))))
 refine TLv (V_bin rfl rfl (fun w=>eql64 w r_2.2 1#64)) ?_
 refine TVm ?_
 obtain ⟨j1,Hj,H⟩:=bind_elim H
 refine TL_join (Γ:=Unit) (fun gj1=>[(6,ptr (some (b3,0)) 0),(7,ptr (some (b4,0)) 0),(8,ptr (some (b5,0)) 0),(25,vb j1)]) (fun gj1=>[⟨some (b3,0),e32 ((replicate 8 0#32).toList)⟩,⟨some (b4,0),e32 r_1.toList⟩,⟨some (b5,0),e32 r_2.1.toList⟩]) ?_ ?_
 ·intro gj1
  refine TX_next (TCb H (fun hc H=>?_) (fun hc H=>?_))
  ·refine TC_region (TLv (V_lag (.o 2) isAgg31 inf31) ?_)
   refine TLv (V_lag (.o 1) isAgg31 inf31) ?_
   obtain ⟨r_3,hr_3,H⟩:=bind_elim H
   refine TLe (E_c0 (F82_calls r_2.1 r_1 r_3 hr_3) call82 .z) (fun g_3=>?_)
   refine TLn (E_sv (vs:=e32 r_3.toList) 2 inf31) (fun _=>?_)
   refine TL_nil (TX_next (TC_seq (TC_region (TLv (V_lag (.o 2) isAgg31 inf31) ?_))))
   refine TLn (E_sv (vs:=e32 r_3.toList) 0 inf31) (fun _=>?_)
   refine TL_nil (TX_next (TC_ret ?_))
   obtain rfl:=sj H
   exact TXr (vs:=[_]) rfl ⟨(Res_agg (n:=8) rfl (by simp) (.o 0) isAgg31 inf31 rfl (lenV (f:=v32) r_3)),trivial⟩
  ·refine TC_skip (TX_next (TC_seq (TC_region (TLv (V_lag (.o 2) isAgg31 inf31) ?_))))
   refine TLn (E_sv (vs:=e32 r_2.1.toList) 0 inf31) (fun _=>?_)
   refine TL_nil (TX_next (TC_ret ?_))
   obtain rfl:=sj H
   exact TXr (vs:=[_]) rfl ⟨(Res_agg (n:=8) rfl (by simp) (.o 0) isAgg31 inf31 rfl (lenV (f:=v32) r_2.1)),trivial⟩
 ·intro hJ
  replace H:=Hj
  refine TFd (d:=20) H (fun hc H=>?_) (fun hc H=>?_)
  ·refine TLs ?_
   refine TLs ?_
   refine TLs ?_
   refine TLs ?_
   refine TVt ?_
   refine TL_nil ?_
   obtain rfl:=sj H
   exact TXj [2,1,0] (hJ ())
  ·refine TLw (V_lag (.o 0) isAgg31 inf31) ?_
   refine TLw (V_lag (.o 1) isAgg31 inf31) ?_
   obtain ⟨r_4,hr_4,H⟩:=bind_elim H
   refine TLu (E_c0 (F78_calls r_2.1 r_1 r_4 hr_4) call78 .z) (fun g_4=>?_)
   refine TLw (V_un rfl (fun w=>notB w r_4)) ?_
   refine TVf ?_
   refine TL_nil ?_
   obtain rfl:=sj H
   exact TXj [2,1,0] (hJ ())
end Go.Proofs
end

section
namespace Go.Proofs
open Go Go.Kx
open Vector (replicate)
open TryI Try
def halberdref9_sub (which:Int) (a_:Vx 32 8) (b:Vx 32 8):Option (Vx 32 8) :=
 (halberdref9_less a_ b).bind fun (r_1:Bool)=>(if r_1=true then ((halberdref9_modulus which).bind fun (r_2:Vx 32 8)=>((halberdref9_plus a_ r_2).bind fun (r_3:Vx 32 8 × BitVec 64)=>((halberdref9_minus r_3.1 b).bind fun (r_4:Vx 32 8)=>(some r_4)))) else ((halberdref9_minus a_ b).bind fun (r_5:Vx 32 8)=>(some r_5)))
set_option maxHeartbeats 4000000 in
set_option maxRecDepth 20000 in
theorem F49_calls (which:Int) (a_:Vx 32 8) (b:Vx 32 8) (r:Vx 32 8) (H:halberdref9_sub which a_ b=some r) :
  Does Try.prog 49 [vi which,aG [(8,e32 a_.toList)],aG [(8,e32 b.toList)]] [] [] (Γ:=Unit) (fun g=>aG [(8,e32 r.toList)]) (fun g=>[]):=by
 intro w hmem hro hd
 refine calls_of (N:=23) (m0:=[(0,vi which),(1,aG [(8,e32 a_.toList)]),(2,aG [(8,e32 b.toList)])]) func49 rfl ntmps49 (argM_ok [vi which,aG [(8,e32 a_.toList)],aG [(8,e32 b.toList)]]) rfl hmem hro hd ?_
 unfold halberdref9_sub at H
 refine TC_seq (TC_region (TLe (E_boxP [(8,e32 a_.toList)] rfl rfl ⟨(lenV (f:=v32) a_),trivial⟩) (fun b1=>?_)))
 refine TLe (E_boxP [(8,e32 b.toList)] rfl rfl ⟨(lenV (f:=v32) b),trivial⟩) (fun b2=>?_)
 refine TLe (E_al32 8 inf31 zer31) (fun b3=>?_)
 refine TL_nil (TX_next (TC_seq (TC_seq (TC_region (TLv (V_lag (.o 2) isAgg31 inf31) ?_)))))
 refine TLv (V_lag (.o 1) isAgg31 inf31) ?_
 obtain ⟨r_1,hr_1,H⟩:=bind_elim H
 refine TLe (E_c0 (F78_calls a_ b r_1 hr_1) call78 .z) (fun g_1=>?_)
 refine TL_nil (TX_next (TCb H (fun hc H=>?_) (fun hc H=>?_)))
 ·refine TC_seq ?_
  obtain ⟨r_2,hr_2,H⟩:=bind_elim H
  obtain ⟨r_3,hr_3,H⟩:=bind_elim H
  refine TA_begin [⟨some (b3,0),e32 ((replicate 8 0#32).toList)⟩,⟨some (b2,0),e32 b.toList⟩,⟨some (b1,0),e32 a_.toList⟩] 9 (by kernel_rfl) (N:=10) rfl ?_
  refine TA_tk 0 [0,0,0] (dn 10 1) rfl rfl (V_lag (.o 2) isAgg31 inf31) ?_
  refine TA_tk 1 [0,0,0] (dn 10 3) rfl rfl (V_move rfl) ?_
  refine TA_mix (is:=[0,0,0]) (done':=dn 10 255) [itV 2 15 (aG [(8,e32 r_2.toList)]) [],itV 3 16 (Value.tuple [aG [(8,e32 r_3.1.toList)],v64 r_3.2].toArray) [2],itV 4 12 (Value.tuple [aG [(8,e32 r_3.1.toList)],v64 r_3.2].toArray) [3],itV 5 17 (aG [(8,e32 r_3.1.toList)]) [4],itA32 7 7 8] [itV 6 18 (v64 r_3.2) [4]] 2 (by kernel_rfl) (QP.then (QP.then QP.body)) (by kernel_rfl) rfl (.e rfl (E_cu (F79_calls which r_2 hr_2) call79 .z) (.e rfl (E_cu (F83_calls a_ r_2 r_3 hr_3) call83 .z) (.v rfl (V_move rfl) (.v rfl V_ex (.c rfl (fun _ _=>(E_al32 8 inf31 zer31)) .nil))))) (.c rfl (fun _=>V_ex) .nil) (by kernel_rfl) rfl (fun γ=>?_)
  refine TA_cut [(18,v64 r_3.2),(7,ptr (some ((γ 7),0)) 0),(17,aG [(8,e32 r_3.1.toList)]),(6,ptr (some (b3,0)) 0),(5,ptr (some (b2,0)) 0),(4,ptr (some (b1,0)) 0)] [⟨some ((γ 7),0),e32 ((replicate 8 0#32).toList)⟩,⟨some (b3,0),e32 ((replicate 8 0#32).toList)⟩,⟨some (b2,0),e32 b.toList⟩,⟨some (b1,0),e32 a_.toList⟩] ⟨rfl,rfl,rfl,rfl,rfl,rfl,trivial⟩ rfl ?_
  generalize γ 7=b4
  refine TA_all (rs:=[8]) (by kernel_rfl) rfl ?_
  refine ⟨?_,trivial⟩
  refine TO_n (is:=[1,1,1]) (done':=dn 10 511) rfl rfl rfl (by kernel_rfl) (E_sv (vs:=e32 r_3.1.toList) 0 inf31) (fun _ _=>rfl) (fun _=>?_)
  refine TA_all (rs:=[9]) (by kernel_rfl) rfl ?_
  refine ⟨?_,trivial⟩
  refine TO_v (is:=[]) (R:=[]) (done':=dn 10 1023) rfl rfl rfl rfl (by kernel_rfl) (V_assign rfl) (fun h=>by cases h) ?_
  refine TA_done (by kernel_rfl) ?_ 0
  refine TX_next (TC_region (TLv (V_lag (.o 0) isAgg31 inf31) ?_))
  refine TLn (E_sv (vs:=e32 r_3.1.toList) 3 inf31) (fun _=>?_)
  refine TL_nil (TX_next (TC_seq (TC_region (TLv (V_lag (.o 3) isAgg31 inf31) ?_))))
  refine TLv (V_lag (.o 2) isAgg31 inf31) ?_
  obtain ⟨r_4,hr_4,H⟩:=bind_elim H
  refine TLe (E_c0 (F82_calls r_3.1 b r_4 hr_4) call82 .z) (fun g_4=>?_)
  refine TLn (E_sv (vs:=e32 r_4.toList) 1 inf31) (fun _=>?_)
  refine TL_nil (TX_next (TC_ret ?_))
  obtain rfl:=sj H
  exact TXr (vs:=[_]) rfl ⟨(Res_agg (n:=8) rfl (by simp) (.o 1) isAgg31 inf31 rfl (lenV (f:=v32) r_4)),trivial⟩
 ·refine TC_skip (TX_next (TC_seq (TC_region (TLv (V_lag (.o 2) isAgg31 inf31) ?_))))
  refine TLv (V_lag (.o 1) isAgg31 inf31) ?_
  obtain ⟨r_5,hr_5,H⟩:=bind_elim H
  refine TLe (E_c0 (F82_calls a_ b r_5 hr_5) call82 .z) (fun g_5=>?_)
  refine TLn (E_sv (vs:=e32 r_5.toList) 0 inf31) (fun _=>?_)
  refine TL_nil (TX_next (TC_ret ?_))
  obtain rfl:=sj H
  exact TXr (vs:=[_]) rfl ⟨(Res_agg (n:=8) rfl (by simp) (.o 0) isAgg31 inf31 rfl (lenV (f:=v32) r_5)),trivial⟩
end Go.Proofs
end

section
namespace Go.Proofs
open Go Go.Kx
open TryI Try
def halberdref9_square (which:Int):Option (Vx 32 8) :=
 ltt (decide (which=0)) fun (x1:Bool)=>(if x1=true then (ltt ((#v[3#32,0#32,4294967295#32,4294967291#32,4294967294#32,4294967295#32,4294967293#32,4#32]:Vx 32 8)) fun (m_1:Vx 32 8)=>(some m_1)) else (ltt (decide (which=1)) fun (x2:Bool)=>(if x2=true then (ltt ((#v[3195661986#32,2200194197#32,1237151654#32,1184463260#32,728493145#32,675656249#32,4091106848#32,1726033300#32]:Vx 32 8)) fun (m_2:Vx 32 8)=>(some m_2)) else (ltt ((#v[1444#32,0#32,0#32,0#32,0#32,0#32,0#32,0#32]:Vx 32 8)) fun (m_3:Vx 32 8)=>(some m_3)))))
set_option maxHeartbeats 4000000 in
set_option maxRecDepth 20000 in
theorem F80_calls (which:Int) (r:Vx 32 8) (H:halberdref9_square which=some r) :
  Does Try.prog 80 [vi which] [] [] (Γ:=Unit) (fun g=>aG [(8,e32 r.toList)]) (fun g=>[]):=by
 intro w hmem hro hd
 refine calls_of (N:=11) (m0:=[(0,vi which)]) func80 rfl ntmps80 (argM_ok [vi which]) rfl hmem hro hd ?_
 unfold halberdref9_square at H
 refine TC_seq (TC_region (TLe (E_al32 8 inf31 zer31) (fun b1=>?_)))
 refine TL_nil (TX_next (TC_seq (TC_seq (TC_region (TVm ?_)))))
 refine TL_nil (TX_next (TC_block (TC_seq (TC_region (TLv (V_bin rfl rfl (fun w=>eqlI w which 0)) ?_)))))
 refine TVa ?_
 obtain ⟨x1,hx1,H⟩:=ltt_elim H
 refine TLr 4 (congrArg vb hx1) ?_
 refine TL_nil (TX_next (TCb H (fun hc H=>?_) (fun hc H=>?_)))
 ·refine TC_seq (TC_region (TLv (V_buildArr (pv:=[(0,v32 3#32),(1,v32 0#32),(2,v32 4294967295#32),(3,v32 4294967291#32),(4,v32 4294967294#32),(5,v32 4294967295#32),(6,v32 4294967293#32),(7,v32 4#32)]) rfl rfl underlying31 inf31 inf29 rfl zer31 (cs:=e32 ((#v[3#32,0#32,4294967295#32,4294967291#32,4294967294#32,4294967295#32,4294967293#32,4#32]:Vx 32 8).toList)) (by kernel_rfl)) ?_))
  refine TLn (E_sv 0 inf31) (fun _=>?_)
  obtain ⟨m_1,hm_1,H⟩:=ltt_elim H
  refine TL_reE (j:=0) (A:=some (b1,0)) (cs:=e32 ((#v[3#32,0#32,4294967295#32,4294967291#32,4294967294#32,4294967295#32,4294967293#32,4#32]:Vx 32 8).toList)) (cs':=e32 m_1.toList) rfl (congrArg (fun z:Vx 32 8=>e32 (Vector.toList z)) hm_1) ?_
  refine TL_nil (TX_next (TC_ret (TX_block_ret (TX_then_ret ?_))))
  obtain rfl:=sj H
  exact TXr (vs:=[_]) rfl ⟨(Res_agg (n:=8) rfl (by simp) (.o 0) isAgg31 inf31 rfl (lenV (f:=v32) m_1)),trivial⟩
 ·refine TC_seq (TC_region (TLv (V_bin rfl rfl (fun w=>eqlI w which 1)) ?_))
  refine TVa ?_
  obtain ⟨x2,hx2,H⟩:=ltt_elim H
  refine TLr 7 (congrArg vb hx2) ?_
  refine TL_nil (TX_next (TCb H (fun hc H=>?_) (fun hc H=>?_)))
  ·refine TC_seq (TC_region (TLv (V_buildArr (pv:=[(0,v32 3195661986#32),(1,v32 2200194197#32),(2,v32 1237151654#32),(3,v32 1184463260#32),(4,v32 728493145#32),(5,v32 675656249#32),(6,v32 4091106848#32),(7,v32 1726033300#32)]) rfl rfl underlying31 inf31 inf29 rfl zer31 (cs:=e32 ((#v[3195661986#32,2200194197#32,1237151654#32,1184463260#32,728493145#32,675656249#32,4091106848#32,1726033300#32]:Vx 32 8).toList)) (by kernel_rfl)) ?_))
   refine TLn (E_sv 0 inf31) (fun _=>?_)
   obtain ⟨m_2,hm_2,H⟩:=ltt_elim H
   refine TL_reE (j:=0) (A:=some (b1,0)) (cs:=e32 ((#v[3195661986#32,2200194197#32,1237151654#32,1184463260#32,728493145#32,675656249#32,4091106848#32,1726033300#32]:Vx 32 8).toList)) (cs':=e32 m_2.toList) rfl (congrArg (fun z:Vx 32 8=>e32 (Vector.toList z)) hm_2) ?_
   refine TL_nil (TX_next (TC_ret (TX_block_ret (TX_then_ret ?_))))
   obtain rfl:=sj H
   exact TXr (vs:=[_]) rfl ⟨(Res_agg (n:=8) rfl (by simp) (.o 0) isAgg31 inf31 rfl (lenV (f:=v32) m_2)),trivial⟩
  ·refine TC_skip (TX_block_normal (TX_next (TC_seq (TC_region (TLv (V_buildArr (pv:=[(0,v32 1444#32),(1,v32 0#32),(2,v32 0#32),(3,v32 0#32),(4,v32 0#32),(5,v32 0#32),(6,v32 0#32),(7,v32 0#32)]) rfl rfl underlying31 inf31 inf29 rfl zer31 (cs:=e32 ((#v[1444#32,0#32,0#32,0#32,0#32,0#32,0#32,0#32]:Vx 32 8).toList)) (by kernel_rfl)) ?_)))))
   refine TLn (E_sv 0 inf31) (fun _=>?_)
   obtain ⟨m_3,hm_3,H⟩:=ltt_elim H
   refine TL_reE (j:=0) (A:=some (b1,0)) (cs:=e32 ((#v[1444#32,0#32,0#32,0#32,0#32,0#32,0#32,0#32]:Vx 32 8).toList)) (cs':=e32 m_3.toList) rfl (congrArg (fun z:Vx 32 8=>e32 (Vector.toList z)) hm_3) ?_
   refine TL_nil (TX_next (TC_ret ?_))
   obtain rfl:=sj H
   exact TXr (vs:=[_]) rfl ⟨(Res_agg (n:=8) rfl (by simp) (.o 0) isAgg31 inf31 rfl (lenV (f:=v32) m_3)),trivial⟩
end Go.Proofs
end

section
namespace Go.Proofs
open Go Go.Kx
open Vector (replicate)
open TryI Try
def halberdref9_into (which:Int) (a_:Vx 32 8):Option (Vx 32 8) :=
 (halberdref9_square which).bind fun (r_1:Vx 32 8)=>((halberdref9_mont which a_ r_1).bind fun (r_2:Vx 32 8)=>(some r_2))
set_option maxHeartbeats 4000000 in
set_option maxRecDepth 20000 in
theorem F46_calls (which:Int) (a_:Vx 32 8) (r:Vx 32 8) (H:halberdref9_into which a_=some r) :
  Does Try.prog 46 [vi which,aG [(8,e32 a_.toList)]] [] [] (Γ:=Unit) (fun g=>aG [(8,e32 r.toList)]) (fun g=>[]):=by
 intro w hmem hro hd
 refine calls_of (N:=10) (m0:=[(0,vi which),(1,aG [(8,e32 a_.toList)])]) func46 rfl ntmps46 (argM_ok [vi which,aG [(8,e32 a_.toList)]]) rfl hmem hro hd ?_
 unfold halberdref9_into at H
 refine TC_seq (TC_region (TLe (E_boxP [(8,e32 a_.toList)] rfl rfl ⟨(lenV (f:=v32) a_),trivial⟩) (fun b1=>?_)))
 refine TLe (E_al32 8 inf31 zer31) (fun b2=>?_)
 refine TL_nil (TX_next (TC_seq ?_))
 obtain ⟨r_1,hr_1,H⟩:=bind_elim H
 obtain ⟨r_2,hr_2,H⟩:=bind_elim H
 refine TA_begin [] 6 (by kernel_rfl) (N:=6) rfl ?_
 refine TA_mix (is:=[]) (done':=dn 6 31) [itV 0 5 (vi which) [],itV 1 6 (aG [(8,e32 a_.toList)]) [],itV 2 7 (vi which) [],itV 3 8 (aG [(8,e32 r_1.toList)]) [2],itV 4 9 (aG [(8,e32 r_2.toList)]) [3,0,1]] [] 1 (by kernel_rfl) (QP.then QP.body) (by kernel_rfl) rfl (.v rfl (V_move rfl) (.v rfl (V_lag (.o 1) isAgg31 inf31) (.v rfl (V_move rfl) (.e rfl (E_cu (F80_calls which r_1 hr_1) call80 .z) (.e rfl (E_cu (F47_calls which a_ r_1 r_2 hr_2) call47 .z) .nil))))) .nil (by kernel_rfl) rfl (fun γ=>?_)
 refine TA_cut [(9,aG [(8,e32 r_2.toList)]),(4,ptr (some (b2,0)) 0)] [⟨some (b2,0),e32 ((replicate 8 0#32).toList)⟩,⟨some (b1,0),e32 a_.toList⟩] ⟨rfl,rfl,trivial⟩ rfl ?_
 refine TA_all (rs:=[5]) (by kernel_rfl) rfl ?_
 refine ⟨?_,trivial⟩
 refine TO_n (is:=[]) (done':=dn 6 63) rfl rfl rfl (by kernel_rfl) (E_sv (vs:=e32 r_2.toList) 0 inf31) (fun _ _=>rfl) (fun _=>?_)
 refine TA_done (by kernel_rfl) ?_ 0
 refine TX_next (TC_ret ?_)
 obtain rfl:=sj H
 exact TXr (vs:=[_]) rfl ⟨(Res_agg (n:=8) rfl (by simp) (.o 0) isAgg31 inf31 rfl (lenV (f:=v32) r_2)),trivial⟩
end Go.Proofs
end

section
namespace Go.Proofs
open Go Go.Kx
open Vector (replicate)
open TryI Try
def halberdref9_out (which:Int) (a_:Vx 32 8):Option (Vx 32 8) :=
 (halberdref9_mont which a_ (vp (replicate 8 0#32) 0 1#32:Vx 32 8)).bind fun (r_1:Vx 32 8)=>(some r_1)
set_option maxHeartbeats 4000000 in
set_option maxRecDepth 20000 in
theorem F92_calls (which:Int) (a_:Vx 32 8) (r:Vx 32 8) (H:halberdref9_out which a_=some r) :
  Does Try.prog 92 [vi which,aG [(8,e32 a_.toList)]] [] [] (Γ:=Unit) (fun g=>aG [(8,e32 r.toList)]) (fun g=>[]):=by
 intro w hmem hro hd
 refine calls_of (N:=9) (m0:=[(0,vi which),(1,aG [(8,e32 a_.toList)])]) func92 rfl ntmps92 (argM_ok [vi which,aG [(8,e32 a_.toList)]]) rfl hmem hro hd ?_
 unfold halberdref9_out at H
 refine TC_seq (TC_region (TLe (E_boxP [(8,e32 a_.toList)] rfl rfl ⟨(lenV (f:=v32) a_),trivial⟩) (fun b1=>?_)))
 refine TLe (E_al32 8 inf31 zer31) (fun b2=>?_)
 refine TL_nil (TX_next (TC_seq (TC_region (TVm ?_))))
 refine TLv (V_lag (.o 1) isAgg31 inf31) ?_
 refine TLv (V_buildArr (pv:=[(0,v32 1#32)]) rfl rfl underlying31 inf31 inf29 rfl zer31 (cs:=e32 ((vp (replicate 8 0#32) 0 1#32:Vx 32 8).toList)) (by kernel_rfl)) ?_
 obtain ⟨r_1,hr_1,H⟩:=bind_elim H
 refine TLe (E_c0 (F47_calls which a_ (vp (replicate 8 0#32) 0 1#32:Vx 32 8) r_1 hr_1) call47 .z) (fun g_1=>?_)
 refine TLn (E_sv (vs:=e32 r_1.toList) 0 inf31) (fun _=>?_)
 refine TL_nil (TX_next (TC_ret ?_))
 obtain rfl:=sj H
 exact TXr (vs:=[_]) rfl ⟨(Res_agg (n:=8) rfl (by simp) (.o 0) isAgg31 inf31 rfl (lenV (f:=v32) r_1)),trivial⟩
end Go.Proofs
end

section
namespace Go.Proofs
open Go Go.Kx
open Vector (replicate)
open TryI Try
def halberdref9_mul (which:Int) (a_:Vx 32 8) (b:Vx 32 8):Option (Vx 32 8) :=
 (halberdref9_into which a_).bind fun (r_1:Vx 32 8)=>((halberdref9_mont which r_1 b).bind fun (r_2:Vx 32 8)=>(some r_2))
set_option maxHeartbeats 4000000 in
set_option maxRecDepth 20000 in
theorem F52_calls (which:Int) (a_:Vx 32 8) (b:Vx 32 8) (r:Vx 32 8) (H:halberdref9_mul which a_ b=some r) :
  Does Try.prog 52 [vi which,aG [(8,e32 a_.toList)],aG [(8,e32 b.toList)]] [] [] (Γ:=Unit) (fun g=>aG [(8,e32 r.toList)]) (fun g=>[]):=by
 intro w hmem hro hd
 refine calls_of (N:=13) (m0:=[(0,vi which),(1,aG [(8,e32 a_.toList)]),(2,aG [(8,e32 b.toList)])]) func52 rfl ntmps52 (argM_ok [vi which,aG [(8,e32 a_.toList)],aG [(8,e32 b.toList)]]) rfl hmem hro hd ?_
 unfold halberdref9_mul at H
 refine TC_seq (TC_region (TLe (E_boxP [(8,e32 a_.toList)] rfl rfl ⟨(lenV (f:=v32) a_),trivial⟩) (fun b1=>?_)))
 refine TLe (E_boxP [(8,e32 b.toList)] rfl rfl ⟨(lenV (f:=v32) b),trivial⟩) (fun b2=>?_)
 refine TLe (E_al32 8 inf31 zer31) (fun b3=>?_)
 refine TL_nil (TX_next (TC_seq ?_))
 obtain ⟨r_1,hr_1,H⟩:=bind_elim H
 obtain ⟨r_2,hr_2,H⟩:=bind_elim H
 refine TA_begin [] 7 (by kernel_rfl) (N:=7) rfl ?_
 refine TA_mix (is:=[]) (done':=dn 7 63) [itV 0 7 (vi which) [],itV 1 8 (vi which) [],itV 2 9 (aG [(8,e32 a_.toList)]) [],itV 3 10 (aG [(8,e32 r_1.toList)]) [1,2],itV 4 11 (aG [(8,e32 b.toList)]) [],itV 5 12 (aG [(8,e32 r_2.toList)]) [3,4,0]] [] 1 (by kernel_rfl) (QP.then QP.body) (by kernel_rfl) rfl (.v rfl (V_move rfl) (.v rfl (V_move rfl) (.v rfl (V_lag (.o 2) isAgg31 inf31) (.e rfl (E_cu (F46_calls which a_ r_1 hr_1) call46 .z) (.v rfl (V_lag (.o 1) isAgg31 inf31) (.e rfl (E_cu (F47_calls which r_1 b r_2 hr_2) call47 .z) .nil)))))) .nil (by kernel_rfl) rfl (fun γ=>?_)
 refine TA_cut [(12,aG [(8,e32 r_2.toList)]),(6,ptr (some (b3,0)) 0)] [⟨some (b3,0),e32 ((replicate 8 0#32).toList)⟩,⟨some (b2,0),e32 b.toList⟩,⟨some (b1,0),e32 a_.toList⟩] ⟨rfl,rfl,trivial⟩ rfl ?_
 refine TA_all (rs:=[6]) (by kernel_rfl) rfl ?_
 refine ⟨?_,trivial⟩
 refine TO_n (is:=[]) (done':=dn 7 127) rfl rfl rfl (by kernel_rfl) (E_sv (vs:=e32 r_2.toList) 0 inf31) (fun _ _=>rfl) (fun _=>?_)
 refine TA_done (by kernel_rfl) ?_ 0
 refine TX_next (TC_ret ?_)
 obtain rfl:=sj H
 exact TXr (vs:=[_]) rfl ⟨(Res_agg (n:=8) rfl (by simp) (.o 0) isAgg31 inf31 rfl (lenV (f:=v32) r_2)),trivial⟩
end Go.Proofs
end

section
namespace Go.Proofs
open Go Go.Kx
open Vector (replicate)
open TryI Try
def halberdref9_power.b0 (which:Int) (a_:Vx 32 8) (r_2:Vx 32 8) (s0:Int × Vx 32 8):Option ((Int × Vx 32 8) ⊕ (Vx 32 8)) :=
 if 0≤s0.1 then ((halberdref9_mont which s0.2 s0.2).bind fun (r_4:Vx 32 8)=>(if 0≤w64 (s0.1.tdiv 32)∧w64 (s0.1.tdiv 32)<(8:Int) then (if 0≤s0.1.tmod 32 then (if (((vg r_2 ((w64 (s0.1.tdiv 32)).toNat)) >>> (s0.1.tmod 32).toNat) &&& 1#32)=1#32 then ((halberdref9_mont which r_4 a_).bind fun (r_5:Vx 32 8)=>(ltt (w64 (s0.1 - 1)) fun (i1:Int)=>(some (.inl (i1,r_5))))) else (ltt (w64 (s0.1 - 1)) fun (i2:Int)=>(some (.inl (i2,r_4))))) else none) else none)) else (some (.inr s0.2))
def halberdref9_power (which:Int) (a_:Vx 32 8):Option (Vx 32 8) :=
 (halberdref9_modulus which).bind fun (r_1:Vx 32 8)=>((halberdref9_minus r_1 (vp (replicate 8 0#32) 0 2#32:Vx 32 8)).bind fun (r_2:Vx 32 8)=>((halberdref9_into which (vp (replicate 8 0#32) 0 1#32:Vx 32 8)).bind fun (r_3:Vx 32 8)=>((loop (halberdref9_power.b0 which a_ r_2) BIG (255,r_3)).bind fun (t_1:Vx 32 8)=>(some t_1))))
set_option maxHeartbeats 4000000 in
set_option maxRecDepth 20000 in
theorem F91_calls (which:Int) (a_:Vx 32 8) (r:Vx 32 8) (H:halberdref9_power which a_=some r) :
  Does Try.prog 91 [vi which,aG [(8,e32 a_.toList)]] [] [] (Γ:=Unit) (fun g=>aG [(8,e32 r.toList)]) (fun g=>[]):=by
 intro w hmem hro hd
 refine calls_of (N:=37) (m0:=[(0,vi which),(1,aG [(8,e32 a_.toList)])]) func91 rfl ntmps91 (argM_ok [vi which,aG [(8,e32 a_.toList)]]) rfl hmem hro hd ?_
 unfold halberdref9_power at H
 refine TC_seq (TC_region (TLe (E_boxP [(8,e32 a_.toList)] rfl rfl ⟨(lenV (f:=v32) a_),trivial⟩) (fun b1=>?_)))
 refine TLe (E_al32 8 inf31 zer31) (fun b2=>?_)
 refine TL_nil (TX_next (TC_seq (TC_region (TVm ?_))))
 obtain ⟨r_1,hr_1,H⟩:=bind_elim H
 refine TLe (E_c0 (F79_calls which r_1 hr_1) call79 .z) (fun g_1=>?_)
 refine TLv (V_buildArr (pv:=[(0,v32 2#32)]) rfl rfl underlying31 inf31 inf29 rfl zer31 (cs:=e32 ((vp (replicate 8 0#32) 0 2#32:Vx 32 8).toList)) (by kernel_rfl)) ?_
 obtain ⟨r_2,hr_2,H⟩:=bind_elim H
 refine TLe (E_c0 (F82_calls r_1 (vp (replicate 8 0#32) 0 2#32:Vx 32 8) r_2 hr_2) call82 .z) (fun g_2=>?_)
 refine TLe (E_al32 8 inf31 zer31) (fun b3=>?_)
 refine TLn (E_sv (vs:=e32 r_2.toList) 0 inf31) (fun _=>?_)
 refine TL_nil (TX_next (TC_seq (TC_region (TVm ?_))))
 refine TLv (V_buildArr (pv:=[(0,v32 1#32)]) rfl rfl underlying31 inf31 inf29 rfl zer31 (cs:=e32 ((vp (replicate 8 0#32) 0 1#32:Vx 32 8).toList)) (by kernel_rfl)) ?_
 obtain ⟨r_3,hr_3,H⟩:=bind_elim H
 refine TLe (E_c0 (F46_calls which (vp (replicate 8 0#32) 0 1#32:Vx 32 8) r_3 hr_3) call46 .z) (fun g_3=>?_)
 refine TLe (E_al32 8 inf31 zer31) (fun b4=>?_)
 refine TLn (E_sv (vs:=e32 r_3.toList) 0 inf31) (fun _=>?_)
 refine TL_nil (TX_next (TC_seq (TC_seq (TC_region (TVa ?_)))))
 refine TL_nil (TX_next (TC_block ?_))
 obtain ⟨t_1,Hl,H⟩:=bind_elim H
 refine TC.sub (m':=[(0,_),(3,_),(4,_),(5,_),(6,_),(7,_)]) ⟨rfl,rfl,rfl,rfl,rfl,rfl,trivial⟩ ?_
 refine TC.pull (is:=[3,2,1,0]) (L':=[_,_,_,_]) rfl ?_
 refine TC_loopL (id:=0) (body:=(halberdref9_power.b0 which a_ r_2)) (σ:=Int × Vx 32 8) (Γ:=Unit) (Γx:=Unit) (fun s0 g0_=>[(0,vi which),(3,ptr (some (b1,0)) 0),(4,ptr (some (b2,0)) 0),(5,ptr (some (b3,0)) 0),(6,ptr (some (b4,0)) 0),(7,vi s0.1)]) (fun s0 g0_=>[⟨some (b1,0),e32 a_.toList⟩,⟨some (b2,0),e32 ((replicate 8 0#32).toList)⟩,⟨some (b3,0),e32 r_2.toList⟩,⟨some (b4,0),e32 s0.2.toList⟩]) (fun t g=>[(4,ptr (some (b2,0)) 0),(6,ptr (some (b4,0)) 0)]) (fun t g=>[⟨some (b2,0),e32 ((replicate 8 0#32).toList)⟩,⟨some (b4,0),e32 t.toList⟩]) ?_ BIG (255,r_3) () t_1 Hl ?_
 ·intro s0 g0_ r1 H K hK hE
  unfold halberdref9_power.b0 at H
  refine TC_seq (TC_seq (TC_region (TVm ?_)))
  refine TLv (V_bin rfl rfl (fun w=>geqI w s0.1 0)) ?_
  refine TL_nil (TX_next (TCd H (fun hc H=>?_) (fun hc H=>?_)))
  ·refine TC_skip (TX_next (TC_seq (TC_block (TC_seq (TC_region (TVm ?_))))))
   refine TLv (V_lag (.o 3) isAgg31 inf31) ?_
   refine TLv (V_lag (.o 3) isAgg31 inf31) ?_
   obtain ⟨r_4,hr_4,H⟩:=bind_elim H
   refine TLe (E_c0 (F47_calls which s0.2 s0.2 r_4 hr_4) call47 .z) (fun g_4=>?_)
   refine TLn (E_sv (vs:=e32 r_4.toList) 3 inf31) (fun _=>?_)
   refine TL_nil (TX_next (TC_seq (TC_region (TVm ?_))))
   refine TLv (V_bin rfl rfl (fun w=>quoI w s0.1 32 (by decide))) ?_
   obtain ⟨h1,H⟩:=if_elim H
   refine TLv (V_idxArr (i:=w64 (s0.1.tdiv 32)) rfl rfl underlying31 inf29 rfl h1.1 h1.2 (k:=(w64 (s0.1.tdiv 32)).toNat) (k01 _)) ?_
   refine TLv (V_load rfl (.o 2) (get_vec (f:=v32) (V:=r_2) (toNat_lt h1.1 h1.2)) isAgg29) ?_
   refine TVm ?_
   refine TLv (V_bin rfl rfl (fun w=>remI w s0.1 32 (by decide))) ?_
   obtain ⟨h2,H⟩:=if_elim H
   refine TLv (V_bin rfl rfl (fun w=>shr32 w (vg r_2 ((w64 (s0.1.tdiv 32)).toNat)) .i64 (s0.1.tmod 32) h2)) ?_
   refine TLv (V_bin rfl rfl (fun w=>and32 w ((vg r_2 ((w64 (s0.1.tdiv 32)).toNat)) >>> (s0.1.tmod 32).toNat) 1#32)) ?_
   refine TLv (V_bin rfl rfl (fun w=>eql32 w (((vg r_2 ((w64 (s0.1.tdiv 32)).toNat)) >>> (s0.1.tmod 32).toNat) &&& 1#32) 1#32)) ?_
   refine TL_nil (TX_next (TCd H (fun hc H=>?_) (fun hc H=>?_)))
   ·refine TC_region (TVm ?_)
    refine TLv (V_lag (.o 3) isAgg31 inf31) ?_
    refine TLv (V_lag (.o 0) isAgg31 inf31) ?_
    obtain ⟨r_5,hr_5,H⟩:=bind_elim H
    refine TLe (E_c0 (F47_calls which r_4 a_ r_5 hr_5) call47 .z) (fun g_5=>?_)
    refine TLn (E_sv (vs:=e32 r_5.toList) 3 inf31) (fun _=>?_)
    refine TL_nil (TX_block_normal (TX_next (TC_region (TVm ?_))))
    refine TLv (V_bin rfl rfl (fun w=>subI w s0.1 1)) ?_
    refine TVa ?_
    obtain ⟨i1,hi1,H⟩:=ltt_elim H
    refine TLr 7 (congrArg vi hi1) ?_
    refine TL_nil ?_
    obtain rfl:=sj H
    exact TXk [0,0,0,0] (hK (i1,r_5) rfl ())
   ·refine TC_skip (TX_block_normal (TX_next (TC_region (TVm ?_))))
    refine TLv (V_bin rfl rfl (fun w=>subI w s0.1 1)) ?_
    refine TVa ?_
    obtain ⟨i2,hi2,H⟩:=ltt_elim H
    refine TLr 7 (congrArg vi hi2) ?_
    refine TL_nil ?_
    obtain rfl:=sj H
    exact TXk [0,0,0,0] (hK (i2,r_4) rfl ())
  ·refine TC_exit (TX_then_exit (TX_then_exit ?_))
   obtain rfl:=sj H
   exact TXj [1,2] (hE s0.2 rfl ())
 ·intro g
  refine TX_block_exit (TX_next (TC_seq (TC_region (TLv (V_lag (.o 1) isAgg31 inf31) ?_))))
  refine TLn (E_sv (vs:=e32 t_1.toList) 0 inf31) (fun _=>?_)
  refine TL_nil (TX_next (TC_ret ?_))
  obtain rfl:=sj H
  exact TXr (vs:=[_]) rfl ⟨(Res_agg (n:=8) rfl (by simp) (.o 0) isAgg31 inf31 rfl (lenV (f:=v32) t_1)),trivial⟩
end Go.Proofs
end

section
namespace Go.Proofs
open Go Go.Kx
open TryI Try
def halberdref9_inv (which:Int) (a_:Vx 32 8):Option (Vx 32 8) :=
 (halberdref9_into which a_).bind fun (r_1:Vx 32 8)=>((halberdref9_power which r_1).bind fun (r_2:Vx 32 8)=>((halberdref9_out which r_2).bind fun (r_3:Vx 32 8)=>(some r_3)))
set_option maxHeartbeats 4000000 in
set_option maxRecDepth 20000 in
theorem F66_calls (which:Int) (a_:Vx 32 8) (r:Vx 32 8) (H:halberdref9_inv which a_=some r) :
  Does Try.prog 66 [vi which,aG [(8,e32 a_.toList)]] [] [] (Γ:=Unit) (fun g=>aG [(8,e32 r.toList)]) (fun g=>[]):=by
 intro w hmem hro hd
 refine calls_of (N:=12) (m0:=[(0,vi which),(1,aG [(8,e32 a_.toList)])]) func66 rfl ntmps66 (argM_ok [vi which,aG [(8,e32 a_.toList)]]) rfl hmem hro hd ?_
 unfold halberdref9_inv at H
 refine TC_seq (TC_region (TLe (E_boxP [(8,e32 a_.toList)] rfl rfl ⟨(lenV (f:=v32) a_),trivial⟩) (fun b1=>?_)))
 refine TLe (E_al32 8 inf31 zer31) (fun b2=>?_)
 refine TL_nil (TX_next (TC_seq (TC_region (TVm ?_))))
 refine TVm ?_
 refine TVm ?_
 refine TLv (V_lag (.o 1) isAgg31 inf31) ?_
 obtain ⟨r_1,hr_1,H⟩:=bind_elim H
 refine TLe (E_c0 (F46_calls which a_ r_1 hr_1) call46 .z) (fun g_1=>?_)
 obtain ⟨r_2,hr_2,H⟩:=bind_elim H
 refine TLe (E_c0 (F91_calls which r_1 r_2 hr_2) call91 .z) (fun g_2=>?_)
 obtain ⟨r_3,hr_3,H⟩:=bind_elim H
 refine TLe (E_c0 (F92_calls which r_2 r_3 hr_3) call92 .z) (fun g_3=>?_)
 refine TLn (E_sv (vs:=e32 r_3.toList) 0 inf31) (fun _=>?_)
 refine TL_nil (TX_next (TC_ret ?_))
 obtain rfl:=sj H
 exact TXr (vs:=[_]) rfl ⟨(Res_agg (n:=8) rfl (by simp) (.o 0) isAgg31 inf31 rfl (lenV (f:=v32) r_3)),trivial⟩
end Go.Proofs
end

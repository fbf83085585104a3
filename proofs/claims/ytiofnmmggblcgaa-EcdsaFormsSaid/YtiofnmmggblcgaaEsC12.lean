/-
  Part 12 of the proof of what several laws share.
-/
import Derived.Test.YtiofnmmggblcgaaEsC1
import Derived.Test.YtiofnmmggblcgaaEsC2
import Derived.Test.YtiofnmmggblcgaaEsC3
import Derived.Test.YtiofnmmggblcgaaEsC4
import Derived.Test.YtiofnmmggblcgaaEsC5
import Derived.Test.YtiofnmmggblcgaaEsC6
import Derived.Test.YtiofnmmggblcgaaEsC7
import Derived.Test.YtiofnmmggblcgaaEsC8
import Derived.Test.YtiofnmmggblcgaaEsC9
import Derived.Test.YtiofnmmggblcgaaEsC10
import Derived.Test.YtiofnmmggblcgaaEsC11
set_option linter.unusedVariables false
set_option linter.unusedSimpArgs false
section
namespace Go.Kx
open Go Go.Proofs
open Vector (replicate)
structure Rd (m:Nat) (which:Int):Prop where
 md:Md m
 mod : ∃ M,halberdref9_modulus which=some M∧n8 M=m ∧ ∃ inv,halberdref9_inverse which=some inv∧(wv M 0 * inv.toNat+1) % 2 ^ 32=0
 sq : ∃ q,halberdref9_square which=some q∧n8 q=2 ^ 512 % m
section
variable {m:Nat} {which:Int} {x y:Vx 32 8} {a b:Nat}
theorem Rd.mul0 (F:Rd m which) (hx:n8 x<m) : ∃ r,halberdref9_mont which x y=some r∧n8 r<m∧(n8 r * 2 ^ 256) % m=(n8 x * n8 y) % m:=by
 obtain ⟨M,h1,h2,inv,h3,h4⟩:=F.mod
 have:=ref_mont_ex which M inv h1 h3 h4 x y (by rw [h2]; exact Nat.mul_lt_mul_of_lt_of_le hx (Nat.le_of_lt (n8_lt y)) (by decide))
 rwa [h2] at this
theorem Rd.mul (F:Rd m which) (hx:R8 m x a) (hy:R8 m y b) : ∃ r,halberdref9_mont which x y=some r∧R8 m r (a * b % m):=by
 obtain ⟨r,h1,h2,h3⟩:=F.mul0 (y:=y) (hx.lt F.md)
 exact ⟨r,h1,Nat.mod_lt _ (by have:=F.md.two; omega),prod_rep F.md hx.2 hy.2 h2 h3⟩
theorem Rd.into (F:Rd m which) (hx:n8 x<m) : ∃ r,halberdref9_into which x=some r∧R8 m r (n8 x):=by
 obtain ⟨q,h0,hq⟩:=F.sq
 obtain ⟨r,h1,h2,h3⟩:=F.mul0 (y:=q) hx
 refine ⟨r,?_,hx,in_rep F.md hx h2 (by rw [h3,hq])⟩
 unfold halberdref9_into
 exact bind_i h0 (bind_i h1 rfl)
theorem n8_one:n8 (vp (replicate 8 0#32) 0 1#32)=1:=by decide
theorem n8_two:n8 (vp (replicate 8 0#32) 0 2#32)=2:=by decide
theorem Rd.out (F:Rd m which) (hx:R8 m x a) : ∃ r,halberdref9_out which x=some r∧n8 r=a:=by
 obtain ⟨r,h1,h2,h3⟩:=F.mul0 (y:=(vp (replicate 8 0#32) 0 1#32)) (hx.lt F.md)
 rw [n8_one] at h3
 refine ⟨r,?_,out_rep F.md hx.1 hx.2 h2 h3⟩
 unfold halberdref9_out
 exact bind_i h1 rfl
theorem Rd.unit (F:Rd m which) : ∃ r,halberdref9_into which (vp (replicate 8 0#32) 0 1#32)=some r∧R8 m r (1 % m):=by
 have:=F.into (x:=vp (replicate 8 0#32) 0 1#32) (by rw [n8_one]; have:=F.md.two; omega)
 rw [n8_one] at this
 rwa [Nat.mod_eq_of_lt (by have:=F.md.two; omega)]
theorem Rd.add0 (F:Rd m which) (hx:n8 x<m) (hy:n8 y<m) : ∃ r,halberdref9_add which x y=some r∧n8 r=(n8 x+n8 y) % m:=by
 obtain ⟨M,h0,hM, -⟩:=F.mod
 obtain ⟨⟨s,c⟩,h1,e1,l1⟩:=ref_plus_ex x y
 obtain ⟨d,h2,b',l2,e2⟩:=ref_minus_ex s M
 dsimp only at e1 l1
 have hmlt:=F.md.lt
 have:=n8_lt s
 have:=n8_lt d
 rw [hM] at e2
 have hls:=ref_less_eq s M
 rw [hM] at hls
 unfold halberdref9_add
 by_cases hc:c=1#64
 ·have hc':c.toNat=1:=by rw [hc]; rfl
  refine ⟨d,bind_i h0 (bind_i h1 (bind_i (if_i hc rfl) (if_i rfl (bind_i h2 rfl)))),?_⟩
  rw [show n8 x+n8 y=n8 d+m by omega,Nat.add_mod_right,Nat.mod_eq_of_lt (by omega)]
 ·have hc':c.toNat=0:=by
   have:c.toNat ≠ 1:=fun h=>hc (BitVec.eq_of_toNat_eq h)
   omega
  by_cases hb:n8 s<m
  ·refine ⟨s,bind_i h0 (bind_i h1 (bind_i (v:=false) (if_n hc (bind_i hls (by simp [hb]))) (if_n (by decide) rfl))),?_⟩
   rw [show n8 x+n8 y=n8 s by omega,Nat.mod_eq_of_lt (by omega)]
  ·refine ⟨d,bind_i h0 (bind_i h1 (bind_i (v:=true) (if_n hc (bind_i hls (by simp [hb]))) (if_i rfl (bind_i h2 rfl)))),?_⟩
   rw [show n8 x+n8 y=n8 d+m by omega,Nat.add_mod_right,Nat.mod_eq_of_lt (by omega)]
theorem Rd.add (F:Rd m which) (hx:R8 m x a) (hy:R8 m y b) : ∃ r,halberdref9_add which x y=some r∧R8 m r ((a+b) % m):=by
 obtain ⟨r,h1,h2⟩:=F.add0 (hx.lt F.md) (hy.lt F.md)
 exact ⟨r,h1,Nat.mod_lt _ (by have:=F.md.two; omega),by rw [h2,hx.2,hy.2,add_rep]⟩
theorem Rd.sub0 (F:Rd m which) (hx:n8 x<m) (hy:n8 y<m) : ∃ r,halberdref9_sub which x y=some r∧n8 r=(n8 x+(m - n8 y)) % m:=by
 obtain ⟨M,h0,hM, -⟩:=F.mod
 obtain ⟨⟨s,c⟩,h1,e1,l1⟩:=ref_plus_ex x M
 dsimp only at e1 l1
 have hmlt:=F.md.lt
 have:=n8_lt s
 rw [hM] at e1
 have hls:=ref_less_eq x y
 unfold halberdref9_sub
 rw [sub_mod_eq hx hy]
 by_cases hc:n8 x<n8 y
 ·obtain ⟨d,h2,b',l2,e2⟩:=ref_minus_ex s y
  have:=n8_lt d
  refine ⟨d,bind_i hls (if_i (by simp [hc]) (bind_i h0 (bind_i h1 (bind_i h2 rfl)))),?_⟩
  rw [if_neg (by omega)]; omega
 ·obtain ⟨d,h2,b',l2,e2⟩:=ref_minus_ex x y
  have:=n8_lt d
  refine ⟨d,bind_i hls (if_n (by simp [hc]) (bind_i h2 rfl)),?_⟩
  rw [if_pos (by omega)]; omega
theorem Rd.sub (F:Rd m which) (hx:R8 m x a) (hy:R8 m y b) : ∃ r,halberdref9_sub which x y=some r∧R8 m r ((a+(m - b)) % m):=by
 obtain ⟨r,h1,h2⟩:=F.sub0 (hx.lt F.md) (hy.lt F.md)
 exact ⟨r,h1,Nat.mod_lt _ (by have:=F.md.two; omega),by rw [h2,hx.2,hy.2,sub_rep (by have:=F.md.two; omega) hy.1]⟩
theorem R8.zero (hm:Md m) (hx:R8 m x a):x=replicate 8 0#32 ↔ a=0:=R8.inj hm hx (R8_zero hm)
theorem Rd.power (F:Rd m which) (hx:R8 m x a) : ∃ r,halberdref9_power which x=some r∧R8 m r (a ^ (m - 2) % m):=by
 obtain ⟨M,h0,hM, -⟩:=F.mod
 obtain ⟨e,h1,c,l1,e1⟩:=ref_minus_ex M (vp (replicate 8 0#32) 0 2#32)
 rw [hM,n8_two] at e1
 have hmt:=F.md.two
 have hmlt:=F.md.lt
 have:=n8_lt e
 have he:n8 e=m - 2:=by omega
 obtain ⟨one,h2,hone⟩:=F.unit
 have key : ∃ r,loop (halberdref9_power.b0 which x e) BIG (255,one)=some r∧R8 m r (a ^ (m - 2) % m):=by
  refine loop_inv 256 (fun k s=>s.1=255 - (k:Int)∧R8 m s.2 (a ^ ((m - 2) / 2 ^ (256 - k)) % m)) _ (by decide) ⟨rfl,?_⟩ ?_ ?_
  ·dsimp only
   rw [Nat.div_eq_of_lt (by rw [Nat.sub_zero]; omega),Nat.pow_zero]
   exact hone
  ·rintro k ⟨i,o⟩ hk ⟨hi,ho⟩
   dsimp only at hi ho
   obtain ⟨j,hj⟩ : ∃ j,j=255 - k:=⟨_,rfl⟩
   have hi':i=(j:Int):=by omega
   rw [show 256 - k=j+1 by omega] at ho
   obtain ⟨r,hr,hR⟩:=F.mul ho ho
   rw [pow_dbl] at hR
   have hbit:=bit8 e j (by omega)
   rw [he] at hbit
   have hh:=half_eq (m - 2) j
   subst hi'
   have w1:w64 ((j:Int) - 1)=255 - ((k+1:Nat):Int):=by rw [w64_id (by omega) (by omega)]; omega
   have w2:w64 ((j:Int).tdiv 32)=((j / 32:Nat):Int):=w64_div (b:=32) (by omega)
   have w3:(j:Int).tmod 32=((j % 32:Nat):Int):=tmodN' j 32
   unfold halberdref9_power.b0
   dsimp only
   rw [w2,w3]
   simp only [Int.toNat_natCast]
   clear w2 w3
   by_cases hb:(vg e (j / 32) >>> (j % 32)) &&& 1#32=1#32
   ·obtain ⟨r2,hr2,hR2⟩:=F.mul hR hx
    rw [pow_dbl1] at hR2
    refine ⟨(255 - ((k+1:Nat):Int),r2),if_i (by omega) (bind_i hr (if_i (by omega) (if_i (by omega) (if_i hb (bind_i hr2 (ltt_i fun v hv=>by rw [hv,w1])))))),rfl,?_⟩
    dsimp only
    rw [show 256 - (k+1)=j by omega,hh,hbit.1 hb]
    exact hR2
   ·refine ⟨(255 - ((k+1:Nat):Int),r),if_i (by omega) (bind_i hr (if_i (by omega) (if_i (by omega) (if_n hb (ltt_i fun v hv=>by rw [hv,w1]))))),rfl,?_⟩
    dsimp only
    have h0:(m - 2) / 2 ^ j % 2=0:=by
     have : ¬ ((m - 2) / 2 ^ j % 2=1):=fun h=>hb (hbit.2 h)
     omega
    rw [show 256 - (k+1)=j by omega,hh,h0,Nat.add_zero]
    exact hR
  ·rintro ⟨i,o⟩ ⟨hi,ho⟩
   dsimp only at hi ho
   subst hi
   refine ⟨o,by unfold halberdref9_power.b0; exact if_n (by dsimp only; omega) rfl,?_⟩
   rw [Nat.sub_self,Nat.pow_zero,Nat.div_one] at ho
   exact ho
 obtain ⟨r,h3,hR⟩:=key
 refine ⟨r,?_,hR⟩
 unfold halberdref9_power
 exact bind_i h0 (bind_i h1 (bind_i h2 (bind_i h3 rfl)))
theorem Rd.mulP (F:Rd m which) (hx:n8 x<m) (hy:n8 y<m) : ∃ r,halberdref9_mul which x y=some r∧n8 r=n8 x * n8 y % m:=by
 have h0:0<m:=by have:=F.md.two; omega
 obtain ⟨r1,h1,R1⟩:=F.into hx
 obtain ⟨r2,h2,l2,e2⟩:=F.mul0 (y:=y) (R1.lt F.md)
 refine ⟨r2,?_,?_⟩
 ·unfold halberdref9_mul
  exact bind_i h1 (bind_i h2 rfl)
 ·refine F.md.cancel_lt l2 (Nat.mod_lt _ h0) ?_
  rw [e2,R1.2,Nat.mod_mul_mod,Nat.mod_mul_mod,Nat.mul_right_comm]
theorem Rd.invP (F:Rd m which) (hx:n8 x<m) : ∃ r,halberdref9_inv which x=some r∧n8 r=n8 x ^ (m - 2) % m:=by
 obtain ⟨r1,h1,R1⟩:=F.into hx
 obtain ⟨r2,h2,R2⟩:=F.power R1
 obtain ⟨r3,h3,e3⟩:=F.out R2
 refine ⟨r3,?_,e3⟩
 unfold halberdref9_inv
 exact bind_i h1 (bind_i h2 (bind_i h3 rfl))
end
open Go.Nt in
theorem md_P:Md P256:=⟨by decide,by decide,115792089183396302114378112356516095823261736990586219612555396166510339686400,by decide⟩
end Go.Kx
end

section
namespace Go.Proofs
open Go Go.Kx
open Vector (replicate)
open TryI Try
def num_modulus (which:Int):Option (Vx 64 4 × Bool) :=
 ltt (decide (which=0)) fun (x1:Bool)=>(if x1=true then (ltt ((#v[18446744073709551615#64,4294967295#64,0#64,18446744069414584321#64]:Vx 64 4)) fun (m_1:Vx 64 4)=>(some (m_1,true))) else (ltt (decide (which=1)) fun (x2:Bool)=>(if x2=true then (ltt ((#v[17562291160714782033#64,13611842547513532036#64,18446744073709551615#64,18446744069414584320#64]:Vx 64 4)) fun (m_2:Vx 64 4)=>(some (m_2,true))) else (ltt (decide (which=2)) fun (x3:Bool)=>(if x3=true then (ltt ((#v[18446744073709551597#64,18446744073709551615#64,18446744073709551615#64,9223372036854775807#64]:Vx 64 4)) fun (m_3:Vx 64 4)=>(some (m_3,true))) else (ltt ((replicate 4 0#64:Vx 64 4)) fun (m_4:Vx 64 4)=>(some (m_4,false))))))))
set_option maxHeartbeats 4000000 in
set_option maxRecDepth 20000 in
theorem F84_calls (which:Int) (r:Vx 64 4 × Bool) (H:num_modulus which=some r) :
  Does Try.prog 84 [vi which] [] [] (Γ:=Unit) (fun g=>Value.tuple [aG [(4,e64 r.1.toList)],vb r.2].toArray) (fun g=>[]):=by
 intro w hmem hro hd
 refine calls_of (N:=15) (m0:=[(0,vi which)]) func84 rfl ntmps84 (argM_ok [vi which]) rfl hmem hro hd ?_
 unfold num_modulus at H
 refine TC_seq (TC_region (TLe (E_al64 4 inf57 zer57) (fun b1=>?_)))
 refine TVa ?_
 refine TL_nil (TX_next (TC_seq (TC_seq (TC_region (TVm ?_)))))
 refine TL_nil (TX_next (TC_block (TC_seq (TC_region (TLv (V_bin rfl rfl (fun w=>eqlI w which 0)) ?_)))))
 refine TVa ?_
 obtain ⟨x1,hx1,H⟩:=ltt_elim H
 refine TLr 5 (congrArg vb hx1) ?_
 refine TL_nil (TX_next (TCb H (fun hc H=>?_) (fun hc H=>?_)))
 ·refine TC_seq (TC_region (TLv (V_buildArr (pv:=[(0,v64 18446744073709551615#64),(1,v64 4294967295#64),(2,v64 0#64),(3,v64 18446744069414584321#64)]) rfl rfl underlying57 inf57 inf55 rfl zer57 (cs:=e64 ((#v[18446744073709551615#64,4294967295#64,0#64,18446744069414584321#64]:Vx 64 4).toList)) (by kernel_rfl)) ?_))
  refine TLn (E_sv 0 inf57) (fun _=>?_)
  obtain ⟨m_1,hm_1,H⟩:=ltt_elim H
  refine TL_reE (j:=0) (A:=some (b1,0)) (cs:=e64 ((#v[18446744073709551615#64,4294967295#64,0#64,18446744069414584321#64]:Vx 64 4).toList)) (cs':=e64 m_1.toList) rfl (congrArg (fun z:Vx 64 4=>e64 (Vector.toList z)) hm_1) ?_
  refine TVa ?_
  refine TL_nil (TX_next (TC_ret (TX_block_ret (TX_then_ret ?_))))
  obtain rfl:=sj H
  exact TXr (vs:=[_,_]) rfl ⟨(Res_agg (n:=4) rfl (by simp) (.o 0) isAgg57 inf57 rfl (lenV (f:=v64) m_1)),rfl,trivial⟩
 ·refine TC_seq (TC_region (TLv (V_bin rfl rfl (fun w=>eqlI w which 1)) ?_))
  refine TVa ?_
  obtain ⟨x2,hx2,H⟩:=ltt_elim H
  refine TLr 8 (congrArg vb hx2) ?_
  refine TL_nil (TX_next (TCb H (fun hc H=>?_) (fun hc H=>?_)))
  ·refine TC_seq (TC_region (TLv (V_buildArr (pv:=[(0,v64 17562291160714782033#64),(1,v64 13611842547513532036#64),(2,v64 18446744073709551615#64),(3,v64 18446744069414584320#64)]) rfl rfl underlying57 inf57 inf55 rfl zer57 (cs:=e64 ((#v[17562291160714782033#64,13611842547513532036#64,18446744073709551615#64,18446744069414584320#64]:Vx 64 4).toList)) (by kernel_rfl)) ?_))
   refine TLn (E_sv 0 inf57) (fun _=>?_)
   obtain ⟨m_2,hm_2,H⟩:=ltt_elim H
   refine TL_reE (j:=0) (A:=some (b1,0)) (cs:=e64 ((#v[17562291160714782033#64,13611842547513532036#64,18446744073709551615#64,18446744069414584320#64]:Vx 64 4).toList)) (cs':=e64 m_2.toList) rfl (congrArg (fun z:Vx 64 4=>e64 (Vector.toList z)) hm_2) ?_
   refine TVa ?_
   refine TL_nil (TX_next (TC_ret (TX_block_ret (TX_then_ret ?_))))
   obtain rfl:=sj H
   exact TXr (vs:=[_,_]) rfl ⟨(Res_agg (n:=4) rfl (by simp) (.o 0) isAgg57 inf57 rfl (lenV (f:=v64) m_2)),rfl,trivial⟩
  ·refine TC_seq (TC_region (TLv (V_bin rfl rfl (fun w=>eqlI w which 2)) ?_))
   refine TVa ?_
   obtain ⟨x3,hx3,H⟩:=ltt_elim H
   refine TLr 11 (congrArg vb hx3) ?_
   refine TL_nil (TX_next (TCb H (fun hc H=>?_) (fun hc H=>?_)))
   ·refine TC_seq (TC_region (TLv (V_buildArr (pv:=[(0,v64 18446744073709551597#64),(1,v64 18446744073709551615#64),(2,v64 18446744073709551615#64),(3,v64 9223372036854775807#64)]) rfl rfl underlying57 inf57 inf55 rfl zer57 (cs:=e64 ((#v[18446744073709551597#64,18446744073709551615#64,18446744073709551615#64,9223372036854775807#64]:Vx 64 4).toList)) (by kernel_rfl)) ?_))
    refine TLn (E_sv 0 inf57) (fun _=>?_)
    obtain ⟨m_3,hm_3,H⟩:=ltt_elim H
    refine TL_reE (j:=0) (A:=some (b1,0)) (cs:=e64 ((#v[18446744073709551597#64,18446744073709551615#64,18446744073709551615#64,9223372036854775807#64]:Vx 64 4).toList)) (cs':=e64 m_3.toList) rfl (congrArg (fun z:Vx 64 4=>e64 (Vector.toList z)) hm_3) ?_
    refine TVa ?_
    refine TL_nil (TX_next (TC_ret (TX_block_ret (TX_then_ret ?_))))
    obtain rfl:=sj H
    exact TXr (vs:=[_,_]) rfl ⟨(Res_agg (n:=4) rfl (by simp) (.o 0) isAgg57 inf57 rfl (lenV (f:=v64) m_3)),rfl,trivial⟩
   ·refine TC_skip (TX_block_normal (TX_next (TC_seq (TC_region (TLv (V_buildArr (pv:=[]) rfl rfl underlying57 inf57 inf55 rfl zer57 (cs:=e64 ((replicate 4 0#64:Vx 64 4).toList)) (by kernel_rfl)) ?_)))))
    refine TLn (E_sv 0 inf57) (fun _=>?_)
    obtain ⟨m_4,hm_4,H⟩:=ltt_elim H
    refine TL_reE (j:=0) (A:=some (b1,0)) (cs:=e64 ((replicate 4 0#64:Vx 64 4).toList)) (cs':=e64 m_4.toList) rfl (congrArg (fun z:Vx 64 4=>e64 (Vector.toList z)) hm_4) ?_
    refine TVa ?_
    refine TL_nil (TX_next (TC_ret ?_))
    obtain rfl:=sj H
    exact TXr (vs:=[_,_]) rfl ⟨(Res_agg (n:=4) rfl (by simp) (.o 0) isAgg57 inf57 rfl (lenV (f:=v64) m_4)),rfl,trivial⟩
end Go.Proofs
end

section
namespace Go.Proofs
open Go Go.Kx
open Vector (replicate)
open TryI Try
def num_New.b0 (r_1:Vx 64 4 × Bool) (s0:Int × BitVec 64):Option ((Int × BitVec 64) ⊕ (BitVec 64)) :=
 if s0.1<6 then (some (.inl (w64 (s0.1+1),s0.2 * (2#64 - ((vg r_1.1 0) * s0.2))))) else (some (.inr s0.2))
def num_New.b1 (r_1:Vx 64 4 × Bool) (t_1:BitVec 64) (s1:Int × Vx 64 4 × Vx 64 4):Option ((Int × Vx 64 4 × Vx 64 4) ⊕ (Vx 64 4 × Vx 64 4)) :=
 if s1.1<512 then ((if s1.1=256 then (some s1.2.2) else (some s1.2.1)).bind fun (j1:Vx 64 4)=>((num_Field_Add r_1.1 (-t_1) j1 (replicate 4 0#64) s1.2.2 s1.2.2).bind fun (r_2:Vx 64 4)=>(some (.inl (w64 (s1.1+1),j1,r_2))))) else (some (.inr (s1.2.1,s1.2.2)))
def num_New (which:Int):Option ((Unit) ⊕ (Vx 64 4 × BitVec 64 × Vx 64 4 × Vx 64 4)) :=
 (num_modulus which).bind fun (r_1:Vx 64 4 × Bool)=>(if (!r_1.2)=true then (some (.inl ())) else ((loop (num_New.b0 r_1) BIG (0,1#64)).bind fun (t_1:BitVec 64)=>(ltt ((vp (replicate 4 0#64) 0 1#64:Vx 64 4)) fun (m_1:Vx 64 4)=>((loop (num_New.b1 r_1 t_1) BIG (0,replicate 4 0#64,m_1)).bind fun (t_2:Vx 64 4 × Vx 64 4)=>(some (.inr (r_1.1, -t_1,t_2.1,t_2.2)))))))
set_option maxHeartbeats 4000000 in
set_option maxRecDepth 20000 in
theorem F53_calls (which:Int) (r:(Unit) ⊕ (Vx 64 4 × BitVec 64 × Vx 64 4 × Vx 64 4)) (H:num_New which=some r) :
  Does Try.prog 53 [vi which] [] [] (Γ:=Unit × Nat) (fun g=>match r with | .inl r=>Value.pointer none | .inr r=>ptr (some (g.2,0)) 0) (fun g=>match r with | .inl r=>[] | .inr r=>[⟨some (g.2,0),e64 r.1.toList⟩,⟨some (g.2,4),[v64 r.2.1]⟩,⟨some (g.2,5),e64 r.2.2.1.toList⟩,⟨some (g.2,9),e64 r.2.2.2.toList⟩]):=by
 intro w hmem hro hd
 refine calls_of (N:=64) (m0:=[(0,vi which)]) func53 rfl ntmps53 (argM_ok [vi which]) rfl hmem hro hd ?_
 unfold num_New at H
 refine TC_seq (TC_region (TVa ?_))
 refine TL_nil (TX_next (TC_seq (TC_region (TVm ?_))))
 obtain ⟨r_1,hr_1,H⟩:=bind_elim H
 refine TLe (E_c0 (F84_calls which r_1 hr_1) call84 .z) (fun g_1=>?_)
 refine TVm ?_
 refine TLv V_ex ?_
 refine TLv V_ex ?_
 refine TLe (E_al64 4 inf57 zer57) (fun b1=>?_)
 refine TLn (E_sv (vs:=e64 r_1.1.toList) 0 inf57) (fun _=>?_)
 refine TVa ?_
 refine TL_nil (TX_next (TC_seq (TC_seq (TC_region (TVm ?_)))))
 refine TLv (V_un rfl (fun w=>notB w r_1.2)) ?_
 refine TL_nil (TX_next (TCb H (fun hc H=>?_) (fun hc H=>?_)))
 ·refine TC_seq (TC_region (TVa ?_))
  refine TL_nil (TX_next (TC_ret (TX_then_ret ?_)))
  obtain rfl:=sj H
  exact TX_ret (rs:=[.tmp 2]) (vs:=[Value.pointer none]) rfl ⟨rfl,trivial⟩ (fun w' hs'=>⟨((),(default:Nat)),rfl,Step.left (Step.pulled (is:=[]) (A:=[]) hs' rfl)⟩)
 ·refine TC_skip (TX_next (TC_seq (TC_region (TLv (V_lag (.o 0) isAgg57 inf57) ?_))))
  refine TLv (V_buildStruct (pv:=[(0,aG [(4,e64 r_1.1.toList)]),(1,v64 1#64)]) (pl:=[(0,4),(4,1),(5,4),(9,4)]) rfl rfl underlying113 inf113 places113 zer113 (cs:=flat [(4,e64 r_1.1.toList),(1,[v64 1#64]),(4,e64 ((replicate 4 0#64).toList)),(4,e64 ((replicate 4 0#64).toList))]) (fill_part [] [(1,[v64 0#64]),(4,e64 ((replicate 4 0#64).toList)),(4,e64 ((replicate 4 0#64).toList))] rfl rfl trivial rfl (lenV (f:=v64) (replicate 4 0#64)) (lenV (f:=v64) r_1.1) (fill_part [(4,e64 r_1.1.toList)] [(4,e64 ((replicate 4 0#64).toList)),(4,e64 ((replicate 4 0#64).toList))] rfl rfl ⟨(lenV (f:=v64) r_1.1),trivial⟩ rfl rfl rfl fill_end))) ?_
  refine TLe (E_boxP [(4,e64 r_1.1.toList),(1,[v64 1#64]),(4,e64 ((replicate 4 0#64).toList)),(4,e64 ((replicate 4 0#64).toList))] rfl rfl ⟨(lenV (f:=v64) r_1.1),rfl,(lenV (f:=v64) (replicate 4 0#64)),(lenV (f:=v64) (replicate 4 0#64)),trivial⟩) (fun b2=>?_)
  refine TVa ?_
  refine TL_nil (TX_next (TC_seq (TC_seq (TC_region (TVm ?_)))))
  refine TL_nil (TX_next (TC_block ?_))
  obtain ⟨t_1,Hl,H⟩:=bind_elim H
  refine TC.sub (m':=[(3,_),(5,_),(18,_)]) ⟨rfl,rfl,rfl,trivial⟩ ?_
  refine TC.pull (is:=[4,0,0,0,0]) (L':=[_,_,_,_,_]) rfl ?_
  refine TC_loopL (id:=0) (body:=(num_New.b0 r_1)) (σ:=Int × BitVec 64) (Γ:=Unit) (Γx:=Unit) (fun s0 g0_=>[(3,ptr (some (b1,0)) 0),(5,ptr (some (b2,0)) 0),(18,vi s0.1)]) (fun s0 g0_=>[⟨some (b1,0),e64 r_1.1.toList⟩,⟨some (b2,0),e64 r_1.1.toList⟩,⟨some (b2,4),[v64 s0.2]⟩,⟨some (b2,5),e64 ((replicate 4 0#64).toList)⟩,⟨some (b2,9),e64 ((replicate 4 0#64).toList)⟩]) (fun t g=>[(5,ptr (some (b2,0)) 0)]) (fun t g=>[⟨some (b2,0),e64 r_1.1.toList⟩,⟨some (b2,4),[v64 t]⟩,⟨some (b2,5),e64 ((replicate 4 0#64).toList)⟩,⟨some (b2,9),e64 ((replicate 4 0#64).toList)⟩]) ?_ BIG (0,1#64) () t_1 Hl ?_
  ·intro s0 g0_ r1 H K hK hE
   unfold num_New.b0 at H
   refine TC_seq (TC_region (TLv (V_bin rfl rfl (fun w=>lssI w s0.1 6)) ?_))
   refine TL_nil (TX_next (TC_seq (TCd H (fun hc H=>?_) (fun hc H=>?_))))
   ·refine TC_skip (TX_next (TC_seq (TC_block (TA_begin [] 16 (by kernel_rfl) (N:=16) rfl ?_))))
    refine TA_mix (is:=[]) (done':=dn 16 32767) [itV 0 20 (ptr (some (b2,0)) 0) [],itV 1 21 (ptr (some (b2,0)) 0) [0],itV 2 22 (ptr (some (b2,4)) 0) [1],itV 3 23 (v64 s0.2) [2],itV 4 24 (ptr (some (b1,0)) 0) [],itV 5 25 (v64 (vg r_1.1 0)) [4],itV 6 26 (ptr (some (b2,0)) 0) [],itV 7 27 (ptr (some (b2,0)) 0) [6],itV 8 28 (ptr (some (b2,4)) 0) [7],itV 9 29 (v64 s0.2) [8],itV 10 30 (v64 ((vg r_1.1 0) * s0.2)) [5,9],itV 11 31 (v64 (2#64 - ((vg r_1.1 0) * s0.2))) [10],itV 12 32 (v64 (s0.2 * (2#64 - ((vg r_1.1 0) * s0.2)))) [11,3],itV 13 33 (ptr (some (b2,0)) 0) [0],itV 14 34 (ptr (some (b2,4)) 0) [13]] [] 1 (by kernel_rfl) (QP.block (QP.then (QP.then (QP.block (QP.then QP.body))))) (by kernel_rfl) rfl (.v rfl (V_move rfl) (.v rfl (V_nilCheck rfl) (.v rfl (V_fe underlying113 inf55) (.v rfl (V_load rfl (.o 2) rfl isAgg55) (.v rfl (V_idxArr (i:=0) rfl rfl underlying57 inf55 rfl (by decide) (by decide) (k:=0) (k01 _)) (.v rfl (V_load rfl (.o 0) (get_vec (f:=v64) (V:=r_1.1) (by decide:0<4)) isAgg55) (.v rfl (V_move rfl) (.v rfl (V_nilCheck rfl) (.v rfl (V_fe underlying113 inf55) (.v rfl (V_load rfl (.o 2) rfl isAgg55) (.v rfl (V_bin rfl rfl (fun w=>mul64 w (vg r_1.1 0) s0.2)) (.v rfl (V_bin rfl rfl (fun w=>sub64 w 2#64 ((vg r_1.1 0) * s0.2))) (.v rfl (V_bin rfl rfl (fun w=>mul64 w s0.2 (2#64 - ((vg r_1.1 0) * s0.2)))) (.v rfl (V_nilCheck rfl) (.v rfl (V_fe underlying113 inf55) .nil))))))))))))))) .nil (by kernel_rfl) rfl (fun γ=>?_)
    refine TA_cut [(34,ptr (some (b2,4)) 0),(32,v64 (s0.2 * (2#64 - ((vg r_1.1 0) * s0.2)))),(3,ptr (some (b1,0)) 0),(5,ptr (some (b2,0)) 0),(18,vi s0.1)] [⟨some (b1,0),e64 r_1.1.toList⟩,⟨some (b2,0),e64 r_1.1.toList⟩,⟨some (b2,4),[v64 s0.2]⟩,⟨some (b2,5),e64 ((replicate 4 0#64).toList)⟩,⟨some (b2,9),e64 ((replicate 4 0#64).toList)⟩] ⟨rfl,rfl,rfl,rfl,rfl,trivial⟩ rfl ?_
    refine TA_all (rs:=[15]) (by kernel_rfl) rfl ?_
    refine ⟨?_,trivial⟩
    refine TO_n (is:=[]) (done':=dn 16 65535) rfl rfl rfl (by kernel_rfl) (E_store (j:=2) rfl rfl inf55 rfl rfl rfl (Nat.lt_succ_self 0) (cs':=[v64 (s0.2 * (2#64 - ((vg r_1.1 0) * s0.2)))]) rfl) (fun _ _=>rfl) (fun _=>?_)
    refine TA_done (by kernel_rfl) ?_ 0
    refine TX_block_normal (TX_next (TC_region (TLv (V_bin rfl rfl (fun w=>addI w s0.1 1)) ?_)))
    refine TVm ?_
    refine TL_nil ?_
    obtain rfl:=sj H
    exact TXk [0,0,0,0,0] (hK (w64 (s0.1+1),s0.2 * (2#64 - ((vg r_1.1 0) * s0.2))) rfl ())
   ·refine TC_exit (TX_then_exit (TX_then_exit ?_))
    obtain rfl:=sj H
    exact TXj [1,1,1,1] (hE s0.2 rfl ())
  ·intro g
   refine TX_block_exit (TX_next (TC_seq (TC_region (TVm ?_))))
   refine TVm ?_
   refine TLv (V_nilCheck rfl) ?_
   refine TLv (V_fieldE rfl underlying113 rfl rfl inf55 rfl (v:=ptr (some (b2,4)) 0) rfl) ?_
   refine TLv (V_load rfl (.o 1) rfl isAgg55) ?_
   refine TLv (V_un rfl (fun w=>neg64 w t_1)) ?_
   refine TLv (V_nilCheck rfl) ?_
   refine TLv (V_fieldE rfl underlying113 rfl rfl inf55 rfl (v:=ptr (some (b2,4)) 0) rfl) ?_
   refine TLn (E_store (j:=1) rfl rfl inf55 rfl rfl rfl (Nat.lt_succ_self 0) (cs':=[v64 (-t_1)]) rfl) (fun _=>?_)
   refine TL_nil (TX_next (TC_seq (TC_region (TLv (V_buildArr (pv:=[(0,v64 1#64)]) rfl rfl underlying57 inf57 inf55 rfl zer57 (cs:=e64 ((vp (replicate 4 0#64) 0 1#64:Vx 64 4).toList)) (by kernel_rfl)) ?_))))
   refine TLe (E_al64 4 inf57 zer57) (fun b3=>?_)
   refine TLn (E_sv 0 inf57) (fun _=>?_)
   obtain ⟨m_1,hm_1,H⟩:=ltt_elim H
   refine TL_reE (j:=0) (A:=some (b3,0)) (cs:=e64 ((vp (replicate 4 0#64) 0 1#64:Vx 64 4).toList)) (cs':=e64 m_1.toList) rfl (congrArg (fun z:Vx 64 4=>e64 (Vector.toList z)) hm_1) ?_
   refine TL_nil (TX_next (TC_seq (TC_seq (TC_region (TVm ?_)))))
   refine TL_nil (TX_next (TC_block ?_))
   obtain ⟨t_2,Hl,H⟩:=bind_elim H
   refine TC.sub (m':=[(5,_),(6,_),(45,_)]) ⟨rfl,rfl,rfl,trivial⟩ ?_
   refine TC.pull (is:=[1,1,1,1,0]) (L':=[_,_,_,_,_]) rfl ?_
   refine TC_loopL (id:=2) (body:=(num_New.b1 r_1 t_1)) (σ:=Int × Vx 64 4 × Vx 64 4) (Γ:=Unit) (Γx:=Unit) (fun s1 g1_=>[(5,ptr (some (b2,0)) 0),(6,ptr (some (b3,0)) 0),(45,vi s1.1)]) (fun s1 g1_=>[⟨some (b2,0),e64 r_1.1.toList⟩,⟨some (b2,4),[v64 (-t_1)]⟩,⟨some (b2,5),e64 s1.2.1.toList⟩,⟨some (b2,9),e64 ((replicate 4 0#64).toList)⟩,⟨some (b3,0),e64 s1.2.2.toList⟩]) (fun t g=>[(5,ptr (some (b2,0)) 0),(6,ptr (some (b3,0)) 0)]) (fun t g=>[⟨some (b2,0),e64 r_1.1.toList⟩,⟨some (b2,4),[v64 (-t_1)]⟩,⟨some (b2,5),e64 t.1.toList⟩,⟨some (b2,9),e64 ((replicate 4 0#64).toList)⟩,⟨some (b3,0),e64 t.2.toList⟩]) ?_ BIG (0,replicate 4 0#64,m_1) () t_2 Hl ?_
   ·intro s1 g1_ r1 H K hK hE
    unfold num_New.b1 at H
    refine TC_seq (TC_region (TLv (V_bin rfl rfl (fun w=>lssI w s1.1 512)) ?_))
    refine TL_nil (TX_next (TC_seq (TCd H (fun hc H=>?_) (fun hc H=>?_))))
    ·refine TC_skip (TX_next (TC_seq (TC_block (TC_seq (TC_region (TVm ?_))))))
     refine TVa ?_
     refine TL_nil (TX_next (TC_seq (TC_seq (TC_region (TVm ?_)))))
     refine TLv (V_bin rfl rfl (fun w=>eqlI w s1.1 256)) ?_
     refine TL_nil (TX_next ?_)
     obtain ⟨j1,Hj,H⟩:=bind_elim H
     refine TC_join (Γ:=Unit) (fun gj1=>[(5,ptr (some (b2,0)) 0),(6,ptr (some (b3,0)) 0),(45,vi s1.1)]) (fun gj1=>[⟨some (b2,0),e64 r_1.1.toList⟩,⟨some (b2,4),[v64 (-t_1)]⟩,⟨some (b2,5),e64 j1.toList⟩,⟨some (b2,9),e64 ((replicate 4 0#64).toList)⟩,⟨some (b3,0),e64 s1.2.2.toList⟩]) ?_ ?_
     ·intro gj1
      refine TX_next (TC_region (TVm ?_))
      refine TLv (V_lag (.o 4) isAgg57 inf57) ?_
      refine TLv (V_lag (.o 4) isAgg57 inf57) ?_
      obtain ⟨r_2,hr_2,H⟩:=bind_elim H
      refine TLe (E_c0 (F59_calls b2 0 r_1.1 (-t_1) j1 (replicate 4 0#64) s1.2.2 s1.2.2 r_2 hr_2) call59 ⟨.o 0, .o 1, .o 2, .o 3,trivial⟩) (fun g_2=>?_)
      refine TLn (E_sv (vs:=e64 r_2.toList) 4 inf57) (fun _=>?_)
      refine TL_nil (TX_block_normal (TX_next (TC_region (TLv (V_bin rfl rfl (fun w=>addI w s1.1 1)) ?_))))
      refine TVm ?_
      refine TL_nil ?_
      obtain rfl:=sj H
      exact TXk [0,0,0,0,0] (hK (w64 (s1.1+1),j1,r_2) rfl ())
     ·intro hJ
      replace H:=Hj
      refine TCd H (fun hc H=>?_) (fun hc H=>?_)
      ·refine TC_region (TVm ?_)
       refine TLv (V_lag (.o 4) isAgg57 inf57) ?_
       refine TLv (V_nilCheck rfl) ?_
       refine TLv (V_fieldE rfl underlying113 rfl rfl inf57 rfl (v:=ptr (some (b2,5)) 0) rfl) ?_
       refine TLn (E_sv (vs:=e64 s1.2.2.toList) 2 inf57) (fun _=>?_)
       refine TL_nil ?_
       obtain rfl:=sj H
       exact TXj [0,0,0,0,0] (hJ ())
      ·refine TC_skip ?_
       obtain rfl:=sj H
       exact TXj [0,0,0,0,0] (hJ ())
    ·refine TC_exit (TX_then_exit (TX_then_exit ?_))
     obtain rfl:=sj H
     exact TXj [0,0,0,0,0] (hE (s1.2.1,s1.2.2) rfl ())
   ·intro g
    refine TX_block_exit (TX_next (TC_seq (TC_region (TVm ?_))))
    refine TLv (V_lag (.o 4) isAgg57 inf57) ?_
    refine TLv (V_nilCheck rfl) ?_
    refine TLv (V_fieldE rfl underlying113 rfl rfl inf57 rfl (v:=ptr (some (b2,9)) 0) rfl) ?_
    refine TLn (E_sv (vs:=e64 t_2.2.toList) 3 inf57) (fun _=>?_)
    refine TL_nil (TX_next (TC_seq (TC_region (TVm ?_))))
    refine TVa ?_
    refine TL_nil (TX_next (TC_ret ?_))
    obtain rfl:=sj H
    exact TX_ret (rs:=[.tmp 2]) (vs:=[ptr (some (b2,0)) 0]) rfl ⟨rfl,trivial⟩ (fun w' hs'=>⟨((),b2),rfl,Step.left (Step.pulled (is:=[0,0,0,0]) (A:=[⟨some (b2,0),e64 r_1.1.toList⟩,⟨some (b2,4),[v64 (-t_1)]⟩,⟨some (b2,5),e64 t_2.1.toList⟩,⟨some (b2,9),e64 t_2.2.toList⟩]) hs' rfl)⟩)
end Go.Proofs
end

section
namespace Go.Proofs
open Go Go.Kx
open Vector (replicate)
open TryI Try
def num_Load.b0 (s_:Str) (s0:Int × Vx 64 4):Option ((Int × Vx 64 4) ⊕ (Vx 64 4)) :=
 if s0.1<32 then (ltt (w64 (3 - (w64 (s0.1.tdiv 8)))) fun (k_1:Int)=>(if 0≤k_1∧k_1<(4:Int) then (if 0≤s0.1∧s0.1<((s_).length:Int) then (if 0≤k_1∧k_1<(4:Int) then (ltt (vp s0.2 ((k_1).toNat) (((vg s0.2 ((k_1).toNat)) <<< 8) ||| ((sg s_ s0.1).setWidth 64))) fun (m_1:Vx 64 4)=>(some (.inl (w64 (s0.1+1),m_1)))) else none) else none) else none)) else (some (.inr s0.2))
def num_Load (s_:Str):Option (Vx 64 4) :=
 (loop (num_Load.b0 s_) BIG (0,replicate 4 0#64)).bind fun (t_1:Vx 64 4)=>(some t_1)
set_option maxHeartbeats 4000000 in
set_option maxRecDepth 20000 in
theorem F55_calls (s_:Str) (r:Vx 64 4) (H:num_Load s_=some r) :
  Does Try.prog 55 [vs s_] [] [] (Γ:=Unit) (fun g=>aG [(4,e64 r.toList)]) (fun g=>[]):=by
 intro w hmem hro hd
 refine calls_of (N:=25) (m0:=[(0,vs s_)]) func55 rfl ntmps55 (argM_ok [vs s_]) rfl hmem hro hd ?_
 unfold num_Load at H
 refine TC_seq (TC_region (TLe (E_al64 4 inf57 zer57) (fun b1=>?_)))
 refine TL_nil (TX_next (TC_seq (TC_region (TLe (E_al64 4 inf57 zer57) (fun b2=>?_)))))
 refine TL_nil (TX_next (TC_seq (TC_seq (TC_region (TVm ?_)))))
 refine TL_nil (TX_next (TC_block ?_))
 obtain ⟨t_1,Hl,H⟩:=bind_elim H
 refine TC.sub (m':=[(0,_),(2,_),(3,_),(6,_)]) ⟨rfl,rfl,rfl,rfl,trivial⟩ ?_
 refine TC.pull (is:=[1,0]) (L':=[_,_]) rfl ?_
 refine TC_loopL (id:=0) (body:=(num_Load.b0 s_)) (σ:=Int × Vx 64 4) (Γ:=Unit) (Γx:=Unit) (fun s0 g0_=>[(0,vs s_),(2,ptr (some (b1,0)) 0),(3,ptr (some (b2,0)) 0),(6,vi s0.1)]) (fun s0 g0_=>[⟨some (b1,0),e64 ((replicate 4 0#64).toList)⟩,⟨some (b2,0),e64 s0.2.toList⟩]) (fun t g=>[(2,ptr (some (b1,0)) 0),(3,ptr (some (b2,0)) 0)]) (fun t g=>[⟨some (b1,0),e64 ((replicate 4 0#64).toList)⟩,⟨some (b2,0),e64 t.toList⟩]) ?_ BIG (0,replicate 4 0#64) () t_1 Hl ?_
 ·intro s0 g0_ r1 H K hK hE
  unfold num_Load.b0 at H
  refine TC_seq (TC_region (TLv (V_bin rfl rfl (fun w=>lssI w s0.1 32)) ?_))
  refine TL_nil (TX_next (TC_seq (TCd H (fun hc H=>?_) (fun hc H=>?_))))
  ·refine TC_skip (TX_next (TC_seq (TC_block (TC_seq (TC_region (TVm ?_))))))
   refine TVa ?_
   refine TL_nil (TX_next (TC_seq (TC_region (TVm ?_))))
   refine TLv (V_bin rfl rfl (fun w=>quoI w s0.1 8 (by decide))) ?_
   refine TLv (V_bin rfl rfl (fun w=>subI w 3 (w64 (s0.1.tdiv 8)))) ?_
   refine TVa ?_
   obtain ⟨k_1,hk_1,H⟩:=ltt_elim H
   refine TLr 5 (congrArg vi hk_1) ?_
   refine TL_nil (TX_next ?_)
   obtain ⟨h1,H⟩:=if_elim H
   obtain ⟨h2,H⟩:=if_elim H
   obtain ⟨h3,H⟩:=if_elim H
   obtain ⟨m_1,hm_1,H⟩:=ltt_elim H
   refine TA_begin [] 12 (by kernel_rfl) (N:=12) rfl ?_
   refine TA_mix (is:=[]) (done':=dn 12 2047) [itV 0 12 (vi k_1) [],itV 1 13 (vi k_1) [],itV 2 14 (ptr (some (b2,0)) ((k_1).toNat)) [1],itV 3 15 (v64 (vg s0.2 ((k_1).toNat))) [2],itV 4 16 (v64 ((vg s0.2 ((k_1).toNat)) <<< 8)) [3],itV 5 17 (vs s_) [],itV 6 18 (vi s0.1) [],itV 7 19 (v8 (sg s_ s0.1)) [5,6],itV 8 20 (v64 ((sg s_ s0.1).setWidth 64)) [7],itV 9 21 (v64 (((vg s0.2 ((k_1).toNat)) <<< 8) ||| ((sg s_ s0.1).setWidth 64))) [4,8],itV 10 22 (ptr (some (b2,0)) ((k_1).toNat)) [0]] [] 1 (by kernel_rfl) (QP.block (QP.then (QP.then (QP.block (QP.then QP.body))))) (by kernel_rfl) rfl (.v rfl (V_move rfl) (.v rfl (V_move rfl) (.v rfl (V_idxArr (i:=k_1) rfl rfl underlying57 inf55 rfl h1.1 h1.2 (k:=(k_1).toNat) (k01 _)) (.v rfl (V_load rfl (.o 1) (get_vec (f:=v64) (V:=s0.2) (toNat_lt h1.1 h1.2)) isAgg55) (.v rfl (V_bin rfl rfl (fun w=>shl64 w (vg s0.2 ((k_1).toNat)) .u64 8 (by decide))) (.v rfl (V_move rfl) (.v rfl (V_move rfl) (.v rfl (V_idxStr rfl rfl (i:=s0.1) underlying9 h2.1 h2.2) (.v rfl (V_conv rfl (fun w=>cv8to64 w _ _ underlying55 (und5) (sg s_ s0.1))) (.v rfl (V_bin rfl rfl (fun w=>or64 w ((vg s0.2 ((k_1).toNat)) <<< 8) ((sg s_ s0.1).setWidth 64))) (.v rfl (V_idxArr (i:=k_1) rfl rfl underlying57 inf55 rfl h3.1 h3.2 (k:=(k_1).toNat) (k01 _)) .nil))))))))))) .nil (by kernel_rfl) rfl (fun γ=>?_)
   refine TA_cut [(22,ptr (some (b2,0)) ((k_1).toNat)),(21,v64 (((vg s0.2 ((k_1).toNat)) <<< 8) ||| ((sg s_ s0.1).setWidth 64))),(0,vs s_),(2,ptr (some (b1,0)) 0),(3,ptr (some (b2,0)) 0),(6,vi s0.1)] [⟨some (b1,0),e64 ((replicate 4 0#64).toList)⟩,⟨some (b2,0),e64 s0.2.toList⟩] ⟨rfl,rfl,rfl,rfl,rfl,rfl,trivial⟩ rfl ?_
   refine TA_all (rs:=[11]) (by kernel_rfl) rfl ?_
   refine ⟨?_,trivial⟩
   refine TO_n (is:=[]) (done':=dn 12 4095) rfl rfl rfl (by kernel_rfl) (E_store (j:=1) rfl rfl inf55 rfl rfl rfl (by simpa using (toNat_lt h3.1 h3.2)) (cs':=e64 ((vp s0.2 ((k_1).toNat) (((vg s0.2 ((k_1).toNat)) <<< 8) ||| ((sg s_ s0.1).setWidth 64))).toList)) set_vec) (fun _ _=>rfl) (fun _=>?_)
   refine TA_reE (j:=1) (A:=some (b2,0)) (cs:=e64 ((vp s0.2 ((k_1).toNat) (((vg s0.2 ((k_1).toNat)) <<< 8) ||| ((sg s_ s0.1).setWidth 64))).toList)) (cs':=e64 m_1.toList) rfl (congrArg (fun z:Vx 64 4=>e64 (Vector.toList z)) hm_1) ?_
   refine TA_done (by kernel_rfl) ?_ 0
   refine TX_block_normal (TX_next (TC_region (TLv (V_bin rfl rfl (fun w=>addI w s0.1 1)) ?_)))
   refine TVm ?_
   refine TL_nil ?_
   obtain rfl:=sj H
   exact TXk [0,0] (hK (w64 (s0.1+1),m_1) rfl ())
  ·refine TC_exit (TX_then_exit (TX_then_exit ?_))
   obtain rfl:=sj H
   exact TXj [0,0] (hE s0.2 rfl ())
 ·intro g
  refine TX_block_exit (TX_next (TC_seq (TC_region (TLv (V_lag (.o 1) isAgg57 inf57) ?_))))
  refine TLn (E_sv (vs:=e64 t_1.toList) 0 inf57) (fun _=>?_)
  refine TL_nil (TX_next (TC_ret ?_))
  obtain rfl:=sj H
  exact TXr (vs:=[_]) rfl ⟨(Res_agg (n:=4) rfl (by simp) (.o 0) isAgg57 inf57 rfl (lenV (f:=v64) t_1)),trivial⟩
end Go.Proofs
end

section
namespace Go.Proofs
open Go Go.Kx
open TryI Try
def num_Nat_Bytes.b0 (x:Vx 64 4) (s0:Int × List (BitVec 8)):Option ((Int × List (BitVec 8)) ⊕ (List (BitVec 8))) :=
 if s0.1<32 then (if 0≤w64 (3 - (w64 (s0.1.tdiv 8)))∧w64 (3 - (w64 (s0.1.tdiv 8)))<(4:Int) then (if 0≤w64 (56 - (w64 (8 * (s0.1.tmod 8)))) then (if 0≤s0.1∧s0.1<(32:Int) then (if (s0.1).toNat<(s0.2).length then (ltt (s0.2.set ((s0.1).toNat) (((vg x ((w64 (3 - (w64 (s0.1.tdiv 8)))).toNat)) >>> (w64 (56 - (w64 (8 * (s0.1.tmod 8))))).toNat).setWidth 8)) fun (m_1:List (BitVec 8))=>(some (.inl (w64 (s0.1+1),m_1)))) else none) else none) else none) else none) else (some (.inr s0.2))
def num_Nat_Bytes (x:Vx 64 4):Option (Str) :=
 (loop (num_Nat_Bytes.b0 x) BIG (0,List.replicate 32 0#8)).bind fun (t_1:List (BitVec 8))=>(if (t_1).length=32 then (some t_1) else none)
set_option maxHeartbeats 4000000 in
set_option maxRecDepth 20000 in
theorem F62_calls (x:Vx 64 4) (r:Str) (H:num_Nat_Bytes x=some r) :
  Does Try.prog 62 [aG [(4,e64 x.toList)]] [] [] (Γ:=Unit) (fun g=>vs r) (fun g=>[]):=by
 intro w hmem hro hd
 refine calls_of (N:=28) (m0:=[(0,aG [(4,e64 x.toList)])]) func62 rfl ntmps62 (argM_ok [aG [(4,e64 x.toList)]]) rfl hmem hro hd ?_
 unfold num_Nat_Bytes at H
 refine TC_seq (TC_region (TLe (E_boxP [(4,e64 x.toList)] rfl rfl ⟨(lenV (f:=v64) x),trivial⟩) (fun b1=>?_)))
 refine TVa ?_
 refine TL_nil (TX_next (TC_seq (TC_region (TLe (E_mk1 rfl rfl underlying42 inf5 (z:=v8 0#8) rfl rfl rfl (B:=1) rfl (by decide) (Int.le_refl _) (by decide) (by decide) (n':=32) (c':=32) rfl rfl (cs:=e8 (List.replicate 32 0#8)) (rep_map (f:=v8))) (fun b2=>?_)))))
 refine TVa ?_
 refine TL_nil (TX_next (TC_seq (TC_seq (TC_region (TVm ?_)))))
 refine TLv (V_len_slice rfl underlying42) ?_
 refine TVm ?_
 refine TL_nil (TX_next (TC_block ?_))
 obtain ⟨t_1,Hl,H⟩:=bind_elim H
 refine TC.sub (m':=[(1,_),(3,_),(7,_),(8,_)]) ⟨rfl,rfl,rfl,rfl,trivial⟩ ?_
 refine TC.pull (is:=[1,0]) (L':=[_,_]) rfl ?_
 refine TC_loopL (id:=0) (body:=(num_Nat_Bytes.b0 x)) (σ:=Int × List (BitVec 8)) (Γ:=Unit) (Γx:=Unit) (fun s0 g0_=>[(1,ptr (some (b1,0)) 0),(3,sl (some (b2,0)) 32 32),(7,vi 32),(8,vi s0.1)]) (fun s0 g0_=>[⟨some (b1,0),e64 x.toList⟩,⟨some (b2,0),e8 s0.2⟩]) (fun t g=>[(3,sl (some (b2,0)) 32 32)]) (fun t g=>[⟨some (b2,0),e8 t⟩]) ?_ BIG (0,List.replicate 32 0#8) () t_1 Hl ?_
 ·intro s0 g0_ r1 H K hK hE
  unfold num_Nat_Bytes.b0 at H
  refine TC_seq (TC_region (TLv (V_bin rfl rfl (fun w=>lssI w s0.1 32)) ?_))
  refine TL_nil (TX_next (TC_seq (TCd H (fun hc H=>?_) (fun hc H=>?_))))
  ·refine TC_skip (TX_next (TC_seq (TC_block (TC_seq (TC_region (TVm ?_))))))
   refine TVa ?_
   refine TL_nil (TX_next (TC_region (TVm ?_)))
   refine TVm ?_
   refine TVm ?_
   refine TLv (V_bin rfl rfl (fun w=>quoI w s0.1 8 (by decide))) ?_
   refine TLv (V_bin rfl rfl (fun w=>subI w 3 (w64 (s0.1.tdiv 8)))) ?_
   obtain ⟨h1,H⟩:=if_elim H
   refine TLv (V_idxArr (i:=w64 (3 - (w64 (s0.1.tdiv 8)))) rfl rfl underlying57 inf55 rfl h1.1 h1.2 (k:=(w64 (3 - (w64 (s0.1.tdiv 8)))).toNat) (k01 _)) ?_
   refine TLv (V_load rfl (.o 0) (get_vec (f:=v64) (V:=x) (toNat_lt h1.1 h1.2)) isAgg55) ?_
   refine TVm ?_
   refine TLv (V_bin rfl rfl (fun w=>remI w s0.1 8 (by decide))) ?_
   refine TLv (V_bin rfl rfl (fun w=>mulI w 8 (s0.1.tmod 8))) ?_
   refine TLv (V_bin rfl rfl (fun w=>subI w 56 (w64 (8 * (s0.1.tmod 8))))) ?_
   obtain ⟨h2,H⟩:=if_elim H
   refine TLv (V_bin rfl rfl (fun w=>shr64 w (vg x ((w64 (3 - (w64 (s0.1.tdiv 8)))).toNat)) .i64 (w64 (56 - (w64 (8 * (s0.1.tmod 8))))) h2)) ?_
   refine TLv (V_conv rfl (fun w=>cv64to8 w _ _ underlying5 (und55) ((vg x ((w64 (3 - (w64 (s0.1.tdiv 8)))).toNat)) >>> (w64 (56 - (w64 (8 * (s0.1.tmod 8))))).toNat))) ?_
   obtain ⟨h3,H⟩:=if_elim H
   obtain ⟨h4,H⟩:=if_elim H
   refine TLv (V_idxSl (i:=s0.1) rfl rfl underlying42 inf5 rfl (fun _ h=>by cases h) h3.1 h3.2 (k:=(s0.1).toNat) (km1 _)) ?_
   refine TLn (E_store (j:=1) rfl rfl inf5 rfl rfl rfl (by simpa using h4) (cs':=e8 (s0.2.set ((s0.1).toNat) (((vg x ((w64 (3 - (w64 (s0.1.tdiv 8)))).toNat)) >>> (w64 (56 - (w64 (8 * (s0.1.tmod 8))))).toNat).setWidth 8))) (set_map (f:=v8) (l:=s0.2) (k:=((s0.1).toNat)) (x:=(((vg x ((w64 (3 - (w64 (s0.1.tdiv 8)))).toNat)) >>> (w64 (56 - (w64 (8 * (s0.1.tmod 8))))).toNat).setWidth 8)))) (fun _=>?_)
   obtain ⟨m_1,hm_1,H⟩:=ltt_elim H
   refine TL_reE (j:=1) (A:=some (b2,0)) (cs:=e8 (s0.2.set ((s0.1).toNat) (((vg x ((w64 (3 - (w64 (s0.1.tdiv 8)))).toNat)) >>> (w64 (56 - (w64 (8 * (s0.1.tmod 8))))).toNat).setWidth 8))) (cs':=e8 m_1) rfl (congrArg (e8) hm_1) ?_
   refine TL_nil (TX_block_normal (TX_next (TC_region (TLv (V_bin rfl rfl (fun w=>addI w s0.1 1)) ?_))))
   refine TVm ?_
   refine TL_nil ?_
   obtain rfl:=sj H
   exact TXk [0,0] (hK (w64 (s0.1+1),m_1) rfl ())
  ·refine TC_exit (TX_then_exit (TX_then_exit ?_))
   obtain rfl:=sj H
   exact TXj [1] (hE s0.2 rfl ())
 ·intro g
  refine TX_block_exit (TX_next (TC_seq (TC_region (TVm ?_))))
  obtain ⟨h5,H⟩:=if_elim H
  refine TLv (V_b2s rfl underlying42 underlying5 underlying9 (.o 0) h5) ?_
  refine TVa ?_
  refine TL_nil (TX_next (TC_ret ?_))
  obtain rfl:=sj H
  exact TX1
end Go.Proofs
end

section
namespace Go.Proofs
open Go Go.Kx
open TryI Try
def halberdref9_put.b0 (a_:Vx 32 8) (s0:Int × List (BitVec 8)):Option ((Int × List (BitVec 8)) ⊕ (List (BitVec 8))) :=
 if s0.1<32 then (if 0≤w64 (7 - (w64 (s0.1.tdiv 4)))∧w64 (7 - (w64 (s0.1.tdiv 4)))<(8:Int) then (if 0≤w64 (24 - (w64 (8 * (s0.1.tmod 4)))) then (if 0≤s0.1∧s0.1<(32:Int) then (if (s0.1).toNat<(s0.2).length then (ltt (s0.2.set ((s0.1).toNat) ((((vg a_ ((w64 (7 - (w64 (s0.1.tdiv 4)))).toNat)) >>> (w64 (24 - (w64 (8 * (s0.1.tmod 4))))).toNat) &&& 255#32).setWidth 8)) fun (m_1:List (BitVec 8))=>(ltt (w64 (s0.1+1)) fun (i1:Int)=>(some (.inl (i1,m_1))))) else none) else none) else none) else none) else (some (.inr s0.2))
def halberdref9_put (a_:Vx 32 8):Option (Str) :=
 (loop (halberdref9_put.b0 a_) BIG (0,List.replicate 32 0#8)).bind fun (t_1:List (BitVec 8))=>(if (t_1).length=32 then (some t_1) else none)
set_option maxHeartbeats 4000000 in
set_option maxRecDepth 20000 in
theorem F51_calls (a_:Vx 32 8) (r:Str) (H:halberdref9_put a_=some r) :
  Does Try.prog 51 [aG [(8,e32 a_.toList)]] [] [] (Γ:=Unit) (fun g=>vs r) (fun g=>[]):=by
 intro w hmem hro hd
 refine calls_of (N:=27) (m0:=[(0,aG [(8,e32 a_.toList)])]) func51 rfl ntmps51 (argM_ok [aG [(8,e32 a_.toList)]]) rfl hmem hro hd ?_
 unfold halberdref9_put at H
 refine TC_seq (TC_region (TLe (E_boxP [(8,e32 a_.toList)] rfl rfl ⟨(lenV (f:=v32) a_),trivial⟩) (fun b1=>?_)))
 refine TVa ?_
 refine TL_nil (TX_next (TC_seq (TC_region (TLe (E_mk1 rfl rfl underlying42 inf5 (z:=v8 0#8) rfl rfl rfl (B:=1) rfl (by decide) (Int.le_refl _) (by decide) (by decide) (n':=32) (c':=32) rfl rfl (cs:=e8 (List.replicate 32 0#8)) (rep_map (f:=v8))) (fun b2=>?_)))))
 refine TVa ?_
 refine TL_nil (TX_next (TC_seq (TC_seq (TC_region (TVa ?_)))))
 refine TL_nil (TX_next (TC_block ?_))
 obtain ⟨t_1,Hl,H⟩:=bind_elim H
 refine TC.sub (m':=[(1,_),(3,_),(4,_)]) ⟨rfl,rfl,rfl,trivial⟩ ?_
 refine TC.pull (is:=[1,0]) (L':=[_,_]) rfl ?_
 refine TC_loopL (id:=0) (body:=(halberdref9_put.b0 a_)) (σ:=Int × List (BitVec 8)) (Γ:=Unit) (Γx:=Unit) (fun s0 g0_=>[(1,ptr (some (b1,0)) 0),(3,sl (some (b2,0)) 32 32),(4,vi s0.1)]) (fun s0 g0_=>[⟨some (b1,0),e32 a_.toList⟩,⟨some (b2,0),e8 s0.2⟩]) (fun t g=>[(3,sl (some (b2,0)) 32 32)]) (fun t g=>[⟨some (b2,0),e8 t⟩]) ?_ BIG (0,List.replicate 32 0#8) () t_1 Hl ?_
 ·intro s0 g0_ r1 H K hK hE
  unfold halberdref9_put.b0 at H
  refine TC_seq (TC_seq (TC_region (TVm ?_)))
  refine TLv (V_bin rfl rfl (fun w=>lssI w s0.1 32)) ?_
  refine TL_nil (TX_next (TCd H (fun hc H=>?_) (fun hc H=>?_)))
  ·refine TC_skip (TX_next (TC_seq (TC_block (TC_region (TVm ?_)))))
   refine TVm ?_
   refine TVm ?_
   refine TLv (V_bin rfl rfl (fun w=>quoI w s0.1 4 (by decide))) ?_
   refine TLv (V_bin rfl rfl (fun w=>subI w 7 (w64 (s0.1.tdiv 4)))) ?_
   obtain ⟨h1,H⟩:=if_elim H
   refine TLv (V_idxArr (i:=w64 (7 - (w64 (s0.1.tdiv 4)))) rfl rfl underlying31 inf29 rfl h1.1 h1.2 (k:=(w64 (7 - (w64 (s0.1.tdiv 4)))).toNat) (k01 _)) ?_
   refine TLv (V_load rfl (.o 0) (get_vec (f:=v32) (V:=a_) (toNat_lt h1.1 h1.2)) isAgg29) ?_
   refine TVm ?_
   refine TLv (V_bin rfl rfl (fun w=>remI w s0.1 4 (by decide))) ?_
   refine TLv (V_bin rfl rfl (fun w=>mulI w 8 (s0.1.tmod 4))) ?_
   refine TLv (V_bin rfl rfl (fun w=>subI w 24 (w64 (8 * (s0.1.tmod 4))))) ?_
   obtain ⟨h2,H⟩:=if_elim H
   refine TLv (V_bin rfl rfl (fun w=>shr32 w (vg a_ ((w64 (7 - (w64 (s0.1.tdiv 4)))).toNat)) .i64 (w64 (24 - (w64 (8 * (s0.1.tmod 4))))) h2)) ?_
   refine TLv (V_bin rfl rfl (fun w=>and32 w ((vg a_ ((w64 (7 - (w64 (s0.1.tdiv 4)))).toNat)) >>> (w64 (24 - (w64 (8 * (s0.1.tmod 4))))).toNat) 255#32)) ?_
   refine TLv (V_conv rfl (fun w=>cv32to8 w _ _ underlying5 (und29) (((vg a_ ((w64 (7 - (w64 (s0.1.tdiv 4)))).toNat)) >>> (w64 (24 - (w64 (8 * (s0.1.tmod 4))))).toNat) &&& 255#32))) ?_
   obtain ⟨h3,H⟩:=if_elim H
   obtain ⟨h4,H⟩:=if_elim H
   refine TLv (V_idxSl (i:=s0.1) rfl rfl underlying42 inf5 rfl (fun _ h=>by cases h) h3.1 h3.2 (k:=(s0.1).toNat) (km1 _)) ?_
   refine TLn (E_store (j:=1) rfl rfl inf5 rfl rfl rfl (by simpa using h4) (cs':=e8 (s0.2.set ((s0.1).toNat) ((((vg a_ ((w64 (7 - (w64 (s0.1.tdiv 4)))).toNat)) >>> (w64 (24 - (w64 (8 * (s0.1.tmod 4))))).toNat) &&& 255#32).setWidth 8))) (set_map (f:=v8) (l:=s0.2) (k:=((s0.1).toNat)) (x:=((((vg a_ ((w64 (7 - (w64 (s0.1.tdiv 4)))).toNat)) >>> (w64 (24 - (w64 (8 * (s0.1.tmod 4))))).toNat) &&& 255#32).setWidth 8)))) (fun _=>?_)
   obtain ⟨m_1,hm_1,H⟩:=ltt_elim H
   refine TL_reE (j:=1) (A:=some (b2,0)) (cs:=e8 (s0.2.set ((s0.1).toNat) ((((vg a_ ((w64 (7 - (w64 (s0.1.tdiv 4)))).toNat)) >>> (w64 (24 - (w64 (8 * (s0.1.tmod 4))))).toNat) &&& 255#32).setWidth 8))) (cs':=e8 m_1) rfl (congrArg (e8) hm_1) ?_
   refine TL_nil (TX_block_normal (TX_next (TC_region (TVm ?_))))
   refine TLv (V_bin rfl rfl (fun w=>addI w s0.1 1)) ?_
   refine TVa ?_
   obtain ⟨i1,hi1,H⟩:=ltt_elim H
   refine TLr 4 (congrArg vi hi1) ?_
   refine TL_nil ?_
   obtain rfl:=sj H
   exact TXk [0,0] (hK (i1,m_1) rfl ())
  ·refine TC_exit (TX_then_exit (TX_then_exit ?_))
   obtain rfl:=sj H
   exact TXj [1] (hE s0.2 rfl ())
 ·intro g
  refine TX_block_exit (TX_next (TC_seq (TC_region (TVm ?_))))
  obtain ⟨h5,H⟩:=if_elim H
  refine TLv (V_b2s rfl underlying42 underlying5 underlying9 (.o 0) h5) ?_
  refine TVa ?_
  refine TL_nil (TX_next (TC_ret ?_))
  obtain rfl:=sj H
  exact TX1
end Go.Proofs
end

section
namespace Go.Proofs
open Go Go.Kx
open Vector (replicate)
open TryI Try
def halberdref9_get.b0 (s_:Str) (s0:Int × Vx 32 8):Option ((Int × Vx 32 8) ⊕ (Vx 32 8)) :=
 if s0.1<32 then (if 0≤w64 (7 - (w64 (s0.1.tdiv 4)))∧w64 (7 - (w64 (s0.1.tdiv 4)))<(8:Int) then (if 0≤s0.1∧s0.1<((s_).length:Int) then (if 0≤w64 (7 - (w64 (s0.1.tdiv 4)))∧w64 (7 - (w64 (s0.1.tdiv 4)))<(8:Int) then (ltt (vp s0.2 ((w64 (7 - (w64 (s0.1.tdiv 4)))).toNat) (((vg s0.2 ((w64 (7 - (w64 (s0.1.tdiv 4)))).toNat)) <<< 8) ||| ((sg s_ s0.1).setWidth 32))) fun (m_1:Vx 32 8)=>(ltt (w64 (s0.1+1)) fun (i1:Int)=>(some (.inl (i1,m_1))))) else none) else none) else none) else (some (.inr s0.2))
def halberdref9_get (s_:Str):Option (Vx 32 8) :=
 (loop (halberdref9_get.b0 s_) BIG (0,replicate 8 0#32)).bind fun (t_1:Vx 32 8)=>(some t_1)
set_option maxHeartbeats 4000000 in
set_option maxRecDepth 20000 in
theorem F67_calls (s_:Str) (r:Vx 32 8) (H:halberdref9_get s_=some r) :
  Does Try.prog 67 [vs s_] [] [] (Γ:=Unit) (fun g=>aG [(8,e32 r.toList)]) (fun g=>[]):=by
 intro w hmem hro hd
 refine calls_of (N:=25) (m0:=[(0,vs s_)]) func67 rfl ntmps67 (argM_ok [vs s_]) rfl hmem hro hd ?_
 unfold halberdref9_get at H
 refine TC_seq (TC_region (TLe (E_al32 8 inf31 zer31) (fun b1=>?_)))
 refine TL_nil (TX_next (TC_seq (TC_region (TLe (E_al32 8 inf31 zer31) (fun b2=>?_)))))
 refine TL_nil (TX_next (TC_seq (TC_seq (TC_region (TVa ?_)))))
 refine TL_nil (TX_next (TC_block ?_))
 obtain ⟨t_1,Hl,H⟩:=bind_elim H
 refine TC.sub (m':=[(0,_),(2,_),(3,_),(4,_)]) ⟨rfl,rfl,rfl,rfl,trivial⟩ ?_
 refine TC.pull (is:=[1,0]) (L':=[_,_]) rfl ?_
 refine TC_loopL (id:=0) (body:=(halberdref9_get.b0 s_)) (σ:=Int × Vx 32 8) (Γ:=Unit) (Γx:=Unit) (fun s0 g0_=>[(0,vs s_),(2,ptr (some (b1,0)) 0),(3,ptr (some (b2,0)) 0),(4,vi s0.1)]) (fun s0 g0_=>[⟨some (b1,0),e32 ((replicate 8 0#32).toList)⟩,⟨some (b2,0),e32 s0.2.toList⟩]) (fun t g=>[(2,ptr (some (b1,0)) 0),(3,ptr (some (b2,0)) 0)]) (fun t g=>[⟨some (b1,0),e32 ((replicate 8 0#32).toList)⟩,⟨some (b2,0),e32 t.toList⟩]) ?_ BIG (0,replicate 8 0#32) () t_1 Hl ?_
 ·intro s0 g0_ r1 H K hK hE
  unfold halberdref9_get.b0 at H
  refine TC_seq (TC_seq (TC_region (TVm ?_)))
  refine TLv (V_bin rfl rfl (fun w=>lssI w s0.1 32)) ?_
  refine TL_nil (TX_next (TCd H (fun hc H=>?_) (fun hc H=>?_)))
  ·refine TC_skip (TX_next (TC_seq (TC_block ?_)))
   obtain ⟨h1,H⟩:=if_elim H
   obtain ⟨h2,H⟩:=if_elim H
   obtain ⟨h3,H⟩:=if_elim H
   obtain ⟨m_1,hm_1,H⟩:=ltt_elim H
   refine TA_begin [] 16 (by kernel_rfl) (N:=16) rfl ?_
   refine TA_mix (is:=[]) (done':=dn 16 32767) [itV 0 9 (vi s0.1) [],itV 1 10 (vi (w64 (s0.1.tdiv 4))) [0],itV 2 11 (vi (w64 (7 - (w64 (s0.1.tdiv 4))))) [1],itV 3 12 (vi s0.1) [],itV 4 13 (vi (w64 (s0.1.tdiv 4))) [3],itV 5 14 (vi (w64 (7 - (w64 (s0.1.tdiv 4))))) [4],itV 6 15 (ptr (some (b2,0)) ((w64 (7 - (w64 (s0.1.tdiv 4)))).toNat)) [5],itV 7 16 (v32 (vg s0.2 ((w64 (7 - (w64 (s0.1.tdiv 4)))).toNat))) [6],itV 8 17 (v32 ((vg s0.2 ((w64 (7 - (w64 (s0.1.tdiv 4)))).toNat)) <<< 8)) [7],itV 9 18 (vs s_) [],itV 10 19 (vi s0.1) [],itV 11 20 (v8 (sg s_ s0.1)) [9,10],itV 12 21 (v32 ((sg s_ s0.1).setWidth 32)) [11],itV 13 22 (v32 (((vg s0.2 ((w64 (7 - (w64 (s0.1.tdiv 4)))).toNat)) <<< 8) ||| ((sg s_ s0.1).setWidth 32))) [8,12],itV 14 23 (ptr (some (b2,0)) ((w64 (7 - (w64 (s0.1.tdiv 4)))).toNat)) [2]] [] 1 (by kernel_rfl) (QP.block (QP.then (QP.then (QP.block (QP.then QP.body))))) (by kernel_rfl) rfl (.v rfl (V_move rfl) (.v rfl (V_bin rfl rfl (fun w=>quoI w s0.1 4 (by decide))) (.v rfl (V_bin rfl rfl (fun w=>subI w 7 (w64 (s0.1.tdiv 4)))) (.v rfl (V_move rfl) (.v rfl (V_bin rfl rfl (fun w=>quoI w s0.1 4 (by decide))) (.v rfl (V_bin rfl rfl (fun w=>subI w 7 (w64 (s0.1.tdiv 4)))) (.v rfl (V_idxArr (i:=w64 (7 - (w64 (s0.1.tdiv 4)))) rfl rfl underlying31 inf29 rfl h1.1 h1.2 (k:=(w64 (7 - (w64 (s0.1.tdiv 4)))).toNat) (k01 _)) (.v rfl (V_load rfl (.o 1) (get_vec (f:=v32) (V:=s0.2) (toNat_lt h1.1 h1.2)) isAgg29) (.v rfl (V_bin rfl rfl (fun w=>shl32 w (vg s0.2 ((w64 (7 - (w64 (s0.1.tdiv 4)))).toNat)) .u64 8 (by decide))) (.v rfl (V_move rfl) (.v rfl (V_move rfl) (.v rfl (V_idxStr rfl rfl (i:=s0.1) underlying9 h2.1 h2.2) (.v rfl (V_conv rfl (fun w=>cv8to32 w _ _ underlying29 (und5) (sg s_ s0.1))) (.v rfl (V_bin rfl rfl (fun w=>or32 w ((vg s0.2 ((w64 (7 - (w64 (s0.1.tdiv 4)))).toNat)) <<< 8) ((sg s_ s0.1).setWidth 32))) (.v rfl (V_idxArr (i:=w64 (7 - (w64 (s0.1.tdiv 4)))) rfl rfl underlying31 inf29 rfl h3.1 h3.2 (k:=(w64 (7 - (w64 (s0.1.tdiv 4)))).toNat) (k01 _)) .nil))))))))))))))) .nil (by kernel_rfl) rfl (fun γ=>?_)
   refine TA_cut [(23,ptr (some (b2,0)) ((w64 (7 - (w64 (s0.1.tdiv 4)))).toNat)),(22,v32 (((vg s0.2 ((w64 (7 - (w64 (s0.1.tdiv 4)))).toNat)) <<< 8) ||| ((sg s_ s0.1).setWidth 32))),(0,vs s_),(2,ptr (some (b1,0)) 0),(3,ptr (some (b2,0)) 0),(4,vi s0.1)] [⟨some (b1,0),e32 ((replicate 8 0#32).toList)⟩,⟨some (b2,0),e32 s0.2.toList⟩] ⟨rfl,rfl,rfl,rfl,rfl,rfl,trivial⟩ rfl ?_
   refine TA_all (rs:=[15]) (by kernel_rfl) rfl ?_
   refine ⟨?_,trivial⟩
   refine TO_n (is:=[]) (done':=dn 16 65535) rfl rfl rfl (by kernel_rfl) (E_store (j:=1) rfl rfl inf29 rfl rfl rfl (by simpa using (toNat_lt h3.1 h3.2)) (cs':=e32 ((vp s0.2 ((w64 (7 - (w64 (s0.1.tdiv 4)))).toNat) (((vg s0.2 ((w64 (7 - (w64 (s0.1.tdiv 4)))).toNat)) <<< 8) ||| ((sg s_ s0.1).setWidth 32))).toList)) set_vec) (fun _ _=>rfl) (fun _=>?_)
   refine TA_reE (j:=1) (A:=some (b2,0)) (cs:=e32 ((vp s0.2 ((w64 (7 - (w64 (s0.1.tdiv 4)))).toNat) (((vg s0.2 ((w64 (7 - (w64 (s0.1.tdiv 4)))).toNat)) <<< 8) ||| ((sg s_ s0.1).setWidth 32))).toList)) (cs':=e32 m_1.toList) rfl (congrArg (fun z:Vx 32 8=>e32 (Vector.toList z)) hm_1) ?_
   refine TA_done (by kernel_rfl) ?_ 0
   refine TX_block_normal (TX_next (TC_region (TVm ?_)))
   refine TLv (V_bin rfl rfl (fun w=>addI w s0.1 1)) ?_
   refine TVa ?_
   obtain ⟨i1,hi1,H⟩:=ltt_elim H
   refine TLr 4 (congrArg vi hi1) ?_
   refine TL_nil ?_
   obtain rfl:=sj H
   exact TXk [0,0] (hK (i1,m_1) rfl ())
  ·refine TC_exit (TX_then_exit (TX_then_exit ?_))
   obtain rfl:=sj H
   exact TXj [0,0] (hE s0.2 rfl ())
 ·intro g
  refine TX_block_exit (TX_next (TC_seq (TC_region (TLv (V_lag (.o 1) isAgg31 inf31) ?_))))
  refine TLn (E_sv (vs:=e32 t_1.toList) 0 inf31) (fun _=>?_)
  refine TL_nil (TX_next (TC_ret ?_))
  obtain rfl:=sj H
  exact TXr (vs:=[_]) rfl ⟨(Res_agg (n:=8) rfl (by simp) (.o 0) isAgg31 inf31 rfl (lenV (f:=v32) t_1)),trivial⟩
end Go.Proofs
end

/-
  Part 30 of the proof of what several laws share.
-/
import Derived.Test.YtiofnmmggblcgaaEsC1
import Derived.Test.YtiofnmmggblcgaaEsC2
import Derived.Test.YtiofnmmggblcgaaEsC3
import Derived.Test.YtiofnmmggblcgaaEsC4
import Derived.Test.YtiofnmmggblcgaaEsC5
import Derived.Test.YtiofnmmggblcgaaEsC6
import Derived.Test.YtiofnmmggblcgaaEsC7
import Derived.Test.YtiofnmmggblcgaaEsC8
import Derived.Test.YtiofnmmggblcgaaEsC9
import Derived.Test.YtiofnmmggblcgaaEsC10
import Derived.Test.YtiofnmmggblcgaaEsC11
import Derived.Test.YtiofnmmggblcgaaEsC12
import Derived.Test.YtiofnmmggblcgaaEsC13
import Derived.Test.YtiofnmmggblcgaaEsC14
import Derived.Test.YtiofnmmggblcgaaEsC15
import Derived.Test.YtiofnmmggblcgaaEsC16
import Derived.Test.YtiofnmmggblcgaaEsC17
import Derived.Test.YtiofnmmggblcgaaEsC18
import Derived.Test.YtiofnmmggblcgaaEsC19
import Derived.Test.YtiofnmmggblcgaaEsC20
import Derived.Test.YtiofnmmggblcgaaEsC21
import Derived.Test.YtiofnmmggblcgaaEsC22
import Derived.Test.YtiofnmmggblcgaaEsC23
import Derived.Test.YtiofnmmggblcgaaEsC24
import Derived.Test.YtiofnmmggblcgaaEsC25
import Derived.Test.YtiofnmmggblcgaaEsC26
import Derived.Test.YtiofnmmggblcgaaEsC27
import Derived.Test.YtiofnmmggblcgaaEsC28
import Derived.Test.YtiofnmmggblcgaaEsC29
set_option linter.unusedVariables false
set_option linter.unusedSimpArgs false
section
namespace Go.Kx
open Go Go.Proofs
open Vector (replicate)
open Go.Nt hiding n4
theorem Two_ex (u v:Vx 64 4) {a:Nat} {q:Fp × Fp} (hq:sG a=some q) :
  ∃ w b,pcurve_Two u v (encQ q)=some (w,b)∧(match sG (n4 u+n4 v * a) with | none=>b=false | some p=>b=true∧n4 w=toN p.1):=by
 have okq:okP (some q):=hq ▸ sG_ok a
 obtain ⟨inv,one,two,b',h2,F,hb⟩:=newCurve_ex
 obtain ⟨X,Y,Z,h3, -,f3⟩:=read_ex F hb (encQ q)
 have f3:=f3 q okq rfl
 rw [← hq] at f3
 obtain ⟨g,h4,f4⟩:=base_pt (b:=b') F
 obtain ⟨r4,h5,f5⟩:=times_pt (b:=b') (k:=u) F f4
 obtain ⟨r5,h6,f6⟩:=times_pt (b:=b') (k:=v) F f3
 rw [Nat.mul_one] at f5
 obtain ⟨r6,h7,f7⟩:=add_pt (b:=b') F f5 f6
 rw [sG_add] at f7
 unfold pcurve_Two
 generalize sG (n4 u+n4 v * a)=p at f7
 cases p with
 | none =>
  obtain ⟨-,t,ht,hj⟩:=f7
  have hz:t.2.2=0:=hj
  exact ⟨replicate 4 0#64,false,bind_i h2 (bind_i h3 (bind_i h4 (bind_i h5 (bind_i h6 (bind_i h7 (bind_i ht.2.2.zero (if_i (by simp [hz]) rfl))))))),rfl⟩
 | some p =>
  have hw:=write_ex (b:=b') F f7
  obtain ⟨ok,t,ht,hj⟩:=f7
  have hz:t.2.2 ≠ 0:=hj.1
  obtain ⟨w,hl,el⟩:=num_Load_ex (sub (encQ p) 1 33) (by rw [encQ_x,nb32_len])
  rw [encQ_x,bnum_nb32 _ (toN_lt2 _)] at el
  exact ⟨w,true,bind_i h2 (bind_i h3 (bind_i h4 (bind_i h5 (bind_i h6 (bind_i h7 (bind_i ht.2.2.zero (if_n (by simp [hz]) (bind_i hw (if_i (by rw [encQ_len]; omega) (bind_i hl rfl)))))))))),rfl,el⟩
theorem Verify_no (public_ digest sig:Str) (hl:sig.length<4611686018427387904) (h : ¬ ((∃ r s,isSg sig r s)∧digest.length=32∧isPt public_)):ecdsa_Verify public_ digest sig=some 1200:=by
 obtain ⟨v,w,b,h1,h2, -⟩:=read_sig sig hl
 unfold ecdsa_Verify
 refine bind_i h1 (bind_i (v:=true) ?_ (if_i rfl rfl))
 cases b with
 | false=>exact if_i rfl rfl
 | true =>
  rw [if_neg (by simp)]
  by_cases hd:digest.length=32
  ·rw [if_neg (by omega)]
   have : ¬ isPt public_:=fun c=>h ⟨h2.1 rfl,hd,c⟩
   exact bind_i (On_eq public_) (by simp [this])
  ·rw [if_pos (by omega)]
theorem Verify_is (digest sig:Str) {r s a:Nat} {q:Fp × Fp} (hl:sig.length<4611686018427387904) (hs:isSg sig r s) (hd:digest.length=32) (hq:sG a=some q):ecdsa_Verify (encQ q) digest sig=some (verR r (verP a (bnum digest) r s)):=by
 obtain ⟨v,w,b,h1,h2,h3⟩:=read_sig sig hl
 have hb:b=true:=h2.2 ⟨r,s,hs⟩
 subst hb
 obtain ⟨ev,ew⟩:=h3 r s hs
 have okq:okP (some q):=hq ▸ sG_ok a
 have hpt:isPt (encQ q):=⟨q,okq,rfl⟩
 obtain ⟨inv,one,two,h4,F⟩:=New_N
 have hN2:=N2
 have hNp:=N_pos
 obtain ⟨v3,h5,R5⟩:=F.into (x:=w) (by rw [ew]; exact hs.2.2.2.1)
 obtain ⟨v4,h6,R6⟩:=F.inverse R5
 obtain ⟨v5,h7,e7⟩:=num_Load_ex digest hd
 obtain ⟨v6,h8,e8⟩:=F.rest (x:=v5) (by rw [e7]; have:=bnum_lt32 digest hd; omega)
 obtain ⟨v7,h9,R9⟩:=F.into (x:=v6) (by rw [e8]; exact Nat.mod_lt _ hNp)
 obtain ⟨v8,h10,R10⟩:=F.mul R9 R6
 obtain ⟨v9,h11,e11⟩:=F.out R10
 obtain ⟨v10,h12,R12⟩:=F.into (x:=v) (by rw [ev]; exact hs.2.1)
 obtain ⟨v11,h13,R13⟩:=F.mul R12 R6
 obtain ⟨v12,h14,e14⟩:=F.out R13
 obtain ⟨z,tb,h15,h16⟩:=Two_ex v9 v12 hq
 have hP:sG (n4 v9+n4 v12 * a)=verP a (bnum digest) r s:=by
  rw [e11,e14,e8,e7,ew,ev]; rfl
 rw [hP] at h16
 unfold ecdsa_Verify
 refine bind_i h1 (bind_i (v:=false) ?_ (if_n Bool.false_ne_true (bind_i h4 (bind_i h5 (bind_i h6 (bind_i h7 (bind_i h8 (bind_i h9 (bind_i h10 (bind_i h11 (bind_i h12 (bind_i h13 (bind_i h14 (bind_i h15 ?_))))))))))))))
 ·exact if_n (by simp) (if_n (by omega) (bind_i (On_eq (encQ q)) (by simp [hpt])))
 ·generalize verP a (bnum digest) r s=p at h16
  cases p with
  | none =>
   have h16:tb=false:=h16
   subst h16
   exact if_i rfl rfl
  | some p =>
   obtain ⟨e1,e2⟩:tb=true∧n4 z=toN p.1:=h16
   subst e1
   obtain ⟨y,h17,e17⟩:=F.rest (x:=z) (by rw [e2]; have:=toN_lt2 p.1; omega)
   rw [e2] at e17
   refine if_n (by simp) (bind_i h17 ?_)
   show _=some (if toN p.1 % N256=r then 0 else 1201)
   by_cases he:toN p.1 % N256=r
   ·rw [if_pos he]
    exact if_n (fun c=>c (n4_ext (by show n4 y=n4 v; rw [e17,he,ev]))) rfl
   ·rw [if_neg he]
    exact if_i (fun c=>he (by rw [← e17, ← ev]; exact congrArg n4 c)) rfl
theorem stands_SG (sig:Str) (hl:sig.length<4611686018427387904) (h0:2≤sig.length) (h48:sg sig 0=48#8) (h1:((sg sig 1).toNat:Int)=(sig.length:Int) - 2) {r s:Nat} (hr:standsAt sig 2 r) (hs:standsAt sig (2+(DI r).length) s) (he:2+(DI r).length+(DI s).length=sig.length):isSg sig r s:=by
 refine ⟨hr.1,hr.2.1,hs.1,hs.2.1,?_⟩
 have hc:=cut_head sig 0 (sig.length - 2) (by omega)
 rw [show 0+2+(sig.length - 2)=sig.length by omega,sub_all] at hc
 have hj:=sub_join sig 2 (2+(DI r).length) sig.length (by omega) (by omega) (Nat.le_refl _)
 rw [hr.2.2.2] at hj
 have hs4:=hs.2.2.2
 rw [he] at hs4
 rw [hs4] at hj
 have hll:=congrArg List.length hj
 rw [sub_length (by omega)] at hll
 have e0:sg sig ((0:Nat):Int)=48#8:=h48
 have e1:sg sig ((0+1:Nat):Int)=BitVec.ofNat 8 (DI r++DI s).length:=by
  apply BitVec.eq_of_toNat_eq
  have h2:(sg sig ((0+1:Nat):Int)).toNat=sig.length - 2:=by
   exact (show (sg sig 1).toNat=sig.length - 2 by omega)
  have:=(sg sig ((0+1:Nat):Int)).isLt
  rw [BitVec.toNat_ofNat,hll,h2]
  omega
 rw [hc,e0,e1, ← hj]; rfl
theorem SG_parts (r s:Nat):2≤(SG r s).length∧sg (SG r s) 0=48#8∧((sg (SG r s) 1).toNat:Int)=((SG r s).length:Int) - 2∧(SG r s).length=2+(DI r).length+(DI s).length:=by
 have h:=SG_len r s
 have e1:(SG r s).length=2+(DI r++DI s).length:=by unfold SG; rw [List.length_append]; rfl
 have e2:(DI r++DI s).length=(DI r).length+(DI s).length:=List.length_append
 refine ⟨by omega,rfl,?_,by omega⟩
 have:sg (SG r s) 1=BitVec.ofNat 8 (DI r++DI s).length:=rfl
 rw [this,ofNat8 _ (by omega)]; omega
theorem SG_stands (r s:Nat) (hr:0<r∧r<N256) (hs:0<s∧s<N256):standsAt (SG r s) 2 r∧standsAt (SG r s) (2+(DI r).length) s:=by
 have hp:=SG_parts r s
 refine ⟨⟨hr.1,hr.2,by omega,?_⟩,⟨hs.1,hs.2,by omega,?_⟩⟩
 ·have:=sub_mid [48#8,BitVec.ofNat 8 (DI r++DI s).length] (DI r) (DI s)
  rw [List.append_assoc] at this
  exact this
 ·have h:=sub_mid ([48#8,BitVec.ofNat 8 (DI r++DI s).length]++DI r) (DI s) []
  have e1:([48#8,BitVec.ofNat 8 (DI r++DI s).length]++DI r).length=2+(DI r).length:=List.length_append
  have e2:([48#8,BitVec.ofNat 8 (DI r++DI s).length]++DI r)++DI s++[]=SG r s:=by
   rw [List.append_nil]; unfold SG; rw [List.append_assoc]
  rw [e2,e1] at h
  exact h
open Classical in
theorem rVerify_no (public_ digest sig:Str) (hl:sig.length<4611686018427387904) (h : ¬ ((∃ r s,isSg sig r s)∧digest.length=32∧isPt public_)):halberdref9_Verify public_ digest sig=some 1200:=by
 obtain ⟨X,Y,Z,h3, -⟩:=Decode_ex public_
 unfold halberdref9_Verify
 refine bind_i h3 ?_
 dsimp only
 by_cases hp:isPt public_
 case neg=>exact bind_i (v:=true) (if_i (by simp [hp]) rfl) (if_i rfl rfl)
 have e0:(!decide (isPt public_))=false:=by simp [hp]
 by_cases hd:digest.length=32
 case neg=>exact bind_i (v:=true) (if_n (by rw [e0]; decide) (if_i (by omega) rfl)) (if_i rfl rfl)
 by_cases h2:sig.length<2
 ·exact bind_i (v:=true) (if_n (by rw [e0]; decide) (if_n (by omega) (if_i (by omega) rfl))) (if_i rfl rfl)
 have w2:w64 ((sig.length:Int) - 2)=(sig.length:Int) - 2:=w64_id (by omega) (by omega)
 by_cases h48:sg sig 0=48#8
 case neg=>exact bind_i (v:=true) (if_n (by rw [e0]; decide) (if_n (by omega) (if_n (by omega) (if_i (by omega) (if_i h48 rfl))))) (if_i rfl rfl)
 by_cases h1:((sg sig 1).toNat:Int)=(sig.length:Int) - 2
 case neg=>exact bind_i (v:=true) (if_n (by rw [e0]; decide) (if_n (by omega) (if_n (by omega) (if_i (by omega) (if_n (fun c=>c h48) (if_i (by omega) (congrArg some (decide_eq_true (by rw [w2]; exact h1)))))))) ) (if_i rfl rfl)
 refine bind_i (v:=false) (if_n (by rw [e0]; decide) (if_n (by omega) (if_n (by omega) (if_i (by omega) (if_n (fun c=>c h48) (if_i (by omega) (congrArg some (decide_eq_false (fun c=>c (by rw [w2]; exact h1)))))))))) (if_n Bool.false_ne_true ?_)
 obtain ⟨v,x,b,t1,t2,t3⟩:=taken_ex sig 2 hl (by omega)
 cases b with
 | false=>exact bind_i t1 (if_i rfl rfl)
 | true =>
  obtain ⟨r,hr⟩:=t2.1 rfl
  obtain ⟨-,ex⟩:=t3 r hr
  subst ex
  obtain ⟨v',x',b',u1,u2,u3⟩:=taken_ex sig (2+(DI r).length) hl hr.2.2.1
  refine bind_i t1 (if_n (by simp) (bind_i u1 (bind_i (v:=true) ?_ (if_i rfl rfl))))
  cases b' with
  | false=>exact if_i rfl rfl
  | true =>
   obtain ⟨s,hs⟩:=u2.1 rfl
   obtain ⟨-,ex'⟩:=u3 s hs
   subst ex'
   refine if_n (by simp) (congrArg some (decide_eq_true (fun c=>h ⟨⟨r,s,stands_SG sig hl (by omega) h48 h1 hr hs (by dsimp only at c; omega)⟩,hd,hp⟩)))
open Classical in
theorem rVerify_is (digest:Str) {r s a:Nat} {q:Fp × Fp} (hr:0<r∧r<N256) (hs:0<s∧s<N256) (hd:digest.length=32) (hq:sG a=some q):halberdref9_Verify (encQ q) digest (SG r s)=some (verR r (verP a (bnum digest) r s)):=by
 have okq:okP (some q):=hq ▸ sG_ok a
 have hpt:isPt (encQ q):=⟨q,okq,rfl⟩
 obtain ⟨X,Y,Z,h3,f3⟩:=Decode_ex (encQ q)
 have f3:=f3 q okq rfl
 rw [← hq] at f3
 have hp:=SG_parts r s
 have hl:=SG_len r s
 rw [List.length_append] at hl
 obtain ⟨s1,s2⟩:=SG_stands r s hr hs
 obtain ⟨v,x,b,t1,t2,t3⟩:=taken_ex (SG r s) 2 (by omega) (by omega)
 have hb:b=true:=t2.2 ⟨r,s1⟩
 obtain ⟨ev,ex⟩:=t3 r s1
 subst hb ex
 obtain ⟨w,x',b',u1,u2,u3⟩:=taken_ex (SG r s) (2+(DI r).length) (by omega) (by omega)
 have hb':b'=true:=u2.2 ⟨s,s2⟩
 obtain ⟨ew,ex'⟩:=u3 s s2
 subst hb' ex'
 have F:=Rd_N
 have hNp:=N_pos
 obtain ⟨v4,h4,e4⟩:=F.invP (x:=w) (by rw [ew]; exact hs.2)
 obtain ⟨v5,h5,e5⟩:=ref_get_ex digest hd
 obtain ⟨v6,h6,e6⟩:=small_eq v5
 obtain ⟨v7,h7,e7⟩:=F.mulP (x:=v6) (y:=v4) (by rw [e6]; exact Nat.mod_lt _ hNp) (by rw [e4]; exact Nat.mod_lt _ hNp)
 obtain ⟨v8,h8,e8⟩:=F.mulP (x:=v) (y:=v4) (by rw [ev]; exact hr.2) (by rw [e4]; exact Nat.mod_lt _ hNp)
 obtain ⟨g,h9,f9⟩:=G_pt
 obtain ⟨p1,h10,f10⟩:=product_pt (k:=v7) f9
 rw [Nat.mul_one] at f10
 obtain ⟨p2,h11,f11⟩:=product_pt (k:=v8) f3
 obtain ⟨p3,h12,f12⟩:=together_pt f10 f11
 rw [sG_add] at f12
 have hP:sG (n8 v7+n8 v8 * a)=verP a (bnum digest) r s:=by rw [e7,e8,e6,e5,e4,ew,ev]; rfl
 rw [hP] at f12
 have w2:w64 (((SG r s).length:Int) - 2)=((SG r s).length:Int) - 2:=w64_id (by omega) (by omega)
 unfold halberdref9_Verify
 refine bind_i h3 ?_
 dsimp only
 refine bind_i (v:=false) (if_n (by simp [hpt]) (if_n (by omega) (if_n (by omega) (if_i (by omega) (if_n (fun c=>c hp.2.1) (if_i (by omega) (congrArg some (decide_eq_false (fun c=>c (by rw [w2]; exact hp.2.2.1)))))))))) (if_n Bool.false_ne_true ?_)
 refine bind_i t1 (if_n (by simp) (bind_i u1 (bind_i (v:=false) (if_n (by simp) (congrArg some (decide_eq_false (fun c=>c (by dsimp only; omega))))) (if_n Bool.false_ne_true ?_))))
 refine bind_i h4 (bind_i h5 (bind_i h6 (bind_i h7 (bind_i h8 (bind_i h9 (bind_i h10 (bind_i h11 (bind_i h12 ?_))))))))
 obtain ⟨k0,k1⟩:=plain_ex f12
 generalize verP a (bnum digest) r s=p at k0 k1
 cases p with
 | none=>exact bind_i (k0 rfl) (if_i rfl rfl)
 | some p =>
  obtain ⟨X',Y',e,eX, -⟩:=k1 p rfl
  obtain ⟨y,h13,e13⟩:=small_eq X'
  rw [eX] at e13
  refine bind_i e (if_n (by simp) (bind_i h13 ?_))
  show _=some (if toN p.1 % N256=r then 0 else 1201)
  by_cases he:toN p.1 % N256=r
  ·rw [if_pos he]
   exact if_n (fun c=>c (n8_ext (by show n8 y=n8 v; rw [e13,he,ev]))) rfl
  ·rw [if_neg he]
   exact if_i (fun c=>he (by rw [← e13, ← ev]; exact congrArg n8 c)) rfl
theorem Verify_eq (public_ digest sig:Str) (hl:sig.length<4611686018427387904) : ∃ e,ecdsa_Verify public_ digest sig=some e∧halberdref9_Verify public_ digest sig=some e:=by
 by_cases h:(∃ r s,isSg sig r s)∧digest.length=32∧isPt public_
 ·obtain ⟨⟨r,s,hs⟩,hd,hp⟩:=h
  obtain ⟨a,q, -, -,hq, -,rfl⟩:=pt_cases public_ hp
  have h1:=Verify_is digest sig hl hs hd hq
  have h2:=rVerify_is digest (r:=r) (s:=s) ⟨hs.1,hs.2.1⟩ ⟨hs.2.2.1,hs.2.2.2.1⟩ hd hq
  rw [← hs.2.2.2.2] at h2
  exact ⟨_,h1,h2⟩
 ·exact ⟨_,Verify_no _ _ _ hl h,rVerify_no _ _ _ hl h⟩
theorem Sign_eq (key nonce digest:Str) : ∃ v,ecdsa_Sign key nonce digest=some v∧halberdref9_Sign key nonce digest=some v:=by
 by_cases h:isSc key∧isSc nonce∧digest.length=32
 ·exact ⟨_,Sign_is _ _ _ h.1 h.2.1 h.2.2,rSign_is _ _ _ h.1 h.2.1 h.2.2⟩
 ·exact ⟨_,Sign_no _ _ _ h,rSign_no _ _ _ h⟩
end Go.Kx
end

section
namespace Go.Proofs
open Go Go.Kx
open TryI Try
def halberdref1_Be.b0 (size:Int) (s0:Int × Int × List (BitVec 8)):Option ((Int × Int × List (BitVec 8)) ⊕ (List (BitVec 8))) :=
 if 0≤s0.2.1 then (if 0≤s0.2.1∧s0.2.1<((size).toNat:Int) then (if (s0.2.1).toNat<(s0.2.2).length then (ltt (s0.2.2.set ((s0.2.1).toNat) (BitVec.ofInt 8 (iop (· &&& ·) s0.1 255))) fun (m_1:List (BitVec 8))=>(ltt (w64 (s0.2.1 - 1)) fun (i2:Int)=>(some (.inl (shrI' s0.1 8,i2,m_1))))) else none) else none) else (some (.inr s0.2.2))
def halberdref1_Be (x:Int) (size:Int):Option (Str) :=
 if 0≤size∧size≤17592186044416 then (ltt (w64 (size - 1)) fun (i1:Int)=>((loop (halberdref1_Be.b0 size) BIG (x,i1,List.replicate ((size).toNat) 0#8)).bind fun (t_1:List (BitVec 8))=>(if (t_1).length=(size).toNat then (some t_1) else none))) else none
set_option maxHeartbeats 4000000 in
set_option maxRecDepth 20000 in
theorem F98_calls (x:Int) (size:Int) (r:Str) (H:halberdref1_Be x size=some r) :
  Does Try.prog 98 [vi x,vi size] [] [] (Γ:=Unit) (fun g=>vs r) (fun g=>[]):=by
 intro w hmem hro hd
 refine calls_of (N:=25) (m0:=[(0,vi x),(1,vi size)]) func98 rfl ntmps98 (argM_ok [vi x,vi size]) rfl hmem hro hd ?_
 unfold halberdref1_Be at H
 refine TC_seq (TC_region (TVa ?_))
 refine TL_nil (TX_next (TC_seq (TC_region (TVm ?_))))
 obtain ⟨h1,H⟩:=if_elim H
 refine TLe (E_mk1 rfl rfl underlying42 inf5 (z:=v8 0#8) rfl rfl rfl (B:=1) rfl h1.1 (Int.le_refl _) (by have:=h1; omega) (by have:=h1; omega) (n':=(size).toNat) (c':=(size).toNat) rfl rfl (cs:=e8 (List.replicate ((size).toNat) 0#8)) (rep_map (f:=v8))) (fun b1=>?_)
 refine TVa ?_
 refine TL_nil (TX_next (TC_seq (TC_seq (TC_region (TVm ?_)))))
 refine TLv (V_bin rfl rfl (fun w=>subI w size 1)) ?_
 refine TVa ?_
 obtain ⟨i1,hi1,H⟩:=ltt_elim H
 refine TLr 6 (congrArg vi hi1) ?_
 refine TL_nil (TX_next (TC_block ?_))
 obtain ⟨t_1,Hl,H⟩:=bind_elim H
 refine TC.sub (m':=[(0,_),(5,_),(6,_)]) ⟨rfl,rfl,rfl,trivial⟩ ?_
 refine TC.pull (is:=[0]) (L':=[_]) rfl ?_
 refine TC_loopL (id:=0) (body:=(halberdref1_Be.b0 size)) (σ:=Int × Int × List (BitVec 8)) (Γ:=Unit) (Γx:=Unit) (fun s0 g0_=>[(0,vi s0.1),(5,sl (some (b1,0)) ((size).toNat) ((size).toNat)),(6,vi s0.2.1)]) (fun s0 g0_=>[⟨some (b1,0),e8 s0.2.2⟩]) (fun t g=>[(5,sl (some (b1,0)) ((size).toNat) ((size).toNat))]) (fun t g=>[⟨some (b1,0),e8 t⟩]) ?_ BIG (x,i1,List.replicate ((size).toNat) 0#8) () t_1 Hl ?_
 ·intro s0 g0_ r1 H K hK hE
  unfold halberdref1_Be.b0 at H
  refine TC_seq (TC_seq (TC_region (TVm ?_)))
  refine TLv (V_bin rfl rfl (fun w=>geqI w s0.2.1 0)) ?_
  refine TL_nil (TX_next (TCd H (fun hc H=>?_) (fun hc H=>?_)))
  ·refine TC_skip (TX_next (TC_seq (TC_block (TC_seq (TC_region (TVm ?_))))))
   refine TVm ?_
   refine TVm ?_
   refine TLv (V_bin rfl rfl (fun w=>andI w s0.1 255)) ?_
   refine TLv (V_conv rfl (fun w=>cvI8 w _ _ underlying5 (und3) .i64 (iop (· &&& ·) s0.1 255))) ?_
   obtain ⟨h2,H⟩:=if_elim H
   obtain ⟨h3,H⟩:=if_elim H
   refine TLv (V_idxSl (i:=s0.2.1) rfl rfl underlying42 inf5 rfl (fun _ h=>by cases h) h2.1 h2.2 (k:=(s0.2.1).toNat) (km1 _)) ?_
   refine TLn (E_store (j:=0) rfl rfl inf5 rfl rfl rfl (by simpa using h3) (cs':=e8 (s0.2.2.set ((s0.2.1).toNat) (BitVec.ofInt 8 (iop (· &&& ·) s0.1 255)))) (set_map (f:=v8) (l:=s0.2.2) (k:=((s0.2.1).toNat)) (x:=(BitVec.ofInt 8 (iop (· &&& ·) s0.1 255))))) (fun _=>?_)
   obtain ⟨m_1,hm_1,H⟩:=ltt_elim H
   refine TL_reE (j:=0) (A:=some (b1,0)) (cs:=e8 (s0.2.2.set ((s0.2.1).toNat) (BitVec.ofInt 8 (iop (· &&& ·) s0.1 255)))) (cs':=e8 m_1) rfl (congrArg (e8) hm_1) ?_
   refine TL_nil (TX_next (TC_region (TVm ?_)))
   refine TLv (V_bin rfl rfl (fun w=>shrI w s0.1 .u64 8 (by decide))) ?_
   refine TVa ?_
   refine TL_nil (TX_block_normal (TX_next (TC_region (TVm ?_))))
   refine TLv (V_bin rfl rfl (fun w=>subI w s0.2.1 1)) ?_
   refine TVa ?_
   obtain ⟨i2,hi2,H⟩:=ltt_elim H
   refine TLr 6 (congrArg vi hi2) ?_
   refine TL_nil ?_
   obtain rfl:=sj H
   exact TXk [0] (hK (shrI' s0.1 8,i2,m_1) rfl ())
  ·refine TC_exit (TX_then_exit (TX_then_exit ?_))
   obtain rfl:=sj H
   exact TXj [0] (hE s0.2.2 rfl ())
 ·intro g
  refine TX_block_exit (TX_next (TC_seq (TC_region (TVm ?_))))
  obtain ⟨h4,H⟩:=if_elim H
  refine TLv (V_b2s rfl underlying42 underlying5 underlying9 (.o 0) h4) ?_
  refine TVa ?_
  refine TL_nil (TX_next (TC_ret ?_))
  obtain rfl:=sj H
  exact TX1
end Go.Proofs
end

section
namespace Go.Proofs
open Go Go.Kx
open TryI Try
def halberdref1_padded (s_:Str) (block:Int) (size:Int):Option (Str) :=
 if block ≠ 0 then (ltt (w64 (block - ((w64 ((w64 (((s_).length:Int)+1))+size)).tmod block))) fun (zeros1:Int)=>((if zeros1=block then (some 0) else (some zeros1)).bind fun (j1:Int)=>(if (s_).length+(([128#8]:Str)).length≤4611686018427387904 then (if 0≤w64 ((w64 (j1+size)) - 8)∧w64 ((w64 (j1+size)) - 8)≤17592186044416 then (if (List.replicate ((w64 ((w64 (j1+size)) - 8)).toNat) 0#8).length=(w64 ((w64 (j1+size)) - 8)).toNat then (if (s_++([128#8]:Str)).length+(List.replicate ((w64 ((w64 (j1+size)) - 8)).toNat) 0#8).length≤4611686018427387904 then ((halberdref1_Be (w64 (8 * ((s_).length:Int))) 8).bind fun (r_1:Str)=>(if ((s_++([128#8]:Str))++(List.replicate ((w64 ((w64 (j1+size)) - 8)).toNat) 0#8)).length+(r_1).length≤4611686018427387904 then (ltt (((s_++([128#8]:Str))++(List.replicate ((w64 ((w64 (j1+size)) - 8)).toNat) 0#8))++r_1) fun (x1:Str)=>(some x1)) else none)) else none) else none) else none) else none))) else none
set_option maxHeartbeats 4000000 in
set_option maxRecDepth 20000 in
theorem F96_calls (s_:Str) (block:Int) (size:Int) (r:Str) (H:halberdref1_padded s_ block size=some r) :
  Does Try.prog 96 [vs s_,vi block,vi size] [] [] (Γ:=Unit) (fun g=>vs r) (fun g=>[]):=by
 intro w hmem hro hd
 refine calls_of (N:=34) (m0:=[(0,vs s_),(1,vi block),(2,vi size)]) func96 rfl ntmps96 (argM_ok [vs s_,vi block,vi size]) rfl hmem hro hd ?_
 unfold halberdref1_padded at H
 refine TC_seq (TC_region (TVa ?_))
 refine TL_nil (TX_next (TC_seq (TC_region (TVm ?_))))
 refine TVm ?_
 refine TLv (V_len_str rfl underlying9) ?_
 refine TLv (V_bin rfl rfl (fun w=>addI w ((s_).length:Int) 1)) ?_
 refine TVm ?_
 refine TLv (V_bin rfl rfl (fun w=>addI w (w64 (((s_).length:Int)+1)) size)) ?_
 refine TVm ?_
 obtain ⟨h1,H⟩:=if_elim H
 refine TLv (V_bin rfl rfl (fun w=>remI w (w64 ((w64 (((s_).length:Int)+1))+size)) block h1)) ?_
 refine TLv (V_bin rfl rfl (fun w=>subI w block ((w64 ((w64 (((s_).length:Int)+1))+size)).tmod block))) ?_
 refine TVa ?_
 obtain ⟨zeros1,hzeros1,H⟩:=ltt_elim H
 refine TLr 7 (congrArg vi hzeros1) ?_
 refine TL_nil (TX_next (TC_seq (TC_seq (TC_region (TVm ?_)))))
 refine TVm ?_
 refine TLv (V_bin rfl rfl (fun w=>eqlI w zeros1 block)) ?_
 refine TL_nil (TX_next ?_)
 obtain ⟨j1,Hj,H⟩:=bind_elim H
 refine TC_join (Γ:=Unit) (fun gj1=>[(0,vs s_),(2,vi size),(7,vi j1)]) (fun gj1=>[]) ?_ ?_
 ·intro gj1
  refine TX_next (TC_seq ?_)
  obtain ⟨h2,H⟩:=if_elim H
  obtain ⟨h3,H⟩:=if_elim H
  obtain ⟨h4,H⟩:=if_elim H
  obtain ⟨h5,H⟩:=if_elim H
  obtain ⟨r_1,hr_1,H⟩:=bind_elim H
  obtain ⟨h6,H⟩:=if_elim H
  obtain ⟨x1,hx1,H⟩:=ltt_elim H
  refine TA_begin [] 15 (by kernel_rfl) (N:=15) rfl ?_
  refine TA_mix (is:=[]) (done':=dn 15 16383) [itV 0 20 (vs s_) [],itV 1 21 (vs (s_++([128#8]:Str))) [0],itV 2 22 (vi j1) [],itV 3 23 (vi size) [],itV 4 24 (vi (w64 (j1+size))) [2,3],itV 5 25 (vi (w64 ((w64 (j1+size)) - 8))) [4],⟨6,26,fun b1=>sl (some (b1,0)) ((w64 ((w64 (j1+size)) - 8)).toNat) ((w64 ((w64 (j1+size)) - 8)).toNat),fun b1=>[⟨some (b1,0),e8 (List.replicate ((w64 ((w64 (j1+size)) - 8)).toNat) 0#8)⟩],[5],none⟩,⟨7,27,fun _=>vs (List.replicate ((w64 ((w64 (j1+size)) - 8)).toNat) 0#8),fun _=>[],[6],some 6⟩,itV 8 28 (vs ((s_++([128#8]:Str))++(List.replicate ((w64 ((w64 (j1+size)) - 8)).toNat) 0#8))) [7,1],itV 9 29 (vs s_) [],itV 10 30 (vi ((s_).length:Int)) [9],itV 11 31 (vi (w64 (8 * ((s_).length:Int)))) [10],itV 12 32 (vs r_1) [11],itV 13 33 (vs (((s_++([128#8]:Str))++(List.replicate ((w64 ((w64 (j1+size)) - 8)).toNat) 0#8))++r_1)) [12,8]] [] 1 (by kernel_rfl) (QP.then QP.body) (by kernel_rfl) rfl (.v rfl (V_move rfl) (.v rfl (V_bin rfl rfl (fun w=>addS w s_ ([128#8]:Str) h2)) (.v rfl (V_move rfl) (.v rfl (V_move rfl) (.v rfl (V_bin rfl rfl (fun w=>addI w j1 size)) (.v rfl (V_bin rfl rfl (fun w=>subI w (w64 (j1+size)) 8)) (.c rfl (fun _ _=>(E_mk1 rfl rfl underlying42 inf5 (z:=v8 0#8) rfl rfl rfl (B:=1) rfl h3.1 (Int.le_refl _) (by have:=h3; omega) (by have:=h3; omega) (n':=(w64 ((w64 (j1+size)) - 8)).toNat) (c':=(w64 ((w64 (j1+size)) - 8)).toNat) rfl rfl (cs:=e8 (List.replicate ((w64 ((w64 (j1+size)) - 8)).toNat) 0#8)) (rep_map (f:=v8)))) (.c rfl (fun _ _=>OpE_v (V_b2s rfl underlying42 underlying5 underlying9 (.o 0) h4)) (.v rfl (V_bin rfl rfl (fun w=>addS w (s_++([128#8]:Str)) (List.replicate ((w64 ((w64 (j1+size)) - 8)).toNat) 0#8) h5)) (.v rfl (V_move rfl) (.v rfl (V_len_str rfl underlying9) (.v rfl (V_bin rfl rfl (fun w=>mulI w 8 ((s_).length:Int))) (.e rfl (E_cu (F98_calls (w64 (8 * ((s_).length:Int))) 8 r_1 hr_1) call98 .z) (.v rfl (V_bin rfl rfl (fun w=>addS w ((s_++([128#8]:Str))++(List.replicate ((w64 ((w64 (j1+size)) - 8)).toNat) 0#8)) r_1 h6)) .nil)))))))))))))) .nil (by kernel_rfl) rfl (fun γ=>?_)
  refine TA_cut [(33,vs (((s_++([128#8]:Str))++(List.replicate ((w64 ((w64 (j1+size)) - 8)).toNat) 0#8))++r_1))] [⟨some ((γ 6),0),e8 (List.replicate ((w64 ((w64 (j1+size)) - 8)).toNat) 0#8)⟩] ⟨rfl,trivial⟩ rfl ?_
  generalize γ 6=b1
  refine TA_all (rs:=[14]) (by kernel_rfl) rfl ?_
  refine ⟨?_,trivial⟩
  refine TO_v (is:=[]) (done':=dn 15 32767) rfl rfl rfl rfl (by kernel_rfl) (V_assign rfl) (fun _=>rfl) ?_
  refine TA_re (d:=6) (v:=vs (((s_++([128#8]:Str))++(List.replicate ((w64 ((w64 (j1+size)) - 8)).toNat) 0#8))++r_1)) (v':=vs x1) rfl (congrArg vs hx1) ?_
  refine TA_done (by kernel_rfl) ?_ 0
  refine TX_next (TC_ret ?_)
  obtain rfl:=sj H
  exact TX1
 ·intro hJ
  replace H:=Hj
  refine TCd H (fun hc H=>?_) (fun hc H=>?_)
  ·refine TC_region (TVa ?_)
   refine TL_nil ?_
   obtain rfl:=sj H
   exact TXj [] (hJ ())
  ·refine TC_skip ?_
   obtain rfl:=sj H
   exact TXj [] (hJ ())
end Go.Proofs
end

section
namespace Go.Proofs
open Go Go.Kx
open TryI Try
def halberdref1_rot (x:BitVec 32) (k:Int):Option (BitVec 32) :=
 if 0≤k then (if 0≤w64 (32 - k) then (ltt ((x >>> (k).toNat) ||| (x <<< (w64 (32 - k)).toNat)) fun (x1:BitVec 32)=>(some x1)) else none) else none
set_option maxHeartbeats 4000000 in
set_option maxRecDepth 20000 in
theorem F103_calls (x:BitVec 32) (k:Int) (r:BitVec 32) (H:halberdref1_rot x k=some r) :
  Does Try.prog 103 [v32 x,vi k] [] [] (Γ:=Unit) (fun g=>v32 r) (fun g=>[]):=by
 intro w hmem hro hd
 refine calls_of (N:=13) (m0:=[(0,v32 x),(1,vi k)]) func103 rfl ntmps103 (argM_ok [v32 x,vi k]) rfl hmem hro hd ?_
 unfold halberdref1_rot at H
 refine TC_seq (TC_region (TVa ?_))
 refine TL_nil (TX_next (TC_seq ?_))
 obtain ⟨h1,H⟩:=if_elim H
 obtain ⟨h2,H⟩:=if_elim H
 obtain ⟨x1,hx1,H⟩:=ltt_elim H
 refine TA_begin [] 9 (by kernel_rfl) (N:=9) rfl ?_
 refine TA_mix (is:=[]) (done':=dn 9 255) [itV 0 5 (v32 x) [],itV 1 6 (vi k) [],itV 2 7 (v32 (x >>> (k).toNat)) [0,1],itV 3 8 (v32 x) [],itV 4 9 (vi k) [],itV 5 10 (vi (w64 (32 - k))) [4],itV 6 11 (v32 (x <<< (w64 (32 - k)).toNat)) [3,5],itV 7 12 (v32 ((x >>> (k).toNat) ||| (x <<< (w64 (32 - k)).toNat))) [6,2]] [] 1 (by kernel_rfl) (QP.then QP.body) (by kernel_rfl) rfl (.v rfl (V_move rfl) (.v rfl (V_move rfl) (.v rfl (V_bin rfl rfl (fun w=>shr32 w x .i64 k h1)) (.v rfl (V_move rfl) (.v rfl (V_move rfl) (.v rfl (V_bin rfl rfl (fun w=>subI w 32 k)) (.v rfl (V_bin rfl rfl (fun w=>shl32 w x .i64 (w64 (32 - k)) h2)) (.v rfl (V_bin rfl rfl (fun w=>or32 w (x >>> (k).toNat) (x <<< (w64 (32 - k)).toNat))) .nil)))))))) .nil (by kernel_rfl) rfl (fun γ=>?_)
 refine TA_cut [(12,v32 ((x >>> (k).toNat) ||| (x <<< (w64 (32 - k)).toNat))),(4,v32 0#32)] [] ⟨rfl,rfl,trivial⟩ rfl ?_
 refine TA_all (rs:=[8]) (by kernel_rfl) rfl ?_
 refine ⟨?_,trivial⟩
 refine TO_v (is:=[]) (done':=dn 9 511) rfl rfl rfl rfl (by kernel_rfl) (V_assign rfl) (fun _=>rfl) ?_
 refine TA_re (d:=4) (v:=v32 ((x >>> (k).toNat) ||| (x <<< (w64 (32 - k)).toNat))) (v':=v32 x1) rfl (congrArg v32 hx1) ?_
 refine TA_done (by kernel_rfl) ?_ 0
 refine TX_next (TC_ret ?_)
 obtain rfl:=sj H
 exact TX1
end Go.Proofs
end

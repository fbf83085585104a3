/-
  Part 1 of the proof of EcdsaSpoilt.
-/
import Derived.Test.YtiofnmmggblcgaaEsC1
import Derived.Test.YtiofnmmggblcgaaEsC2
import Derived.Test.YtiofnmmggblcgaaEsC3
import Derived.Test.YtiofnmmggblcgaaEsC4
import Derived.Test.YtiofnmmggblcgaaEsC5
import Derived.Test.YtiofnmmggblcgaaEsC6
import Derived.Test.YtiofnmmggblcgaaEsC7
import Derived.Test.YtiofnmmggblcgaaEsC8
import Derived.Test.YtiofnmmggblcgaaEsC9
import Derived.Test.YtiofnmmggblcgaaEsC10
import Derived.Test.YtiofnmmggblcgaaEsC11
import Derived.Test.YtiofnmmggblcgaaEsC12
import Derived.Test.YtiofnmmggblcgaaEsC13
import Derived.Test.YtiofnmmggblcgaaEsC14
import Derived.Test.YtiofnmmggblcgaaEsC15
import Derived.Test.YtiofnmmggblcgaaEsC16
import Derived.Test.YtiofnmmggblcgaaEsC17
import Derived.Test.YtiofnmmggblcgaaEsC18
import Derived.Test.YtiofnmmggblcgaaEsC19
import Derived.Test.YtiofnmmggblcgaaEsC20
import Derived.Test.YtiofnmmggblcgaaEsC21
import Derived.Test.YtiofnmmggblcgaaEsC22
import Derived.Test.YtiofnmmggblcgaaEsC23
import Derived.Test.YtiofnmmggblcgaaEsC24
import Derived.Test.YtiofnmmggblcgaaEsC25
import Derived.Test.YtiofnmmggblcgaaEsC26
import Derived.Test.YtiofnmmggblcgaaEsC27
import Derived.Test.YtiofnmmggblcgaaEsC28
import Derived.Test.YtiofnmmggblcgaaEsC29
import Derived.Test.YtiofnmmggblcgaaEsC30
import Derived.Test.YtiofnmmggblcgaaEsC31
import Derived.Test.YtiofnmmggblcgaaEsC32
set_option linter.unusedVariables false
set_option linter.unusedSimpArgs false
section
namespace Go.Kx
open Go Go.Proofs
def hit {α:Type} (Q:α → Prop) (o:Option α):Prop := ∃ v,o=some v∧Q v
theorem hit_some {α:Type} {Q:α → Prop} {v:α} (h:Q v):hit Q (some v):=⟨v,rfl,h⟩
theorem hit_if {α:Type} {Q:α → Prop} {c:Prop} [Decidable c] {a b:Option α} (hc:c) (h:hit Q a):hit Q (if c then a else b):=by rwa [if_pos hc]
theorem hit_n {α:Type} {Q:α → Prop} {c:Prop} [Decidable c] {a b:Option α} (hc : ¬ c) (h:hit Q b):hit Q (if c then a else b):=by rwa [if_neg hc]
theorem hit_ltt {α β:Type} {Q:β → Prop} {a:α} {f:α → Option β} (h : ∀ x,x=a → hit Q (f x)):hit Q (ltt a f):=h a rfl
theorem hit_bind {α β:Type} {P:α → Prop} {Q:β → Prop} {o:Option α} {f:α → Option β} (h:hit P o) (k : ∀ x,P x → hit Q (f x)):hit Q (o.bind f):=by
 obtain ⟨v,rfl,hv⟩:=h
 exact k v hv
theorem hit_loop {S τ:Type} {body:S → Option (S ⊕ τ)} {P:τ → Prop} (n:Nat) (I:Nat → S → Prop) {s0:S} (hn:n<1152921504606846976) (h0:I 0 s0)
  (hstep : ∀ k s,k<n → I k s → hit (fun r => ∃ s',r = .inl s'∧I (k+1) s') (body s)) (hend : ∀ s,I n s → hit (fun r => ∃ t,r = .inr t∧P t) (body s)):hit P (loop body BIG s0) :=
 loop_inv n I P hn h0 (fun k s hk hI=>by
  obtain ⟨v,h1,s',rfl,h2⟩:=hstep k s hk hI
  exact ⟨s',h1,h2⟩) (fun s hI=>by
  obtain ⟨v,h1,t,rfl,h2⟩:=hend s hI
  exact ⟨t,h1,h2⟩)
abbrev tot {α:Type} (o:Option α):Prop:=hit (fun _=>True) o
theorem rot_ex (x:BitVec 32) (k:Int) (h:0≤k∧k≤32):tot (halberdref1_rot x k):=by
 unfold halberdref1_rot
 exact hit_if h.1 (hit_if (by rw [w64_id (by omega) (by omega)]; omega) (hit_ltt fun _ _=>hit_some trivial))
theorem b256_ex (h:Vx 32 8) (b:Str) (hb:64≤b.length) (hb2:b.length<1152921504606846976):tot (halberdref1_block256 h b):=by
 unfold halberdref1_block256
 refine hit_ltt fun m _=>hit_bind (P:=fun _=>True) (hit_loop 16 (fun i s=>s.1=(i:Int)) (by decide) rfl (fun i s hi hs=>?_) (fun s hs=>?_)) fun t1 _=>?_
 ·obtain ⟨i',v⟩:=s
  dsimp only at hs
  subst hs
  have w1:w64 (4 * (i:Int))=4 * (i:Int):=w64_id (by omega) (by omega)
  have w2:w64 (4 * (i:Int)+1)=4 * (i:Int)+1:=w64_id (by omega) (by omega)
  have w3:w64 (4 * (i:Int)+2)=4 * (i:Int)+2:=w64_id (by omega) (by omega)
  have w4:w64 (4 * (i:Int)+3)=4 * (i:Int)+3:=w64_id (by omega) (by omega)
  have w5:w64 ((i:Int)+1)=((i+1:Nat):Int):=by rw [w64_id (by omega) (by omega)]; omega
  unfold halberdref1_block256.b0
  dsimp only
  rw [w1,w2,w3,w4,w5]
  exact hit_if (by omega) (hit_if (by omega) (hit_if (by omega) (hit_if (by omega) (hit_if (by omega) (hit_if (by omega) (hit_ltt fun _ _=>hit_ltt fun j hj=>hit_some ⟨_,rfl,hj⟩))))))
 ·unfold halberdref1_block256.b0
  exact hit_n (by omega) (hit_some ⟨_,rfl,trivial⟩)
 refine hit_bind (P:=fun _=>True) (hit_loop 48 (fun i s=>s.1=((16+i:Nat):Int)) (by decide) rfl (fun i s hi hs=>?_) (fun s hs=>?_)) fun t2 _=>?_
 ·obtain ⟨i',v⟩:=s
  dsimp only at hs
  subst hs
  have w1:w64 (((16+i:Nat):Int) - 15)=((16+i:Nat):Int) - 15:=w64_id (by omega) (by omega)
  have w2:w64 (((16+i:Nat):Int) - 2)=((16+i:Nat):Int) - 2:=w64_id (by omega) (by omega)
  have w3:w64 (((16+i:Nat):Int) - 16)=((16+i:Nat):Int) - 16:=w64_id (by omega) (by omega)
  have w4:w64 (((16+i:Nat):Int) - 7)=((16+i:Nat):Int) - 7:=w64_id (by omega) (by omega)
  have w5:w64 (((16+i:Nat):Int)+1)=((16+(i+1):Nat):Int):=by rw [w64_id (by omega) (by omega)]; omega
  unfold halberdref1_block256.b1
  dsimp only
  rw [w1,w2,w3,w4,w5]
  refine hit_if (by omega) (hit_if (by omega) (hit_bind (rot_ex _ _ (by decide)) fun _ _=>hit_if (by omega) (hit_bind (rot_ex _ _ (by decide)) fun _ _=>hit_if (by omega) (hit_ltt fun _ _=>hit_if (by omega) (hit_bind (rot_ex _ _ (by decide)) fun _ _=>hit_if (by omega) (hit_bind (rot_ex _ _ (by decide)) fun _ _=>hit_if (by omega) (hit_ltt fun _ _=>?_)))))))
  exact hit_if (by omega) (hit_if (by omega) (hit_if (by omega) (hit_ltt fun _ _=>hit_ltt fun j hj=>hit_some ⟨_,rfl,hj⟩)))
 ·unfold halberdref1_block256.b1
  exact hit_n (by omega) (hit_some ⟨_,rfl,trivial⟩)
 refine hit_bind (P:=fun _=>True) (hit_loop 64 (fun i s=>s.1=(i:Int)) (by decide) rfl (fun i s hi hs=>?_) (fun s hs=>?_)) fun t3 _=>?_
 ·obtain ⟨i',v⟩:=s
  dsimp only at hs
  subst hs
  have w5:w64 ((i:Int)+1)=((i+1:Nat):Int):=by rw [w64_id (by omega) (by omega)]; omega
  unfold halberdref1_block256.b2
  dsimp only
  rw [w5]
  refine hit_if (by omega) (hit_bind (rot_ex _ _ (by decide)) fun _ _=>hit_bind (rot_ex _ _ (by decide)) fun _ _=>hit_bind (rot_ex _ _ (by decide)) fun _ _=>hit_ltt fun _ _=>hit_if (by omega) (hit_if (by omega) (hit_ltt fun _ _=>?_)))
  exact hit_bind (rot_ex _ _ (by decide)) fun _ _=>hit_bind (rot_ex _ _ (by decide)) fun _ _=>hit_bind (rot_ex _ _ (by decide)) fun _ _=>hit_ltt fun _ _=>hit_ltt fun _ _=>hit_ltt fun _ _=>hit_ltt fun j hj=>hit_some ⟨_,rfl,hj⟩
 ·unfold halberdref1_block256.b2
  exact hit_n (by omega) (hit_some ⟨_,rfl,trivial⟩)
 refine hit_bind (P:=fun _=>True) (hit_loop 8 (fun i s=>s.1=(i:Int)) (by decide) rfl (fun i s hi hs=>?_) (fun s hs=>?_)) fun t4 _=>hit_some trivial
 ·obtain ⟨i',v⟩:=s
  dsimp only at hs
  subst hs
  have w5:w64 ((i:Int)+1)=((i+1:Nat):Int):=by rw [w64_id (by omega) (by omega)]; omega
  unfold halberdref1_block256.b3
  dsimp only
  rw [w5]
  exact hit_if (by omega) (hit_if (by omega) (hit_if (by omega) (hit_if (by omega) (hit_ltt fun _ _=>hit_ltt fun j hj=>hit_some ⟨_,rfl,hj⟩))))
 ·unfold halberdref1_block256.b3
  exact hit_n (by omega) (hit_some ⟨_,rfl,trivial⟩)
theorem be_ex (x:Int) (n:Nat) (hn:n≤8) (h1:1≤n):hit (fun s:Str=>s.length=n) (halberdref1_Be x (n:Int)):=by
 unfold halberdref1_Be
 refine hit_if (by omega) (hit_ltt fun i hi=>?_)
 rw [w64_id (by omega) (by omega)] at hi
 refine hit_bind (P:=fun s:List (BitVec 8)=>s.length=n) (hit_loop n (fun k s=>s.2.1=(n:Int) - 1 - (k:Int)∧s.2.2.length=n) (by omega) ⟨by dsimp only; omega,by simp⟩ (fun k s hk hs=>?_) (fun s hs=>?_)) fun t ht=>hit_if (by omega) (hit_some ht)
 ·obtain ⟨a,j,v⟩:=s
  obtain ⟨h1,h2⟩:=hs
  dsimp only at h1 h2
  unfold halberdref1_Be.b0
  dsimp only
  refine hit_if (by omega) (hit_if (by omega) (hit_if (by omega) (hit_ltt fun m hm=>hit_ltt fun j' hj=>hit_some ⟨_,rfl,?_,by dsimp only; rw [hm,List.length_set,h2]⟩)))
  dsimp only
  rw [hj,w64_id (by omega) (by omega)]; omega
 ·obtain ⟨a,j,v⟩:=s
  obtain ⟨h1,h2⟩:=hs
  dsimp only at h1 h2
  unfold halberdref1_Be.b0
  exact hit_n (by dsimp only; omega) (hit_some ⟨_,rfl,h2⟩)
theorem padded_ex (s:Str) (hs:s.length<1000000000000000000):hit (fun t:Str=>t.length % 64=0∧t.length≤s.length+200) (halberdref1_padded s 64 8):=by
 have e1:w64 ((s.length:Int)+1)=(s.length:Int)+1:=w64_id (by omega) (by omega)
 have e2:w64 ((s.length:Int)+1+8)=(s.length:Int)+1+8:=w64_id (by omega) (by omega)
 have e3:((s.length:Int)+1+8).tmod 64=((s.length:Int)+1+8) % 64:=Int.tmod_eq_emod_of_nonneg (by omega)
 have e4:w64 (64 - ((s.length:Int)+1+8) % 64)=64 - ((s.length:Int)+1+8) % 64:=w64_id (by omega) (by omega)
 unfold halberdref1_padded
 rw [e1,e2,e3,e4]
 refine hit_if (by decide) (hit_ltt fun z hz=>hit_bind (P:=fun j:Int=>0≤j∧j<64∧((s.length:Int)+1+8+j) % 64=0) ?_ fun j hj=>?_)
 ·by_cases c:z=64
  ·exact hit_if c (hit_some (by omega))
  ·exact hit_n c (hit_some (by omega))
 ·obtain ⟨h1,h2,h3⟩:=hj
  have e5:w64 (j+8)=j+8:=w64_id (by omega) (by omega)
  have e6:w64 (j+8 - 8)=j:=by rw [w64_id (by omega) (by omega)]; omega
  rw [e5,e6]
  obtain ⟨k,rfl⟩:=Int.eq_ofNat_of_zero_le h1
  simp only [Int.toNat_natCast]
  refine hit_if (by simp; omega) (hit_if (by omega) (hit_if (by simp) (hit_if (by simp; omega) (hit_bind (be_ex _ 8 (by decide) (by decide)) fun b hb=>hit_if (by simp; omega) (hit_ltt fun x hx=>hit_some ?_)))))
  have:x.length=s.length+1+k+8:=by rw [hx]; simp [hb]; omega
  omega
theorem hash_ex (s:Str) (hs:s.length<1000000000000000000):hit (fun d:Str=>d.length=32) (halberdref1_Hash 256 s):=by
 unfold halberdref1_Hash
 refine hit_bind (P:=fun r:Str × Int=>r.1.length=32) ?_ fun r hr=>hit_some hr
 unfold halberdref1_Sum
 refine hit_ltt fun x hx=>hit_if (by rw [hx]; rfl) (hit_ltt fun m _=>hit_bind (padded_ex s hs) fun p hp=>?_)
 obtain ⟨q,hq⟩ : ∃ q,p.length=64 * q:=⟨p.length / 64,by omega⟩
 refine hit_bind (P:=fun _=>True) (hit_loop q (fun k s=>s.1=((64 * k:Nat):Int)) (by omega) rfl (fun k t hk ht=>?_) (fun t ht=>?_)) fun t1 _=>?_
 ·obtain ⟨i,v⟩:=t
  dsimp only at ht
  subst ht
  have e1:w64 (((64 * k:Nat):Int)+64)=((64 * (k+1):Nat):Int):=by rw [w64_id (by omega) (by omega)]; omega
  unfold halberdref1_Sum.b0
  dsimp only
  rw [e1]
  simp only [Int.toNat_natCast]
  refine hit_if (by omega) (hit_if (by omega) (hit_if (by omega) (hit_if (by omega) (hit_if (by omega) (hit_bind (b256_ex _ _ ?_ ?_) fun w _=>hit_ltt fun i hi=>hit_some ⟨_,rfl,hi⟩)))))
  ·rw [sub_length (by omega)]; omega
  ·rw [sub_length (by omega)]; omega
 ·unfold halberdref1_Sum.b0
  exact hit_n (by omega) (hit_some ⟨_,rfl,trivial⟩)
 ·refine hit_bind (P:=fun d:Str=>d.length=32) (hit_loop 8 (fun k s=>s.2=(k:Int)∧s.1.length=4 * k) (by decide) ⟨rfl,rfl⟩ (fun k t hk ht=>?_) (fun t ht=>?_)) fun t2 ht2=>hit_some ht2
  ·obtain ⟨a,i⟩:=t
   obtain ⟨h1,h2⟩:=ht
   dsimp only at h1 h2
   subst h1
   have w5:w64 ((k:Int)+1)=((k+1:Nat):Int):=by rw [w64_id (by omega) (by omega)]; omega
   unfold halberdref1_Sum.b1
   dsimp only
   rw [w5]
   exact hit_if (by omega) (hit_if (by omega) (hit_bind (be_ex _ 4 (by decide) (by decide)) fun b hb=>hit_if (by omega) (hit_ltt fun j hj=>hit_some ⟨_,rfl,hj,by dsimp only; rw [List.length_append,h2,hb]; omega⟩)))
  ·obtain ⟨a,i⟩:=t
   obtain ⟨h1,h2⟩:=ht
   dsimp only at h1 h2
   unfold halberdref1_Sum.b1
   exact hit_n (by dsimp only; omega) (hit_some ⟨_,rfl,h2⟩)
end Go.Kx
end

section
namespace Go.Proofs
open Go Go.Kx
open TryI Try
def halberdlaw12_EcdsaSpoilt (x:Int) (y:Int) (text:Str) (at_:Int):Option (Bool) :=
 (halberdlaw12_awake).bind fun (r_1:Bool)=>(if (!r_1)=true then (some false) else ((halberdlaw12_scalar x).bind fun (r_2:Str)=>((halberdref9_Public r_2).bind fun (r_3:Str × Int)=>((halberdref1_Hash 256 text).bind fun (r_4:Str)=>((halberdlaw12_scalar x).bind fun (r_5:Str)=>((halberdlaw12_scalar y).bind fun (r_6:Str)=>((halberdref9_Sign r_5 r_6 r_4).bind fun (r_7:Str × Int)=>(if r_7.2 ≠ 0 then (some true) else (if (BitVec.ofInt 64 (w64 (8 * ((r_7.1).length:Int)))) ≠ 0#64 then (ltt (w64 (((BitVec.ofInt 64 at_) % (BitVec.ofInt 64 (w64 (8 * ((r_7.1).length:Int))))).toNat:Int)) fun (k_1:Int)=>(if 0≤w64 (k_1.tdiv 8)∧w64 (k_1.tdiv 8)<((r_7.1).length:Int) then (if 0≤k_1.tmod 8 then (if 0≤w64 (k_1.tdiv 8)∧w64 (k_1.tdiv 8)<((r_7.1).length:Int) then (ltt (r_7.1.set ((w64 (k_1.tdiv 8)).toNat) ((lg r_7.1 ((w64 (k_1.tdiv 8)).toNat)) ^^^ (1#8 <<< (k_1.tmod 8).toNat))) fun (m_1:List (BitVec 8))=>((ecdsa_Verify r_3.1 r_4 m_1).bind fun (r_8:Int)=>(if 0≤w64 (k_1.tdiv 8) then (if (w64 (k_1.tdiv 8)).toNat≤(r_7.1).length then ((ecdsa_Verify r_3.1 r_4 (sub r_7.1 0 ((w64 (k_1.tdiv 8)).toNat))).bind fun (r_9:Int)=>(if (r_7.1).length+(([0#8]:Str)).length≤4611686018427387904 then ((ecdsa_Verify r_3.1 r_4 (r_7.1++([0#8]:Str))).bind fun (r_10:Int)=>((halberdlaw0_Num r_8).bind fun (r_11:Int)=>((halberdref9_Verify r_3.1 r_4 m_1).bind fun (r_12:Int)=>(if r_11=r_12 then ((halberdlaw0_Num r_9).bind fun (r_13:Int)=>(if r_13=1200 then ((halberdlaw0_Num r_10).bind fun (r_14:Int)=>(ltt (decide (r_14=1200)) fun (x1:Bool)=>(some x1))) else (some false))) else (some false))))) else none)) else none) else none))) else none) else none) else none)) else none)))))))))
set_option maxHeartbeats 4000000 in
set_option maxRecDepth 20000 in
theorem F10_calls (x:Int) (y:Int) (text:Str) (at_:Int) (r:Bool) (H:halberdlaw12_EcdsaSpoilt x y text at_=some r) :
  Does Try.prog 10 [vi x,vi y,vs text,vi at_] [] [] (Γ:=Unit) (fun g=>vb r) (fun g=>[]):=by
 intro w hmem hro hd
 refine calls_of (N:=98) (m0:=[(0,vi x),(1,vi y),(2,vs text),(3,vi at_)]) func10 rfl ntmps10 (argM_ok [vi x,vi y,vs text,vi at_]) rfl hmem hro hd ?_
 unfold halberdlaw12_EcdsaSpoilt at H
 refine TC_seq (TC_region (TVa ?_))
 refine TL_nil (TX_next (TC_seq (TC_seq (TC_region ?_))))
 obtain ⟨r_1,hr_1,H⟩:=bind_elim H
 refine TLe (E_c0 (F29_calls r_1 hr_1) call29 .z) (fun g_1=>?_)
 refine TLv (V_un rfl (fun w=>notB w r_1)) ?_
 refine TL_nil (TX_next (TCb H (fun hc H=>?_) (fun hc H=>?_)))
 ·refine TC_seq (TC_region (TVa ?_))
  refine TL_nil (TX_next (TC_ret (TX_then_ret ?_)))
  obtain rfl:=sj H
  exact TX1
 ·refine TC_skip (TX_next (TC_seq (TC_region (TVm ?_))))
  obtain ⟨r_2,hr_2,H⟩:=bind_elim H
  refine TLe (E_c0 (F30_calls x r_2 hr_2) call30 .z) (fun g_2=>?_)
  obtain ⟨r_3,hr_3,H⟩:=bind_elim H
  refine TLe (E_c0 (F14_calls r_2 r_3 hr_3) call14 .z) (fun g_3=>?_)
  refine TVm ?_
  refine TLv V_ex ?_
  refine TLv V_ex ?_
  refine TVa ?_
  refine TVa ?_
  refine TL_nil (TX_next (TC_seq (TC_region (TVm ?_))))
  obtain ⟨r_4,hr_4,H⟩:=bind_elim H
  refine TLe (E_c0 (F31_calls 256 text r_4 hr_4) call31 .z) (fun g_4=>?_)
  refine TVa ?_
  refine TL_nil (TX_next (TC_seq (TC_region (TVm ?_))))
  obtain ⟨r_5,hr_5,H⟩:=bind_elim H
  refine TLe (E_c0 (F30_calls x r_5 hr_5) call30 .z) (fun g_5=>?_)
  refine TVm ?_
  obtain ⟨r_6,hr_6,H⟩:=bind_elim H
  refine TLe (E_c0 (F30_calls y r_6 hr_6) call30 .z) (fun g_6=>?_)
  refine TVm ?_
  obtain ⟨r_7,hr_7,H⟩:=bind_elim H
  refine TLe (E_c0 (F26_calls r_5 r_6 r_4 r_7 hr_7) call26 .z) (fun g_7=>?_)
  refine TVm ?_
  refine TLv V_ex ?_
  refine TLv V_ex ?_
  refine TVa ?_
  refine TVa ?_
  refine TL_nil (TX_next (TC_seq (TC_seq (TC_region (TVm ?_)))))
  refine TLv (V_bin rfl rfl (fun w=>neqI w r_7.2 0)) ?_
  refine TL_nil (TX_next (TC.sub (m':=[(3,_),(9,_),(11,_),(12,_),(39,_)]) ⟨rfl,rfl,rfl,rfl,rfl,trivial⟩ ?_))
  refine TC.pull (is:=[]) (L':=[]) rfl ?_
  refine TCd H (fun hc H=>?_) (fun hc H=>?_)
  ·refine TC_seq (TC_region (TVa ?_))
   refine TL_nil (TX_next (TC_ret (TX_then_ret ?_)))
   obtain rfl:=sj H
   exact TX1
  ·refine TC_skip (TX_next (TC_seq (TC_region (TVm ?_))))
   refine TLe (E_s2bR rfl underlying9 underlying42 underlying5) (fun g_8=>?_)
   refine TVa ?_
   refine TL_nil (TX_next (TC_seq (TC_region (TVm ?_))))
   refine TLv (V_conv rfl (fun w=>cvI64 w _ _ underlying44 (und3) .i64 at_)) ?_
   refine TVm ?_
   refine TLv (V_len_slice rfl underlying42) ?_
   refine TLv (V_bin rfl rfl (fun w=>mulI w 8 ((r_7.1).length:Int))) ?_
   refine TLv (V_conv rfl (fun w=>cvI64 w _ _ underlying44 (und3) .i64 (w64 (8 * ((r_7.1).length:Int))))) ?_
   obtain ⟨h1,H⟩:=if_elim H
   refine TLv (V_bin rfl rfl (fun w=>rem64 w (BitVec.ofInt 64 at_) (BitVec.ofInt 64 (w64 (8 * ((r_7.1).length:Int)))) h1)) ?_
   refine TLv (V_conv rfl (fun w=>cv64toI w _ _ underlying3 (und44) ((BitVec.ofInt 64 at_) % (BitVec.ofInt 64 (w64 (8 * ((r_7.1).length:Int))))))) ?_
   refine TVa ?_
   obtain ⟨k_1,hk_1,H⟩:=ltt_elim H
   refine TLr 15 (congrArg vi hk_1) ?_
   refine TL_nil (TX_next (TC_seq ?_))
   obtain ⟨h2,H⟩:=if_elim H
   obtain ⟨h3,H⟩:=if_elim H
   obtain ⟨h4,H⟩:=if_elim H
   obtain ⟨m_1,hm_1,H⟩:=ltt_elim H
   refine TA_begin [] 14 (by kernel_rfl) (N:=14) rfl ?_
   refine TA_mix (is:=[]) (done':=dn 14 8191) [itV 0 50 (sl (some (g_8.1,0)) ((r_7.1).length) ((r_7.1++g_8.2).length)) [],itV 1 51 (vi k_1) [],itV 2 52 (vi (w64 (k_1.tdiv 8))) [1],itV 3 53 (sl (some (g_8.1,0)) ((r_7.1).length) ((r_7.1++g_8.2).length)) [],itV 4 54 (vi k_1) [],itV 5 55 (vi (w64 (k_1.tdiv 8))) [4],itV 6 56 (ptr (some (g_8.1,0)) ((w64 (k_1.tdiv 8)).toNat)) [3,5],itV 7 57 (v8 (lg r_7.1 ((w64 (k_1.tdiv 8)).toNat))) [6],itV 8 58 (vi k_1) [],itV 9 59 (vi (k_1.tmod 8)) [8],itV 10 60 (v8 (1#8 <<< (k_1.tmod 8).toNat)) [9],itV 11 61 (v8 ((lg r_7.1 ((w64 (k_1.tdiv 8)).toNat)) ^^^ (1#8 <<< (k_1.tmod 8).toNat))) [7,10],itV 12 62 (ptr (some (g_8.1,0)) ((w64 (k_1.tdiv 8)).toNat)) [0,2]] [] 1 (by kernel_rfl) (QP.then QP.body) (by kernel_rfl) rfl (.v rfl (V_move rfl) (.v rfl (V_move rfl) (.v rfl (V_bin rfl rfl (fun w=>quoI w k_1 8 (by decide))) (.v rfl (V_move rfl) (.v rfl (V_move rfl) (.v rfl (V_bin rfl rfl (fun w=>quoI w k_1 8 (by decide))) (.v rfl (V_idxSl (i:=w64 (k_1.tdiv 8)) rfl rfl underlying42 inf5 rfl (fun _ h=>by cases h) h2.1 h2.2 (k:=(w64 (k_1.tdiv 8)).toNat) (km1 _)) (.v rfl (V_load rfl (.o 0) (get_row (f:=v8) (l:=r_7.1) (sp:=g_8.2) (toNat_lt h2.1 h2.2)) isAgg5) (.v rfl (V_move rfl) (.v rfl (V_bin rfl rfl (fun w=>remI w k_1 8 (by decide))) (.v rfl (V_bin rfl rfl (fun w=>shl8 w 1#8 .i64 (k_1.tmod 8) h3)) (.v rfl (V_bin rfl rfl (fun w=>xor8 w (lg r_7.1 ((w64 (k_1.tdiv 8)).toNat)) (1#8 <<< (k_1.tmod 8).toNat))) (.v rfl (V_idxSl (i:=w64 (k_1.tdiv 8)) rfl rfl underlying42 inf5 rfl (fun _ h=>by cases h) h4.1 h4.2 (k:=(w64 (k_1.tdiv 8)).toNat) (km1 _)) .nil))))))))))))) .nil (by kernel_rfl) rfl (fun γ=>?_)
   refine TA_cut [(62,ptr (some (g_8.1,0)) ((w64 (k_1.tdiv 8)).toNat)),(61,v8 ((lg r_7.1 ((w64 (k_1.tdiv 8)).toNat)) ^^^ (1#8 <<< (k_1.tmod 8).toNat))),(15,vi k_1),(14,sl (some (g_8.1,0)) ((r_7.1).length) ((r_7.1++g_8.2).length)),(9,vs r_3.1),(11,vs r_4),(12,vs r_7.1)] [⟨some (g_8.1,0),e8 (r_7.1++g_8.2)⟩] ⟨rfl,rfl,rfl,rfl,rfl,rfl,rfl,trivial⟩ rfl ?_
   refine TA_all (rs:=[13]) (by kernel_rfl) rfl ?_
   refine ⟨?_,trivial⟩
   refine TO_n (is:=[]) (done':=dn 14 16383) rfl rfl rfl (by kernel_rfl) (E_store (j:=0) rfl rfl inf5 rfl rfl rfl (by rw [List.length_map]; exact lt_app (toNat_lt h4.1 h4.2)) (cs':=e8 ((r_7.1.set ((w64 (k_1.tdiv 8)).toNat) ((lg r_7.1 ((w64 (k_1.tdiv 8)).toNat)) ^^^ (1#8 <<< (k_1.tmod 8).toNat)))++g_8.2)) (set_row (toNat_lt h4.1 h4.2))) (fun _ _=>rfl) (fun _=>?_)
   refine TA_reE (j:=0) (A:=some (g_8.1,0)) (cs:=e8 ((r_7.1.set ((w64 (k_1.tdiv 8)).toNat) ((lg r_7.1 ((w64 (k_1.tdiv 8)).toNat)) ^^^ (1#8 <<< (k_1.tmod 8).toNat)))++g_8.2)) (cs':=e8 (m_1++g_8.2)) rfl (congrArg (fun z=>e8 (z++g_8.2)) hm_1) ?_
   refine TA_re (d:=14) (v:=sl (some (g_8.1,0)) ((r_7.1).length) ((r_7.1++g_8.2).length)) (v':=sl (some (g_8.1,0)) ((m_1).length) ((m_1++g_8.2).length)) rfl (row_set hm_1) ?_
   refine TA_done (by kernel_rfl) ?_ 0
   refine TX_next (TC_seq (TC_region (TVm ?_)))
   refine TVm ?_
   refine TVm ?_
   refine TLv (V_b2s rfl underlying42 underlying5 underlying9 (srcRow (.o 0)) rfl) ?_
   obtain ⟨r_8,hr_8,H⟩:=bind_elim H
   refine TLe (E_c0 (F27_calls r_3.1 r_4 m_1 r_8 hr_8) call27 .z) (fun g_9=>?_)
   refine TVa ?_
   refine TL_nil (TX_next (TC_seq (TC_region (TVm ?_))))
   refine TVm ?_
   refine TVm ?_
   refine TVm ?_
   refine TLv (V_bin rfl rfl (fun w=>quoI w k_1 8 (by decide))) ?_
   obtain ⟨h5,H⟩:=if_elim H
   obtain ⟨h6,H⟩:=if_elim H
   refine TLv (V_sliceStr (l:=0) (h:=(w64 (k_1.tdiv 8)).toNat) rfl underlying9 Bnd.none' (Bnd.some' (i:=w64 (k_1.tdiv 8)) rfl h5) (Nat.zero_le _) h6) ?_
   obtain ⟨r_9,hr_9,H⟩:=bind_elim H
   refine TLe (E_c0 (F27_calls r_3.1 r_4 (sub r_7.1 0 ((w64 (k_1.tdiv 8)).toNat)) r_9 hr_9) call27 .z) (fun g_10=>?_)
   refine TVa ?_
   refine TL_nil (TX_next (TC_seq (TC_region (TVm ?_))))
   refine TVm ?_
   refine TVm ?_
   obtain ⟨h7,H⟩:=if_elim H
   refine TLv (V_bin rfl rfl (fun w=>addS w r_7.1 ([0#8]:Str) h7)) ?_
   obtain ⟨r_10,hr_10,H⟩:=bind_elim H
   refine TLe (E_c0 (F27_calls r_3.1 r_4 (r_7.1++([0#8]:Str)) r_10 hr_10) call27 .z) (fun g_11=>?_)
   refine TVa ?_
   refine TL_nil (TX_next (TC_seq ?_))
   obtain ⟨r_11,hr_11,H⟩:=bind_elim H
   obtain ⟨r_12,hr_12,H⟩:=bind_elim H
   refine TC_em (decide (r_11=r_12)) (fun hg14_9=>?_) (fun hg14_9=>?_)
   ·replace H:=ite_t (of_decide_eq_true hg14_9) H
    obtain ⟨r_13,hr_13,H⟩:=bind_elim H
    refine TC_em (decide (r_13=1200)) (fun hg14_14=>?_) (fun hg14_14=>?_)
    ·replace H:=ite_t (of_decide_eq_true hg14_14) H
     obtain ⟨r_14,hr_14,H⟩:=bind_elim H
     obtain ⟨x1,hx1,H⟩:=ltt_elim H
     refine TA_begin [⟨some (g_8.1,0),e8 (m_1++g_8.2)⟩] 19 (by kernel_rfl) (N:=19) rfl ?_
     refine TA_tk 0 [0] (dn 19 1) rfl rfl (V_move rfl) ?_
     refine TA_tk 2 [0] (dn 19 5) rfl rfl (V_move rfl) ?_
     refine TA_tk 3 [0] (dn 19 13) rfl rfl (V_move rfl) ?_
     refine TA_tk 4 [0] (dn 19 29) rfl rfl (V_move rfl) ?_
     refine TA_tk 5 [0] (dn 19 61) rfl rfl (V_b2s rfl underlying42 underlying5 underlying9 (srcRow (.o 0)) rfl) ?_
     refine TA_all (rs:=[1]) (by kernel_rfl) rfl ?_
     refine ⟨?_,trivial⟩
     refine TO_e (is:=[0]) (done':=dn 19 63) rfl rfl rfl rfl (by kernel_rfl) (E_c0 (F20_calls r_8 r_11 hr_11) call20 .z) (fun _ _=>rfl) (fun g_12=>?_)
     refine TA_all (rs:=[6]) (by kernel_rfl) rfl ?_
     refine ⟨?_,trivial⟩
     refine TO_e (is:=[0]) (done':=dn 19 127) rfl rfl rfl rfl (by kernel_rfl) (E_c0 (F28_calls r_3.1 r_4 m_1 r_12 hr_12) call28 .z) (fun _ _=>rfl) (fun g_13=>?_)
     refine TA_tk 7 [0] (dn 19 255) rfl rfl (V_bin rfl rfl (fun w=>eqlI w r_11 r_12)) ?_
     refine TA_tk 8 [0] (dn 19 511) rfl rfl (V_move rfl) ?_
     refine TA_re (d:=88) (v:=vb (decide (r_11=r_12))) (v':=vb true) rfl (congrArg vb hg14_9) ?_
     refine TA_tw 9 [0] (dn 19 1023) rfl rfl (V_move rfl) ?_
     refine TA_all (rs:=[10]) (by kernel_rfl) rfl ?_
     refine ⟨?_,trivial⟩
     refine TO_eW (is:=[0]) (done':=dn 19 2047) rfl rfl rfl rfl rfl rfl rfl (by kernel_rfl) (E_c0 (F20_calls r_9 r_13 hr_13) call20 .z) (fun _ _=>rfl) (fun g_14=>?_)
     refine TA_tw 11 [0] (dn 19 4095) rfl rfl (V_bin rfl rfl (fun w=>eqlI w r_13 1200)) ?_
     refine TA_tk 12 [0] (dn 19 8191) rfl rfl (V_pick (b:=true) rfl rfl) ?_
     refine TA_tk 13 [0] (dn 19 16383) rfl rfl (V_move rfl) ?_
     refine TA_re (d:=93) (v:=vb (decide (r_13=1200))) (v':=vb true) rfl (congrArg vb hg14_14) ?_
     refine TA_tw 14 [0] (dn 19 32767) rfl rfl (V_move rfl) ?_
     refine TA_all (rs:=[15]) (by kernel_rfl) rfl ?_
     refine ⟨?_,trivial⟩
     refine TO_eW (is:=[0]) (done':=dn 19 65535) rfl rfl rfl rfl rfl rfl rfl (by kernel_rfl) (E_c0 (F20_calls r_10 r_14 hr_14) call20 .z) (fun _ _=>rfl) (fun g_15=>?_)
     refine TA_tw 16 [0] (dn 19 131071) rfl rfl (V_bin rfl rfl (fun w=>eqlI w r_14 1200)) ?_
     refine TA_tk 17 [0] (dn 19 262143) rfl rfl (V_pick (b:=true) rfl rfl) ?_
     refine TA_tk 18 [0] (dn 19 524287) rfl rfl (V_assign rfl) ?_
     refine TA_re (d:=8) (v:=vb (decide (r_14=1200))) (v':=vb x1) rfl (congrArg vb hx1) ?_
     refine TA_done (by kernel_rfl) ?_ 0
     refine TX_next (TC.sub (m':=[(8,_)]) ⟨rfl,trivial⟩ ?_)
     refine TC.pull (is:=[]) (L':=[]) rfl ?_
     refine TC_ret ?_
     obtain rfl:=sj H
     exact TX1
    ·replace H:=ite_f (of_decide_eq_false hg14_14) H
     refine TA_begin [⟨some (g_8.1,0),e8 (m_1++g_8.2)⟩] 19 (by kernel_rfl) (N:=19) rfl ?_
     refine TA_tk 0 [0] (dn 19 1) rfl rfl (V_move rfl) ?_
     refine TA_tk 2 [0] (dn 19 5) rfl rfl (V_move rfl) ?_
     refine TA_tk 3 [0] (dn 19 13) rfl rfl (V_move rfl) ?_
     refine TA_tk 4 [0] (dn 19 29) rfl rfl (V_move rfl) ?_
     refine TA_tk 5 [0] (dn 19 61) rfl rfl (V_b2s rfl underlying42 underlying5 underlying9 (srcRow (.o 0)) rfl) ?_
     refine TA_all (rs:=[1]) (by kernel_rfl) rfl ?_
     refine ⟨?_,trivial⟩
     refine TO_e (is:=[0]) (done':=dn 19 63) rfl rfl rfl rfl (by kernel_rfl) (E_c0 (F20_calls r_8 r_11 hr_11) call20 .z) (fun _ _=>rfl) (fun g_12=>?_)
     refine TA_all (rs:=[6]) (by kernel_rfl) rfl ?_
     refine ⟨?_,trivial⟩
     refine TO_e (is:=[0]) (done':=dn 19 127) rfl rfl rfl rfl (by kernel_rfl) (E_c0 (F28_calls r_3.1 r_4 m_1 r_12 hr_12) call28 .z) (fun _ _=>rfl) (fun g_13=>?_)
     refine TA_tk 7 [0] (dn 19 255) rfl rfl (V_bin rfl rfl (fun w=>eqlI w r_11 r_12)) ?_
     refine TA_tk 8 [0] (dn 19 511) rfl rfl (V_move rfl) ?_
     refine TA_re (d:=88) (v:=vb (decide (r_11=r_12))) (v':=vb true) rfl (congrArg vb hg14_9) ?_
     refine TA_tw 9 [0] (dn 19 1023) rfl rfl (V_move rfl) ?_
     refine TA_all (rs:=[10]) (by kernel_rfl) rfl ?_
     refine ⟨?_,trivial⟩
     refine TO_eW (is:=[0]) (done':=dn 19 2047) rfl rfl rfl rfl rfl rfl rfl (by kernel_rfl) (E_c0 (F20_calls r_9 r_13 hr_13) call20 .z) (fun _ _=>rfl) (fun g_14=>?_)
     refine TA_tw 11 [0] (dn 19 4095) rfl rfl (V_bin rfl rfl (fun w=>eqlI w r_13 1200)) ?_
     refine TA_tk 12 [0] (dn 19 8191) rfl rfl (V_pick (b:=true) rfl rfl) ?_
     refine TA_tk 13 [0] (dn 19 16383) rfl rfl (V_move rfl) ?_
     refine TA_re (d:=93) (v:=vb (decide (r_13=1200))) (v':=vb false) rfl (congrArg vb hg14_14) ?_
     refine TA_ts 14 [0] (dn 19 32767) rfl rfl ?_
     refine TA_ts 15 [0] (dn 19 65535) rfl rfl ?_
     refine TA_ts 16 [0] (dn 19 131071) rfl rfl ?_
     refine TA_tk 17 [0] (dn 19 262143) rfl rfl (V_pick (b:=false) rfl rfl) ?_
     refine TA_tk 18 [0] (dn 19 524287) rfl rfl (V_assign rfl) ?_
     refine TA_done (by kernel_rfl) ?_ 0
     refine TX_next (TC.sub (m':=[(8,_)]) ⟨rfl,trivial⟩ ?_)
     refine TC.pull (is:=[]) (L':=[]) rfl ?_
     refine TC_ret ?_
     obtain rfl:=sj H
     exact TX1
   ·replace H:=ite_f (of_decide_eq_false hg14_9) H
    refine TA_begin [⟨some (g_8.1,0),e8 (m_1++g_8.2)⟩] 19 (by kernel_rfl) (N:=19) rfl ?_
    refine TA_tk 0 [0] (dn 19 1) rfl rfl (V_move rfl) ?_
    refine TA_tk 2 [0] (dn 19 5) rfl rfl (V_move rfl) ?_
    refine TA_tk 3 [0] (dn 19 13) rfl rfl (V_move rfl) ?_
    refine TA_tk 4 [0] (dn 19 29) rfl rfl (V_move rfl) ?_
    refine TA_tk 5 [0] (dn 19 61) rfl rfl (V_b2s rfl underlying42 underlying5 underlying9 (srcRow (.o 0)) rfl) ?_
    refine TA_all (rs:=[1]) (by kernel_rfl) rfl ?_
    refine ⟨?_,trivial⟩
    refine TO_e (is:=[0]) (done':=dn 19 63) rfl rfl rfl rfl (by kernel_rfl) (E_c0 (F20_calls r_8 r_11 hr_11) call20 .z) (fun _ _=>rfl) (fun g_12=>?_)
    refine TA_all (rs:=[6]) (by kernel_rfl) rfl ?_
    refine ⟨?_,trivial⟩
    refine TO_e (is:=[0]) (done':=dn 19 127) rfl rfl rfl rfl (by kernel_rfl) (E_c0 (F28_calls r_3.1 r_4 m_1 r_12 hr_12) call28 .z) (fun _ _=>rfl) (fun g_13=>?_)
    refine TA_tk 7 [0] (dn 19 255) rfl rfl (V_bin rfl rfl (fun w=>eqlI w r_11 r_12)) ?_
    refine TA_tk 8 [0] (dn 19 511) rfl rfl (V_move rfl) ?_
    refine TA_re (d:=88) (v:=vb (decide (r_11=r_12))) (v':=vb false) rfl (congrArg vb hg14_9) ?_
    refine TA_ts 9 [0] (dn 19 1023) rfl rfl ?_
    refine TA_ts 10 [0] (dn 19 2047) rfl rfl ?_
    refine TA_ts 11 [0] (dn 19 4095) rfl rfl ?_
    refine TA_tk 12 [0] (dn 19 8191) rfl rfl (V_pick (b:=false) rfl rfl) ?_
    refine TA_tk 13 [0] (dn 19 16383) rfl rfl (V_move rfl) ?_
    refine TA_ts 14 [0] (dn 19 32767) rfl rfl ?_
    refine TA_ts 15 [0] (dn 19 65535) rfl rfl ?_
    refine TA_ts 16 [0] (dn 19 131071) rfl rfl ?_
    refine TA_tk 17 [0] (dn 19 262143) rfl rfl (V_pick (b:=false) rfl rfl) ?_
    refine TA_tk 18 [0] (dn 19 524287) rfl rfl (V_assign rfl) ?_
    refine TA_done (by kernel_rfl) ?_ 0
    refine TX_next (TC.sub (m':=[(8,_)]) ⟨rfl,trivial⟩ ?_)
    refine TC.pull (is:=[]) (L':=[]) rfl ?_
    refine TC_ret ?_
    obtain rfl:=sj H
    exact TX1
end Go.Proofs
end

section
namespace Go.Kx
open Go Go.Proofs
open Go.Nt hiding n4
theorem isSg_len {s:Str} {r z:Nat} (h:isSg s r z):((sg s 1).toNat:Int)=(s.length:Int) - 2:=by
 have:=(SG_parts r z).2.2.1
 rwa [← h.2.2.2.2] at this
theorem cut_not (s:Str) {r z:Nat} (h:isSg s r z) {k:Nat} (hk:k<s.length) : ¬ ∃ r' z',isSg (sub s 0 k) r' z':=by
 rintro ⟨r',z',h'⟩
 have h1:=isSg_len h
 have h2:=isSg_len h'
 have hl:(sub s 0 k).length=k:=by rw [sub_length (by omega)]; omega
 have h3:=(SG_parts r' z').1
 rw [← h'.2.2.2.2,hl] at h3
 have e:sg (sub s 0 k) 1=sg s 1:=by
  unfold sg sub
  show (List.take (k - 0) (List.drop 0 s)).getD 1 0#8=s.getD 1 0#8
  rw [List.drop_zero,Nat.sub_zero,List.getD_eq_getElem?_getD,List.getD_eq_getElem?_getD,List.getElem?_take,if_pos (by omega)]
 rw [e,h1,hl] at h2
 omega
theorem ext_not (s:Str) {r z:Nat} (h:isSg s r z) : ¬ ∃ r' z',isSg (s++[0#8]) r' z':=by
 rintro ⟨r',z',h'⟩
 have h1:=isSg_len h
 have h2:=isSg_len h'
 have h3:=(SG_parts r z).1
 rw [← h.2.2.2.2] at h3
 have e:sg (s++[0#8]) 1=sg s 1:=by
  unfold sg
  show (s++[0#8]).getD 1 0#8=s.getD 1 0#8
  rw [List.getD_eq_getElem?_getD,List.getD_eq_getElem?_getD,List.getElem?_append_left (by omega)]
 rw [e,h1,List.length_append] at h2
 simp at h2
 omega
theorem EcdsaSpoilt_true (x y:Int) (text:Str) (at_:Int) (ht:text.length≤140737488351232):halberdlaw12_EcdsaSpoilt x y text at_=some true:=by
 obtain ⟨d,h1,e1⟩:=hash_ex text (by omega)
 obtain ⟨q,hq,hp⟩:=pub_of x
 have hs:=rSign_sc x y d e1
 unfold halberdlaw12_EcdsaSpoilt
 refine bind_i awake12 (if_n (by decide) (bind_i (scalar_eq x) (bind_i hp (bind_i h1 (bind_i (scalar_eq x) (bind_i (scalar_eq y) (bind_i hs ?_)))))))
 rcases sg_cases (sc12 x) (sc12 y) (bnum d) with h | ⟨hr,hz,h⟩
 ·rw [h]
  exact if_i (by decide) rfl
 have hg:=sig_is hr hz
 have hp:=SG_parts (sigR (sc12 y)) (sigS (sc12 x) (sc12 y) (bnum d))
 have hl:=SG_len (sigR (sc12 y)) (sigS (sc12 x) (sc12 y) (bnum d))
 rw [List.length_append] at hl
 rw [h]
 dsimp only
 generalize SG (sigR (sc12 y)) (sigS (sc12 x) (sc12 y) (bnum d))=s at *
 have hn:s.length≤100:=by omega
 have w1:w64 (8 * (s.length:Int))=((8 * s.length:Nat):Int):=by rw [w64_id (by omega) (by omega)]; omega
 have wn:(BitVec.ofInt 64 ((8 * s.length:Nat):Int)).toNat=8 * s.length:=by
  rw [BitVec.ofInt_natCast,BitVec.toNat_ofNat,Nat.mod_eq_of_lt (by omega)]
 refine if_n (fun c=>c rfl) ?_
 rw [w1]
 refine if_i (fun c=>by rw [c] at wn; simp at wn; omega) (ltt_i fun k hk=>?_)
 have hk2:k=(((BitVec.ofInt 64 at_).toNat % (8 * s.length):Nat):Int):=by
  rw [hk,BitVec.toNat_umod,wn,w64_id (by omega) (by have:=Nat.mod_lt (BitVec.ofInt 64 at_).toNat (show 8 * s.length > 0 by omega); omega)]
 have hlt:=Nat.mod_lt (BitVec.ofInt 64 at_).toNat (show 8 * s.length > 0 by omega)
 generalize (BitVec.ofInt 64 at_).toNat % (8 * s.length)=n at hk2 hlt
 clear hk
 subst hk2
 have e8:w64 ((n:Int).tdiv 8)=((n / 8:Nat):Int):=by
  rw [Int.tdiv_eq_ediv_of_nonneg (by omega),w64_id (by omega) (by omega)]; omega
 have em:(n:Int).tmod 8=((n % 8:Nat):Int):=by rw [Int.tmod_eq_emod_of_nonneg (by omega)]; omega
 rw [e8,em]
 refine if_i (by omega) (if_i (by omega) (if_i (by omega) (ltt_i fun m hm=>?_)))
 have hml:m.length=s.length:=by rw [hm,List.length_set]
 obtain ⟨e,h3,h4⟩:=Verify_eq (encQ q) d m (by omega)
 have v2:ecdsa_Verify (encQ q) d (sub s 0 (n / 8))=some 1200:=Verify_no _ _ _ (by rw [sub_length (by omega)]; omega) (fun c=>cut_not s hg (by omega) c.1)
 have v3:ecdsa_Verify (encQ q) d (s++[0#8])=some 1200:=Verify_no _ _ _ (by rw [List.length_append]; simp; omega) (fun c=>ext_not s hg c.1)
 refine bind_i h3 (if_i (by omega) (if_i (by rw [Int.toNat_natCast]; omega) (bind_i v2 (if_i (by simp; omega) (bind_i v3 (bind_i (num12 _) (bind_i h4 (if_i rfl (bind_i (num12 _) (if_i rfl (bind_i (num12 _) rfl)))))))))))
end Go.Kx
end

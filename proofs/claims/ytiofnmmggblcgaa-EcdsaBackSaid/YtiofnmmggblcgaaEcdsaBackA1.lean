/-
  Part 1 of the proof of EcdsaBack.
-/
import Derived.Test.YtiofnmmggblcgaaEsC1
import Derived.Test.YtiofnmmggblcgaaEsC2
import Derived.Test.YtiofnmmggblcgaaEsC3
import Derived.Test.YtiofnmmggblcgaaEsC4
import Derived.Test.YtiofnmmggblcgaaEsC5
import Derived.Test.YtiofnmmggblcgaaEsC6
import Derived.Test.YtiofnmmggblcgaaEsC7
import Derived.Test.YtiofnmmggblcgaaEsC8
import Derived.Test.YtiofnmmggblcgaaEsC9
import Derived.Test.YtiofnmmggblcgaaEsC10
import Derived.Test.YtiofnmmggblcgaaEsC11
import Derived.Test.YtiofnmmggblcgaaEsC12
import Derived.Test.YtiofnmmggblcgaaEsC13
import Derived.Test.YtiofnmmggblcgaaEsC14
import Derived.Test.YtiofnmmggblcgaaEsC15
import Derived.Test.YtiofnmmggblcgaaEsC16
import Derived.Test.YtiofnmmggblcgaaEsC17
import Derived.Test.YtiofnmmggblcgaaEsC18
import Derived.Test.YtiofnmmggblcgaaEsC19
import Derived.Test.YtiofnmmggblcgaaEsC20
import Derived.Test.YtiofnmmggblcgaaEsC21
import Derived.Test.YtiofnmmggblcgaaEsC22
import Derived.Test.YtiofnmmggblcgaaEsC23
import Derived.Test.YtiofnmmggblcgaaEsC24
import Derived.Test.YtiofnmmggblcgaaEsC25
import Derived.Test.YtiofnmmggblcgaaEsC26
import Derived.Test.YtiofnmmggblcgaaEsC27
import Derived.Test.YtiofnmmggblcgaaEsC28
import Derived.Test.YtiofnmmggblcgaaEsC29
import Derived.Test.YtiofnmmggblcgaaEsC30
import Derived.Test.YtiofnmmggblcgaaEsC31
import Derived.Test.YtiofnmmggblcgaaEsC32
set_option linter.unusedVariables false
set_option linter.unusedSimpArgs false
section
namespace Go.Kx
open Go Go.Proofs
def hit {α:Type} (Q:α → Prop) (o:Option α):Prop := ∃ v,o=some v∧Q v
theorem hit_some {α:Type} {Q:α → Prop} {v:α} (h:Q v):hit Q (some v):=⟨v,rfl,h⟩
theorem hit_if {α:Type} {Q:α → Prop} {c:Prop} [Decidable c] {a b:Option α} (hc:c) (h:hit Q a):hit Q (if c then a else b):=by rwa [if_pos hc]
theorem hit_n {α:Type} {Q:α → Prop} {c:Prop} [Decidable c] {a b:Option α} (hc : ¬ c) (h:hit Q b):hit Q (if c then a else b):=by rwa [if_neg hc]
theorem hit_ltt {α β:Type} {Q:β → Prop} {a:α} {f:α → Option β} (h : ∀ x,x=a → hit Q (f x)):hit Q (ltt a f):=h a rfl
theorem hit_bind {α β:Type} {P:α → Prop} {Q:β → Prop} {o:Option α} {f:α → Option β} (h:hit P o) (k : ∀ x,P x → hit Q (f x)):hit Q (o.bind f):=by
 obtain ⟨v,rfl,hv⟩:=h
 exact k v hv
theorem hit_loop {S τ:Type} {body:S → Option (S ⊕ τ)} {P:τ → Prop} (n:Nat) (I:Nat → S → Prop) {s0:S} (hn:n<1152921504606846976) (h0:I 0 s0)
  (hstep : ∀ k s,k<n → I k s → hit (fun r => ∃ s',r = .inl s'∧I (k+1) s') (body s)) (hend : ∀ s,I n s → hit (fun r => ∃ t,r = .inr t∧P t) (body s)):hit P (loop body BIG s0) :=
 loop_inv n I P hn h0 (fun k s hk hI=>by
  obtain ⟨v,h1,s',rfl,h2⟩:=hstep k s hk hI
  exact ⟨s',h1,h2⟩) (fun s hI=>by
  obtain ⟨v,h1,t,rfl,h2⟩:=hend s hI
  exact ⟨t,h1,h2⟩)
abbrev tot {α:Type} (o:Option α):Prop:=hit (fun _=>True) o
theorem rot_ex (x:BitVec 32) (k:Int) (h:0≤k∧k≤32):tot (halberdref1_rot x k):=by
 unfold halberdref1_rot
 exact hit_if h.1 (hit_if (by rw [w64_id (by omega) (by omega)]; omega) (hit_ltt fun _ _=>hit_some trivial))
theorem b256_ex (h:Vx 32 8) (b:Str) (hb:64≤b.length) (hb2:b.length<1152921504606846976):tot (halberdref1_block256 h b):=by
 unfold halberdref1_block256
 refine hit_ltt fun m _=>hit_bind (P:=fun _=>True) (hit_loop 16 (fun i s=>s.1=(i:Int)) (by decide) rfl (fun i s hi hs=>?_) (fun s hs=>?_)) fun t1 _=>?_
 ·obtain ⟨i',v⟩:=s
  dsimp only at hs
  subst hs
  have w1:w64 (4 * (i:Int))=4 * (i:Int):=w64_id (by omega) (by omega)
  have w2:w64 (4 * (i:Int)+1)=4 * (i:Int)+1:=w64_id (by omega) (by omega)
  have w3:w64 (4 * (i:Int)+2)=4 * (i:Int)+2:=w64_id (by omega) (by omega)
  have w4:w64 (4 * (i:Int)+3)=4 * (i:Int)+3:=w64_id (by omega) (by omega)
  have w5:w64 ((i:Int)+1)=((i+1:Nat):Int):=by rw [w64_id (by omega) (by omega)]; omega
  unfold halberdref1_block256.b0
  dsimp only
  rw [w1,w2,w3,w4,w5]
  exact hit_if (by omega) (hit_if (by omega) (hit_if (by omega) (hit_if (by omega) (hit_if (by omega) (hit_if (by omega) (hit_ltt fun _ _=>hit_ltt fun j hj=>hit_some ⟨_,rfl,hj⟩))))))
 ·unfold halberdref1_block256.b0
  exact hit_n (by omega) (hit_some ⟨_,rfl,trivial⟩)
 refine hit_bind (P:=fun _=>True) (hit_loop 48 (fun i s=>s.1=((16+i:Nat):Int)) (by decide) rfl (fun i s hi hs=>?_) (fun s hs=>?_)) fun t2 _=>?_
 ·obtain ⟨i',v⟩:=s
  dsimp only at hs
  subst hs
  have w1:w64 (((16+i:Nat):Int) - 15)=((16+i:Nat):Int) - 15:=w64_id (by omega) (by omega)
  have w2:w64 (((16+i:Nat):Int) - 2)=((16+i:Nat):Int) - 2:=w64_id (by omega) (by omega)
  have w3:w64 (((16+i:Nat):Int) - 16)=((16+i:Nat):Int) - 16:=w64_id (by omega) (by omega)
  have w4:w64 (((16+i:Nat):Int) - 7)=((16+i:Nat):Int) - 7:=w64_id (by omega) (by omega)
  have w5:w64 (((16+i:Nat):Int)+1)=((16+(i+1):Nat):Int):=by rw [w64_id (by omega) (by omega)]; omega
  unfold halberdref1_block256.b1
  dsimp only
  rw [w1,w2,w3,w4,w5]
  refine hit_if (by omega) (hit_if (by omega) (hit_bind (rot_ex _ _ (by decide)) fun _ _=>hit_if (by omega) (hit_bind (rot_ex _ _ (by decide)) fun _ _=>hit_if (by omega) (hit_ltt fun _ _=>hit_if (by omega) (hit_bind (rot_ex _ _ (by decide)) fun _ _=>hit_if (by omega) (hit_bind (rot_ex _ _ (by decide)) fun _ _=>hit_if (by omega) (hit_ltt fun _ _=>?_)))))))
  exact hit_if (by omega) (hit_if (by omega) (hit_if (by omega) (hit_ltt fun _ _=>hit_ltt fun j hj=>hit_some ⟨_,rfl,hj⟩)))
 ·unfold halberdref1_block256.b1
  exact hit_n (by omega) (hit_some ⟨_,rfl,trivial⟩)
 refine hit_bind (P:=fun _=>True) (hit_loop 64 (fun i s=>s.1=(i:Int)) (by decide) rfl (fun i s hi hs=>?_) (fun s hs=>?_)) fun t3 _=>?_
 ·obtain ⟨i',v⟩:=s
  dsimp only at hs
  subst hs
  have w5:w64 ((i:Int)+1)=((i+1:Nat):Int):=by rw [w64_id (by omega) (by omega)]; omega
  unfold halberdref1_block256.b2
  dsimp only
  rw [w5]
  refine hit_if (by omega) (hit_bind (rot_ex _ _ (by decide)) fun _ _=>hit_bind (rot_ex _ _ (by decide)) fun _ _=>hit_bind (rot_ex _ _ (by decide)) fun _ _=>hit_ltt fun _ _=>hit_if (by omega) (hit_if (by omega) (hit_ltt fun _ _=>?_)))
  exact hit_bind (rot_ex _ _ (by decide)) fun _ _=>hit_bind (rot_ex _ _ (by decide)) fun _ _=>hit_bind (rot_ex _ _ (by decide)) fun _ _=>hit_ltt fun _ _=>hit_ltt fun _ _=>hit_ltt fun _ _=>hit_ltt fun j hj=>hit_some ⟨_,rfl,hj⟩
 ·unfold halberdref1_block256.b2
  exact hit_n (by omega) (hit_some ⟨_,rfl,trivial⟩)
 refine hit_bind (P:=fun _=>True) (hit_loop 8 (fun i s=>s.1=(i:Int)) (by decide) rfl (fun i s hi hs=>?_) (fun s hs=>?_)) fun t4 _=>hit_some trivial
 ·obtain ⟨i',v⟩:=s
  dsimp only at hs
  subst hs
  have w5:w64 ((i:Int)+1)=((i+1:Nat):Int):=by rw [w64_id (by omega) (by omega)]; omega
  unfold halberdref1_block256.b3
  dsimp only
  rw [w5]
  exact hit_if (by omega) (hit_if (by omega) (hit_if (by omega) (hit_if (by omega) (hit_ltt fun _ _=>hit_ltt fun j hj=>hit_some ⟨_,rfl,hj⟩))))
 ·unfold halberdref1_block256.b3
  exact hit_n (by omega) (hit_some ⟨_,rfl,trivial⟩)
theorem be_ex (x:Int) (n:Nat) (hn:n≤8) (h1:1≤n):hit (fun s:Str=>s.length=n) (halberdref1_Be x (n:Int)):=by
 unfold halberdref1_Be
 refine hit_if (by omega) (hit_ltt fun i hi=>?_)
 rw [w64_id (by omega) (by omega)] at hi
 refine hit_bind (P:=fun s:List (BitVec 8)=>s.length=n) (hit_loop n (fun k s=>s.2.1=(n:Int) - 1 - (k:Int)∧s.2.2.length=n) (by omega) ⟨by dsimp only; omega,by simp⟩ (fun k s hk hs=>?_) (fun s hs=>?_)) fun t ht=>hit_if (by omega) (hit_some ht)
 ·obtain ⟨a,j,v⟩:=s
  obtain ⟨h1,h2⟩:=hs
  dsimp only at h1 h2
  unfold halberdref1_Be.b0
  dsimp only
  refine hit_if (by omega) (hit_if (by omega) (hit_if (by omega) (hit_ltt fun m hm=>hit_ltt fun j' hj=>hit_some ⟨_,rfl,?_,by dsimp only; rw [hm,List.length_set,h2]⟩)))
  dsimp only
  rw [hj,w64_id (by omega) (by omega)]; omega
 ·obtain ⟨a,j,v⟩:=s
  obtain ⟨h1,h2⟩:=hs
  dsimp only at h1 h2
  unfold halberdref1_Be.b0
  exact hit_n (by dsimp only; omega) (hit_some ⟨_,rfl,h2⟩)
theorem padded_ex (s:Str) (hs:s.length<1000000000000000000):hit (fun t:Str=>t.length % 64=0∧t.length≤s.length+200) (halberdref1_padded s 64 8):=by
 have e1:w64 ((s.length:Int)+1)=(s.length:Int)+1:=w64_id (by omega) (by omega)
 have e2:w64 ((s.length:Int)+1+8)=(s.length:Int)+1+8:=w64_id (by omega) (by omega)
 have e3:((s.length:Int)+1+8).tmod 64=((s.length:Int)+1+8) % 64:=Int.tmod_eq_emod_of_nonneg (by omega)
 have e4:w64 (64 - ((s.length:Int)+1+8) % 64)=64 - ((s.length:Int)+1+8) % 64:=w64_id (by omega) (by omega)
 unfold halberdref1_padded
 rw [e1,e2,e3,e4]
 refine hit_if (by decide) (hit_ltt fun z hz=>hit_bind (P:=fun j:Int=>0≤j∧j<64∧((s.length:Int)+1+8+j) % 64=0) ?_ fun j hj=>?_)
 ·by_cases c:z=64
  ·exact hit_if c (hit_some (by omega))
  ·exact hit_n c (hit_some (by omega))
 ·obtain ⟨h1,h2,h3⟩:=hj
  have e5:w64 (j+8)=j+8:=w64_id (by omega) (by omega)
  have e6:w64 (j+8 - 8)=j:=by rw [w64_id (by omega) (by omega)]; omega
  rw [e5,e6]
  obtain ⟨k,rfl⟩:=Int.eq_ofNat_of_zero_le h1
  simp only [Int.toNat_natCast]
  refine hit_if (by simp; omega) (hit_if (by omega) (hit_if (by simp) (hit_if (by simp; omega) (hit_bind (be_ex _ 8 (by decide) (by decide)) fun b hb=>hit_if (by simp; omega) (hit_ltt fun x hx=>hit_some ?_)))))
  have:x.length=s.length+1+k+8:=by rw [hx]; simp [hb]; omega
  omega
theorem hash_ex (s:Str) (hs:s.length<1000000000000000000):hit (fun d:Str=>d.length=32) (halberdref1_Hash 256 s):=by
 unfold halberdref1_Hash
 refine hit_bind (P:=fun r:Str × Int=>r.1.length=32) ?_ fun r hr=>hit_some hr
 unfold halberdref1_Sum
 refine hit_ltt fun x hx=>hit_if (by rw [hx]; rfl) (hit_ltt fun m _=>hit_bind (padded_ex s hs) fun p hp=>?_)
 obtain ⟨q,hq⟩ : ∃ q,p.length=64 * q:=⟨p.length / 64,by omega⟩
 refine hit_bind (P:=fun _=>True) (hit_loop q (fun k s=>s.1=((64 * k:Nat):Int)) (by omega) rfl (fun k t hk ht=>?_) (fun t ht=>?_)) fun t1 _=>?_
 ·obtain ⟨i,v⟩:=t
  dsimp only at ht
  subst ht
  have e1:w64 (((64 * k:Nat):Int)+64)=((64 * (k+1):Nat):Int):=by rw [w64_id (by omega) (by omega)]; omega
  unfold halberdref1_Sum.b0
  dsimp only
  rw [e1]
  simp only [Int.toNat_natCast]
  refine hit_if (by omega) (hit_if (by omega) (hit_if (by omega) (hit_if (by omega) (hit_if (by omega) (hit_bind (b256_ex _ _ ?_ ?_) fun w _=>hit_ltt fun i hi=>hit_some ⟨_,rfl,hi⟩)))))
  ·rw [sub_length (by omega)]; omega
  ·rw [sub_length (by omega)]; omega
 ·unfold halberdref1_Sum.b0
  exact hit_n (by omega) (hit_some ⟨_,rfl,trivial⟩)
 ·refine hit_bind (P:=fun d:Str=>d.length=32) (hit_loop 8 (fun k s=>s.2=(k:Int)∧s.1.length=4 * k) (by decide) ⟨rfl,rfl⟩ (fun k t hk ht=>?_) (fun t ht=>?_)) fun t2 ht2=>hit_some ht2
  ·obtain ⟨a,i⟩:=t
   obtain ⟨h1,h2⟩:=ht
   dsimp only at h1 h2
   subst h1
   have w5:w64 ((k:Int)+1)=((k+1:Nat):Int):=by rw [w64_id (by omega) (by omega)]; omega
   unfold halberdref1_Sum.b1
   dsimp only
   rw [w5]
   exact hit_if (by omega) (hit_if (by omega) (hit_bind (be_ex _ 4 (by decide) (by decide)) fun b hb=>hit_if (by omega) (hit_ltt fun j hj=>hit_some ⟨_,rfl,hj,by dsimp only; rw [List.length_append,h2,hb]; omega⟩)))
  ·obtain ⟨a,i⟩:=t
   obtain ⟨h1,h2⟩:=ht
   dsimp only at h1 h2
   unfold halberdref1_Sum.b1
   exact hit_n (by dsimp only; omega) (hit_some ⟨_,rfl,h2⟩)
end Go.Kx
end

section
namespace Go.Proofs
open Go Go.Kx
open TryI Try
def halberdlaw12_EcdsaBack (x:Int) (y:Int) (a_:Str) (b:Str):Option (Bool) :=
 (halberdlaw12_awake).bind fun (r_1:Bool)=>(if (!r_1)=true then (some false) else ((halberdlaw12_scalar x).bind fun (r_2:Str)=>((halberdref9_Public r_2).bind fun (r_3:Str × Int)=>((halberdref1_Hash 256 a_).bind fun (r_4:Str)=>((halberdref1_Hash 256 b).bind fun (r_5:Str)=>((halberdlaw12_scalar x).bind fun (r_6:Str)=>((halberdlaw12_scalar y).bind fun (r_7:Str)=>((ecdsa_Sign r_6 r_7 r_4).bind fun (r_8:Str × Int)=>((if r_3.2 ≠ 0 then (some true) else ((halberdlaw0_Num r_8.2).bind fun (r_15:Int)=>(some (decide (r_15 ≠ 0))))).bind fun (j1:Bool)=>(if j1=true then ((halberdlaw0_Num r_8.2).bind fun (r_9:Int)=>(ltt (decide (r_9=1201)) fun (x1:Bool)=>(some x1))) else ((ecdsa_Verify r_3.1 r_4 r_8.1).bind fun (r_10:Int)=>((ecdsa_Verify r_3.1 r_5 r_8.1).bind fun (r_11:Int)=>((halberdlaw0_Num r_10).bind fun (r_12:Int)=>(if r_12=0 then ((halberdlaw0_Num r_11).bind fun (r_13:Int)=>((halberdref9_Verify r_3.1 r_5 r_8.1).bind fun (r_14:Int)=>(ltt (decide (r_13=r_14)) fun (x2:Bool)=>(some x2)))) else (some false)))))))))))))))
set_option maxHeartbeats 4000000 in
set_option maxRecDepth 20000 in
theorem F9_calls (x:Int) (y:Int) (a_:Str) (b:Str) (r:Bool) (H:halberdlaw12_EcdsaBack x y a_ b=some r) :
  Does Try.prog 9 [vi x,vi y,vs a_,vs b] [] [] (Γ:=Unit) (fun g=>vb r) (fun g=>[]):=by
 intro w hmem hro hd
 refine calls_of (N:=68) (m0:=[(0,vi x),(1,vi y),(2,vs a_),(3,vs b)]) func9 rfl ntmps9 (argM_ok [vi x,vi y,vs a_,vs b]) rfl hmem hro hd ?_
 unfold halberdlaw12_EcdsaBack at H
 refine TC_seq (TC_region (TVa ?_))
 refine TL_nil (TX_next (TC_seq (TC_seq (TC_region ?_))))
 obtain ⟨r_1,hr_1,H⟩:=bind_elim H
 refine TLe (E_c0 (F29_calls r_1 hr_1) call29 .z) (fun g_1=>?_)
 refine TLv (V_un rfl (fun w=>notB w r_1)) ?_
 refine TL_nil (TX_next (TCb H (fun hc H=>?_) (fun hc H=>?_)))
 ·refine TC_seq (TC_region (TVa ?_))
  refine TL_nil (TX_next (TC_ret (TX_then_ret ?_)))
  obtain rfl:=sj H
  exact TX1
 ·refine TC_skip (TX_next (TC_seq (TC_region (TVm ?_))))
  obtain ⟨r_2,hr_2,H⟩:=bind_elim H
  refine TLe (E_c0 (F30_calls x r_2 hr_2) call30 .z) (fun g_2=>?_)
  obtain ⟨r_3,hr_3,H⟩:=bind_elim H
  refine TLe (E_c0 (F14_calls r_2 r_3 hr_3) call14 .z) (fun g_3=>?_)
  refine TVm ?_
  refine TLv V_ex ?_
  refine TLv V_ex ?_
  refine TVa ?_
  refine TVa ?_
  refine TL_nil (TX_next (TC_seq (TC_region (TVm ?_))))
  obtain ⟨r_4,hr_4,H⟩:=bind_elim H
  refine TLe (E_c0 (F31_calls 256 a_ r_4 hr_4) call31 .z) (fun g_4=>?_)
  refine TVm ?_
  obtain ⟨r_5,hr_5,H⟩:=bind_elim H
  refine TLe (E_c0 (F31_calls 256 b r_5 hr_5) call31 .z) (fun g_5=>?_)
  refine TVa ?_
  refine TVa ?_
  refine TL_nil (TX_next (TC_seq (TC_region (TVm ?_))))
  obtain ⟨r_6,hr_6,H⟩:=bind_elim H
  refine TLe (E_c0 (F30_calls x r_6 hr_6) call30 .z) (fun g_6=>?_)
  refine TVm ?_
  obtain ⟨r_7,hr_7,H⟩:=bind_elim H
  refine TLe (E_c0 (F30_calls y r_7 hr_7) call30 .z) (fun g_7=>?_)
  refine TVm ?_
  obtain ⟨r_8,hr_8,H⟩:=bind_elim H
  refine TLe (E_c0 (F25_calls r_6 r_7 r_4 r_8 hr_8) call25 .z) (fun g_8=>?_)
  refine TVm ?_
  refine TLv V_ex ?_
  refine TLv V_ex ?_
  refine TVa ?_
  refine TVa ?_
  refine TL_nil (TX_next (TC.sub (m':=[(9,_),(10,_),(11,_),(12,_),(13,_),(14,_)]) ⟨rfl,rfl,rfl,rfl,rfl,rfl,trivial⟩ ?_))
  refine TC.pull (is:=[]) (L':=[]) rfl ?_
  refine TC_seq (TC_seq (TC_region (TVm ?_)))
  refine TLv (V_bin rfl rfl (fun w=>neqI w r_3.2 0)) ?_
  refine TVm ?_
  obtain ⟨j1,Hj,H⟩:=bind_elim H
  refine TL_join (Γ:=Unit) (fun gj1=>[(9,vs r_3.1),(11,vs r_4),(12,vs r_5),(13,vs r_8.1),(14,vi r_8.2),(44,vb j1)]) (fun gj1=>[]) ?_ ?_
  ·intro gj1
   refine TX_next (TCb H (fun hc H=>?_) (fun hc H=>?_))
   ·refine TC_seq (TC_region (TVm ?_))
    obtain ⟨r_9,hr_9,H⟩:=bind_elim H
    refine TLe (E_c0 (F20_calls r_8.2 r_9 hr_9) call20 .z) (fun g_9=>?_)
    refine TLv (V_bin rfl rfl (fun w=>eqlI w r_9 1201)) ?_
    refine TVa ?_
    obtain ⟨x1,hx1,H⟩:=ltt_elim H
    refine TLr 8 (congrArg vb hx1) ?_
    refine TL_nil (TX_next (TC_ret (TX_then_ret ?_)))
    obtain rfl:=sj H
    exact TX1
   ·refine TC_skip (TX_next (TC_seq (TC_region (TVm ?_))))
    refine TVm ?_
    refine TVm ?_
    obtain ⟨r_10,hr_10,H⟩:=bind_elim H
    refine TLe (E_c0 (F27_calls r_3.1 r_4 r_8.1 r_10 hr_10) call27 .z) (fun g_10=>?_)
    refine TVa ?_
    refine TL_nil (TX_next (TC_seq (TC_region (TVm ?_))))
    refine TVm ?_
    refine TVm ?_
    obtain ⟨r_11,hr_11,H⟩:=bind_elim H
    refine TLe (E_c0 (F27_calls r_3.1 r_5 r_8.1 r_11 hr_11) call27 .z) (fun g_11=>?_)
    refine TVa ?_
    refine TL_nil (TX_next (TC_seq (TC_region (TVm ?_))))
    obtain ⟨r_12,hr_12,H⟩:=bind_elim H
    refine TLe (E_c0 (F20_calls r_10 r_12 hr_12) call20 .z) (fun g_12=>?_)
    refine TLv (V_bin rfl rfl (fun w=>eqlI w r_12 0)) ?_
    refine TVm ?_
    refine TFd (d:=59) H (fun hc H=>?_) (fun hc H=>?_)
    ·refine TLw (V_move rfl) ?_
     obtain ⟨r_13,hr_13,H⟩:=bind_elim H
     refine TLu (E_c0 (F20_calls r_11 r_13 hr_13) call20 .z) (fun g_13=>?_)
     refine TLw (V_move rfl) ?_
     refine TLw (V_move rfl) ?_
     refine TLw (V_move rfl) ?_
     obtain ⟨r_14,hr_14,H⟩:=bind_elim H
     refine TLu (E_c0 (F28_calls r_3.1 r_5 r_8.1 r_14 hr_14) call28 .z) (fun g_14=>?_)
     refine TLw (V_bin rfl rfl (fun w=>eqlI w r_13 r_14)) ?_
     refine TVt ?_
     refine TVa ?_
     obtain ⟨x2,hx2,H⟩:=ltt_elim H
     refine TLr 8 (congrArg vb hx2) ?_
     refine TL_nil (TX_next (TC.sub (m':=[(8,_)]) ⟨rfl,trivial⟩ ?_))
     refine TC.pull (is:=[]) (L':=[]) rfl ?_
     refine TC_ret ?_
     obtain rfl:=sj H
     exact TX1
    ·refine TLs ?_
     refine TLs ?_
     refine TLs ?_
     refine TLs ?_
     refine TLs ?_
     refine TLs ?_
     refine TLs ?_
     refine TVf ?_
     refine TVa ?_
     refine TL_nil (TX_next (TC_ret ?_))
     obtain rfl:=sj H
     exact TX1
  ·intro hJ
   replace H:=Hj
   refine TFd (d:=40) H (fun hc H=>?_) (fun hc H=>?_)
   ·refine TLs ?_
    refine TLs ?_
    refine TLs ?_
    refine TVt ?_
    refine TL_nil ?_
    obtain rfl:=sj H
    exact TXj [] (hJ ())
   ·refine TLw (V_move rfl) ?_
    obtain ⟨r_15,hr_15,H⟩:=bind_elim H
    refine TLu (E_c0 (F20_calls r_8.2 r_15 hr_15) call20 .z) (fun g_15=>?_)
    refine TLw (V_bin rfl rfl (fun w=>neqI w r_15 0)) ?_
    refine TVf ?_
    refine TL_nil ?_
    obtain rfl:=sj H
    exact TXj [] (hJ ())
end Go.Proofs
end

section
namespace Go.Kx
open Go Go.Proofs
open Go.Nt hiding n4
theorem EcdsaBack_true (x y:Int) (a b:Str) (ha:a.length≤140737488351232) (hb:b.length≤140737488351232):halberdlaw12_EcdsaBack x y a b=some true:=by
 obtain ⟨d,h1,e1⟩:=hash_ex a (by omega)
 obtain ⟨o,h2,e2⟩:=hash_ex b (by omega)
 obtain ⟨q,hq,hp⟩:=pub_of x
 have hs:=Sign_sc x y d e1
 unfold halberdlaw12_EcdsaBack
 refine bind_i awake12 (if_n (by decide) (bind_i (scalar_eq x) (bind_i hp (bind_i h1 (bind_i h2 (bind_i (scalar_eq x) (bind_i (scalar_eq y) (bind_i hs ?_))))))))
 rcases sg_cases (sc12 x) (sc12 y) (bnum d) with h | ⟨hr,hz,h⟩
 ·rw [h]
  exact bind_i (v:=true) (if_n (fun c=>c rfl) (bind_i (num12 _) rfl)) (if_i rfl (bind_i (num12 _) rfl))
 ·have hv:=Verify_own d e1 hq (sc_ne y) hr hz
  rw [h]
  obtain ⟨e,h3,h4⟩:=Verify_eq (encQ q) o (SG (sigR (sc12 y)) (sigS (sc12 x) (sc12 y) (bnum d))) (SG_short _ _)
  refine bind_i (v:=false) (if_n (fun c=>c rfl) (bind_i (num12 _) rfl)) (if_n Bool.false_ne_true ?_)
  refine bind_i hv (bind_i h3 (bind_i (num12 _) (if_i rfl (bind_i (num12 _) (bind_i h4 (congrArg some (decide_eq_true rfl)))))))
end Go.Kx
end

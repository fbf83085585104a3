/-
  Part 11 of the proof of EcdsaTwins.
-/
import Derived.SizedLaws
import Derived.ChangeSlices
import Derived.SliceStrings
import Derived.WideShapes
import Derived.ChangeShapes
import Derived.Test.YtiofnmmggblcgaaEcdsaTwinsA1
import Derived.Test.YtiofnmmggblcgaaEcdsaTwinsA2
import Derived.Test.YtiofnmmggblcgaaEcdsaTwinsA3
import Derived.Test.YtiofnmmggblcgaaEcdsaTwinsA4
import Derived.Test.YtiofnmmggblcgaaEcdsaTwinsA5
import Derived.Test.YtiofnmmggblcgaaEcdsaTwinsA6
import Derived.Test.YtiofnmmggblcgaaEcdsaTwinsA7
import Derived.Test.YtiofnmmggblcgaaEcdsaTwinsA8
import Derived.Test.YtiofnmmggblcgaaEcdsaTwinsA9
import Derived.Test.YtiofnmmggblcgaaEcdsaTwinsA10
set_option linter.unusedVariables false
set_option linter.unusedSimpArgs false
section
namespace Go.Kx
open Go Go.Proofs
def hit {α:Type} (Q:α → Prop) (o:Option α):Prop := ∃ v,o=some v∧Q v
theorem hit_some {α:Type} {Q:α → Prop} {v:α} (h:Q v):hit Q (some v):=⟨v,rfl,h⟩
theorem hit_if {α:Type} {Q:α → Prop} {c:Prop} [Decidable c] {a b:Option α} (hc:c) (h:hit Q a):hit Q (if c then a else b):=by rwa [if_pos hc]
theorem hit_n {α:Type} {Q:α → Prop} {c:Prop} [Decidable c] {a b:Option α} (hc : ¬ c) (h:hit Q b):hit Q (if c then a else b):=by rwa [if_neg hc]
theorem hit_ltt {α β:Type} {Q:β → Prop} {a:α} {f:α → Option β} (h : ∀ x,x=a → hit Q (f x)):hit Q (ltt a f):=h a rfl
theorem hit_bind {α β:Type} {P:α → Prop} {Q:β → Prop} {o:Option α} {f:α → Option β} (h:hit P o) (k : ∀ x,P x → hit Q (f x)):hit Q (o.bind f):=by
 obtain ⟨v,rfl,hv⟩:=h
 exact k v hv
theorem hit_loop {S τ:Type} {body:S → Option (S ⊕ τ)} {P:τ → Prop} (n:Nat) (I:Nat → S → Prop) {s0:S} (hn:n<1152921504606846976) (h0:I 0 s0)
  (hstep : ∀ k s,k<n → I k s → hit (fun r => ∃ s',r = .inl s'∧I (k+1) s') (body s)) (hend : ∀ s,I n s → hit (fun r => ∃ t,r = .inr t∧P t) (body s)):hit P (loop body BIG s0) :=
 loop_inv n I P hn h0 (fun k s hk hI=>by
  obtain ⟨v,h1,s',rfl,h2⟩:=hstep k s hk hI
  exact ⟨s',h1,h2⟩) (fun s hI=>by
  obtain ⟨v,h1,t,rfl,h2⟩:=hend s hI
  exact ⟨t,h1,h2⟩)
abbrev tot {α:Type} (o:Option α):Prop:=hit (fun _=>True) o
theorem rot_ex (x:BitVec 32) (k:Int) (h:0≤k∧k≤32):tot (halberdref1_rot x k):=by
 unfold halberdref1_rot
 exact hit_if h.1 (hit_if (by rw [w64_id (by omega) (by omega)]; omega) (hit_ltt fun _ _=>hit_some trivial))
theorem b256_ex (h:Vx 32 8) (b:Str) (hb:64≤b.length) (hb2:b.length<1152921504606846976):tot (halberdref1_block256 h b):=by
 unfold halberdref1_block256
 refine hit_ltt fun m _=>hit_bind (P:=fun _=>True) (hit_loop 16 (fun i s=>s.1=(i:Int)) (by decide) rfl (fun i s hi hs=>?_) (fun s hs=>?_)) fun t1 _=>?_
 ·obtain ⟨i',v⟩:=s
  dsimp only at hs
  subst hs
  have w1:w64 (4 * (i:Int))=4 * (i:Int):=w64_id (by omega) (by omega)
  have w2:w64 (4 * (i:Int)+1)=4 * (i:Int)+1:=w64_id (by omega) (by omega)
  have w3:w64 (4 * (i:Int)+2)=4 * (i:Int)+2:=w64_id (by omega) (by omega)
  have w4:w64 (4 * (i:Int)+3)=4 * (i:Int)+3:=w64_id (by omega) (by omega)
  have w5:w64 ((i:Int)+1)=((i+1:Nat):Int):=by rw [w64_id (by omega) (by omega)]; omega
  unfold halberdref1_block256.b0
  dsimp only
  rw [w1,w2,w3,w4,w5]
  exact hit_if (by omega) (hit_if (by omega) (hit_if (by omega) (hit_if (by omega) (hit_if (by omega) (hit_if (by omega) (hit_ltt fun _ _=>hit_ltt fun j hj=>hit_some ⟨_,rfl,hj⟩))))))
 ·unfold halberdref1_block256.b0
  exact hit_n (by omega) (hit_some ⟨_,rfl,trivial⟩)
 refine hit_bind (P:=fun _=>True) (hit_loop 48 (fun i s=>s.1=((16+i:Nat):Int)) (by decide) rfl (fun i s hi hs=>?_) (fun s hs=>?_)) fun t2 _=>?_
 ·obtain ⟨i',v⟩:=s
  dsimp only at hs
  subst hs
  have w1:w64 (((16+i:Nat):Int) - 15)=((16+i:Nat):Int) - 15:=w64_id (by omega) (by omega)
  have w2:w64 (((16+i:Nat):Int) - 2)=((16+i:Nat):Int) - 2:=w64_id (by omega) (by omega)
  have w3:w64 (((16+i:Nat):Int) - 16)=((16+i:Nat):Int) - 16:=w64_id (by omega) (by omega)
  have w4:w64 (((16+i:Nat):Int) - 7)=((16+i:Nat):Int) - 7:=w64_id (by omega) (by omega)
  have w5:w64 (((16+i:Nat):Int)+1)=((16+(i+1):Nat):Int):=by rw [w64_id (by omega) (by omega)]; omega
  unfold halberdref1_block256.b1
  dsimp only
  rw [w1,w2,w3,w4,w5]
  refine hit_if (by omega) (hit_if (by omega) (hit_bind (rot_ex _ _ (by decide)) fun _ _=>hit_if (by omega) (hit_bind (rot_ex _ _ (by decide)) fun _ _=>hit_if (by omega) (hit_ltt fun _ _=>hit_if (by omega) (hit_bind (rot_ex _ _ (by decide)) fun _ _=>hit_if (by omega) (hit_bind (rot_ex _ _ (by decide)) fun _ _=>hit_if (by omega) (hit_ltt fun _ _=>?_)))))))
  exact hit_if (by omega) (hit_if (by omega) (hit_if (by omega) (hit_ltt fun _ _=>hit_ltt fun j hj=>hit_some ⟨_,rfl,hj⟩)))
 ·unfold halberdref1_block256.b1
  exact hit_n (by omega) (hit_some ⟨_,rfl,trivial⟩)
 refine hit_bind (P:=fun _=>True) (hit_loop 64 (fun i s=>s.1=(i:Int)) (by decide) rfl (fun i s hi hs=>?_) (fun s hs=>?_)) fun t3 _=>?_
 ·obtain ⟨i',v⟩:=s
  dsimp only at hs
  subst hs
  have w5:w64 ((i:Int)+1)=((i+1:Nat):Int):=by rw [w64_id (by omega) (by omega)]; omega
  unfold halberdref1_block256.b2
  dsimp only
  rw [w5]
  refine hit_if (by omega) (hit_bind (rot_ex _ _ (by decide)) fun _ _=>hit_bind (rot_ex _ _ (by decide)) fun _ _=>hit_bind (rot_ex _ _ (by decide)) fun _ _=>hit_ltt fun _ _=>hit_if (by omega) (hit_if (by omega) (hit_ltt fun _ _=>?_)))
  exact hit_bind (rot_ex _ _ (by decide)) fun _ _=>hit_bind (rot_ex _ _ (by decide)) fun _ _=>hit_bind (rot_ex _ _ (by decide)) fun _ _=>hit_ltt fun _ _=>hit_ltt fun _ _=>hit_ltt fun _ _=>hit_ltt fun j hj=>hit_some ⟨_,rfl,hj⟩
 ·unfold halberdref1_block256.b2
  exact hit_n (by omega) (hit_some ⟨_,rfl,trivial⟩)
 refine hit_bind (P:=fun _=>True) (hit_loop 8 (fun i s=>s.1=(i:Int)) (by decide) rfl (fun i s hi hs=>?_) (fun s hs=>?_)) fun t4 _=>hit_some trivial
 ·obtain ⟨i',v⟩:=s
  dsimp only at hs
  subst hs
  have w5:w64 ((i:Int)+1)=((i+1:Nat):Int):=by rw [w64_id (by omega) (by omega)]; omega
  unfold halberdref1_block256.b3
  dsimp only
  rw [w5]
  exact hit_if (by omega) (hit_if (by omega) (hit_if (by omega) (hit_if (by omega) (hit_ltt fun _ _=>hit_ltt fun j hj=>hit_some ⟨_,rfl,hj⟩))))
 ·unfold halberdref1_block256.b3
  exact hit_n (by omega) (hit_some ⟨_,rfl,trivial⟩)
theorem be_ex (x:Int) (n:Nat) (hn:n≤8) (h1:1≤n):hit (fun s:Str=>s.length=n) (halberdref1_Be x (n:Int)):=by
 unfold halberdref1_Be
 refine hit_if (by omega) (hit_ltt fun i hi=>?_)
 rw [w64_id (by omega) (by omega)] at hi
 refine hit_bind (P:=fun s:List (BitVec 8)=>s.length=n) (hit_loop n (fun k s=>s.2.1=(n:Int) - 1 - (k:Int)∧s.2.2.length=n) (by omega) ⟨by dsimp only; omega,by simp⟩ (fun k s hk hs=>?_) (fun s hs=>?_)) fun t ht=>hit_if (by omega) (hit_some ht)
 ·obtain ⟨a,j,v⟩:=s
  obtain ⟨h1,h2⟩:=hs
  dsimp only at h1 h2
  unfold halberdref1_Be.b0
  dsimp only
  refine hit_if (by omega) (hit_if (by omega) (hit_if (by omega) (hit_ltt fun m hm=>hit_ltt fun j' hj=>hit_some ⟨_,rfl,?_,by dsimp only; rw [hm,List.length_set,h2]⟩)))
  dsimp only
  rw [hj,w64_id (by omega) (by omega)]; omega
 ·obtain ⟨a,j,v⟩:=s
  obtain ⟨h1,h2⟩:=hs
  dsimp only at h1 h2
  unfold halberdref1_Be.b0
  exact hit_n (by dsimp only; omega) (hit_some ⟨_,rfl,h2⟩)
theorem padded_ex (s:Str) (hs:s.length<1000000000000000000):hit (fun t:Str=>t.length % 64=0∧t.length≤s.length+200) (halberdref1_padded s 64 8):=by
 have e1:w64 ((s.length:Int)+1)=(s.length:Int)+1:=w64_id (by omega) (by omega)
 have e2:w64 ((s.length:Int)+1+8)=(s.length:Int)+1+8:=w64_id (by omega) (by omega)
 have e3:((s.length:Int)+1+8).tmod 64=((s.length:Int)+1+8) % 64:=Int.tmod_eq_emod_of_nonneg (by omega)
 have e4:w64 (64 - ((s.length:Int)+1+8) % 64)=64 - ((s.length:Int)+1+8) % 64:=w64_id (by omega) (by omega)
 unfold halberdref1_padded
 rw [e1,e2,e3,e4]
 refine hit_if (by decide) (hit_ltt fun z hz=>hit_bind (P:=fun j:Int=>0≤j∧j<64∧((s.length:Int)+1+8+j) % 64=0) ?_ fun j hj=>?_)
 ·by_cases c:z=64
  ·exact hit_if c (hit_some (by omega))
  ·exact hit_n c (hit_some (by omega))
 ·obtain ⟨h1,h2,h3⟩:=hj
  have e5:w64 (j+8)=j+8:=w64_id (by omega) (by omega)
  have e6:w64 (j+8 - 8)=j:=by rw [w64_id (by omega) (by omega)]; omega
  rw [e5,e6]
  obtain ⟨k,rfl⟩:=Int.eq_ofNat_of_zero_le h1
  simp only [Int.toNat_natCast]
  refine hit_if (by simp; omega) (hit_if (by omega) (hit_if (by simp) (hit_if (by simp; omega) (hit_bind (be_ex _ 8 (by decide) (by decide)) fun b hb=>hit_if (by simp; omega) (hit_ltt fun x hx=>hit_some ?_)))))
  have:x.length=s.length+1+k+8:=by rw [hx]; simp [hb]; omega
  omega
theorem hash_ex (s:Str) (hs:s.length<1000000000000000000):hit (fun d:Str=>d.length=32) (halberdref1_Hash 256 s):=by
 unfold halberdref1_Hash
 refine hit_bind (P:=fun r:Str × Int=>r.1.length=32) ?_ fun r hr=>hit_some hr
 unfold halberdref1_Sum
 refine hit_ltt fun x hx=>hit_if (by rw [hx]; rfl) (hit_ltt fun m _=>hit_bind (padded_ex s hs) fun p hp=>?_)
 obtain ⟨q,hq⟩ : ∃ q,p.length=64 * q:=⟨p.length / 64,by omega⟩
 refine hit_bind (P:=fun _=>True) (hit_loop q (fun k s=>s.1=((64 * k:Nat):Int)) (by omega) rfl (fun k t hk ht=>?_) (fun t ht=>?_)) fun t1 _=>?_
 ·obtain ⟨i,v⟩:=t
  dsimp only at ht
  subst ht
  have e1:w64 (((64 * k:Nat):Int)+64)=((64 * (k+1):Nat):Int):=by rw [w64_id (by omega) (by omega)]; omega
  unfold halberdref1_Sum.b0
  dsimp only
  rw [e1]
  simp only [Int.toNat_natCast]
  refine hit_if (by omega) (hit_if (by omega) (hit_if (by omega) (hit_if (by omega) (hit_if (by omega) (hit_bind (b256_ex _ _ ?_ ?_) fun w _=>hit_ltt fun i hi=>hit_some ⟨_,rfl,hi⟩)))))
  ·rw [sub_length (by omega)]; omega
  ·rw [sub_length (by omega)]; omega
 ·unfold halberdref1_Sum.b0
  exact hit_n (by omega) (hit_some ⟨_,rfl,trivial⟩)
 ·refine hit_bind (P:=fun d:Str=>d.length=32) (hit_loop 8 (fun k s=>s.2=(k:Int)∧s.1.length=4 * k) (by decide) ⟨rfl,rfl⟩ (fun k t hk ht=>?_) (fun t ht=>?_)) fun t2 ht2=>hit_some ht2
  ·obtain ⟨a,i⟩:=t
   obtain ⟨h1,h2⟩:=ht
   dsimp only at h1 h2
   subst h1
   have w5:w64 ((k:Int)+1)=((k+1:Nat):Int):=by rw [w64_id (by omega) (by omega)]; omega
   unfold halberdref1_Sum.b1
   dsimp only
   rw [w5]
   exact hit_if (by omega) (hit_if (by omega) (hit_bind (be_ex _ 4 (by decide) (by decide)) fun b hb=>hit_if (by omega) (hit_ltt fun j hj=>hit_some ⟨_,rfl,hj,by dsimp only; rw [List.length_append,h2,hb]; omega⟩)))
  ·obtain ⟨a,i⟩:=t
   obtain ⟨h1,h2⟩:=ht
   dsimp only at h1 h2
   unfold halberdref1_Sum.b1
   exact hit_n (by dsimp only; omega) (hit_some ⟨_,rfl,h2⟩)
end Go.Kx
end

section
namespace Go.Proofs
open Go Go.Kx
def halberdlaw12_scalar.b0 (k_1:Int) (s0:Int × List (BitVec 8)):Option ((Int × List (BitVec 8)) ⊕ (List (BitVec 8))) :=
 if s0.1<4 then (if 0≤w64 (8 * s0.1) then (if 0≤w64 (31 - s0.1)∧w64 (31 - s0.1)<(32:Int) then (if (w64 (31 - s0.1)).toNat<(s0.2).length then (ltt (s0.2.set ((w64 (31 - s0.1)).toNat) (BitVec.ofInt 8 (iop (· &&& ·) (shrI' k_1 (w64 (8 * s0.1))) 255))) fun (m_1:List (BitVec 8))=>(ltt (w64 (s0.1+1)) fun (i1:Int)=>(some (.inl (i1,m_1))))) else none) else none) else none) else (some (.inr s0.2))
def halberdlaw12_scalar (x:Int):Option (Str) :=
 ltt (w64 (1+(iop (· &&& ·) x 1048575))) fun (k_1:Int)=>((loop (halberdlaw12_scalar.b0 k_1) BIG (0,List.replicate 32 0#8)).bind fun (t_1:List (BitVec 8))=>(if (t_1).length=32 then (some t_1) else none))
set_option maxHeartbeats 4000000 in
set_option maxRecDepth 20000 in
theorem F30_calls (x:Int) (r:Str) (H:halberdlaw12_scalar x=some r) :
  Does Try.prog 30 [vi x] [] [] (Γ:=Unit) (fun g=>vs r) (fun g=>[]):=by
 intro w hmem hro hd
 refine calls_of (N:=26) (m0:=[(0,vi x)]) Try.func30 rfl Try.ntmps30 (argM_ok [vi x]) rfl hmem hro hd ?_
 unfold halberdlaw12_scalar at H
 refine TC_seq (TC_region (TLv (V_assign rfl) ?_))
 refine TL_nil (TX_next (TC_seq (TC_region (TLe (E_mk1 rfl rfl Try.underlying42 TryI.inf5 (z:=v8 0#8) rfl rfl rfl (B:=1) rfl (by decide) (Int.le_refl _) (by decide) (by decide) (n':=32) (c':=32) rfl rfl (cs:=e8 (List.replicate 32 0#8)) (rep_map (f:=v8))) (fun b1=>?_)))))
 refine TLv (V_assign rfl) ?_
 refine TL_nil (TX_next (TC_seq (TC_region (TLv (V_move rfl) ?_))))
 refine TLv (V_bin rfl rfl (fun w=>andI w x 1048575)) ?_
 refine TLv (V_bin rfl rfl (fun w=>addI w 1 (iop (· &&& ·) x 1048575))) ?_
 refine TLv (V_assign rfl) ?_
 obtain ⟨k_1,hk_1,H⟩:=ltt_elim H
 refine TL_re (d:=4) (v:=vi (w64 (1+(iop (· &&& ·) x 1048575)))) (v':=vi k_1) rfl (congrArg vi hk_1) ?_
 refine TL_nil (TX_next (TC_seq (TC_seq (TC_region (TLv (V_assign rfl) ?_)))))
 refine TL_nil (TX_next (TC_block ?_))
 obtain ⟨t_1,Hl,H⟩:=bind_elim H
 refine TC.sub (m':=[(3,sl (some (b1,0)) 32 32),(4,vi k_1),(5,vi 0)]) ⟨rfl,rfl,rfl,trivial⟩ ?_
 refine TC.pull (is:=[0]) (L':=[⟨some (b1,0),e8 (List.replicate 32 0#8)⟩]) rfl ?_
 refine TC_loopL (id:=0) (body:=(halberdlaw12_scalar.b0 k_1)) (σ:=Int × List (BitVec 8)) (Γ:=Unit) (Γx:=Unit) (fun s0 g0_=>[(3,sl (some (b1,0)) 32 32),(4,vi k_1),(5,vi s0.1)]) (fun s0 g0_=>[⟨some (b1,0),e8 s0.2⟩]) (fun t g=>[(3,sl (some (b1,0)) 32 32)]) (fun t g=>[⟨some (b1,0),e8 t⟩]) ?_ BIG (0,List.replicate 32 0#8) () t_1 Hl ?_
 ·intro s0 g0_ r1 H K hK hE
  unfold halberdlaw12_scalar.b0 at H
  refine TC_seq (TC_seq (TC_region (TLv (V_move rfl) ?_)))
  refine TLv (V_bin rfl rfl (fun w=>lssI w s0.1 4)) ?_
  refine TL_nil (TX_next (TC_cond (b:=(decide (s0.1<4))) rfl (fun hc=>?_) (fun hc=>?_)))
  ·replace H:=ite_t (of_decide_eq_true hc) H
   refine TC_skip (TX_next (TC_seq (TC_block (TC_region (TLv (V_move rfl) ?_)))))
   refine TLv (V_move rfl) ?_
   refine TLv (V_bin rfl rfl (fun w=>subI w 31 s0.1)) ?_
   refine TLv (V_move rfl) ?_
   refine TLv (V_move rfl) ?_
   refine TLv (V_bin rfl rfl (fun w=>mulI w 8 s0.1)) ?_
   obtain ⟨h1,H⟩:=if_elim H
   refine TLv (V_bin rfl rfl (fun w=>shrI w k_1 .i64 (w64 (8 * s0.1)) h1)) ?_
   refine TLv (V_bin rfl rfl (fun w=>andI w (shrI' k_1 (w64 (8 * s0.1))) 255)) ?_
   refine TLv (V_conv rfl (fun w=>cvI8 w _ _ Try.underlying5 (TryI.und3) .i64 (iop (· &&& ·) (shrI' k_1 (w64 (8 * s0.1))) 255))) ?_
   obtain ⟨h2,H⟩:=if_elim H
   obtain ⟨h3,H⟩:=if_elim H
   refine TLv (V_idxSl (i:=w64 (31 - s0.1)) rfl rfl Try.underlying42 TryI.inf5 rfl (fun _ h=>by cases h) h2.1 h2.2 (k:=(w64 (31 - s0.1)).toNat) (km1 _)) ?_
   refine TLn (E_store (j:=0) rfl rfl TryI.inf5 rfl rfl rfl (by simpa using h3) (cs':=e8 (s0.2.set ((w64 (31 - s0.1)).toNat) (BitVec.ofInt 8 (iop (· &&& ·) (shrI' k_1 (w64 (8 * s0.1))) 255)))) (set_map (f:=v8) (l:=s0.2) (k:=((w64 (31 - s0.1)).toNat)) (x:=(BitVec.ofInt 8 (iop (· &&& ·) (shrI' k_1 (w64 (8 * s0.1))) 255))))) (fun _=>?_)
   obtain ⟨m_1,hm_1,H⟩:=ltt_elim H
   refine TL_reE (j:=0) (A:=some (b1,0)) (cs:=e8 (s0.2.set ((w64 (31 - s0.1)).toNat) (BitVec.ofInt 8 (iop (· &&& ·) (shrI' k_1 (w64 (8 * s0.1))) 255)))) (cs':=e8 m_1) rfl (congrArg (e8) hm_1) ?_
   refine TL_nil (TX_block_normal (TX_next (TC_region (TLv (V_move rfl) ?_))))
   refine TLv (V_bin rfl rfl (fun w=>addI w s0.1 1)) ?_
   refine TLv (V_assign rfl) ?_
   obtain ⟨i1,hi1,H⟩:=ltt_elim H
   refine TL_re (d:=5) (v:=vi (w64 (s0.1+1))) (v':=vi i1) rfl (congrArg vi hi1) ?_
   refine TL_nil (TX.sub (m':=[(3,sl (some (b1,0)) 32 32),(4,vi k_1),(5,vi i1)]) ⟨rfl,rfl,rfl,trivial⟩ ?_)
   refine TX.pull (is:=[0]) (L':=[⟨some (b1,0),e8 m_1⟩]) rfl ?_
   obtain rfl:=Option.some.inj H
   exact fun a w hs=>hK (i1,m_1) rfl () a w hs
  ·replace H:=ite_f (of_decide_eq_false hc) H
   refine TC_exit (TX_then_exit (TX_then_exit (TX.sub (m':=[(3,sl (some (b1,0)) 32 32)]) ⟨rfl,trivial⟩ ?_)))
   refine TX.pull (is:=[0]) (L':=[⟨some (b1,0),e8 s0.2⟩]) rfl ?_
   obtain rfl:=Option.some.inj H
   exact hE s0.2 rfl ()
 ·intro g
  refine TX_block_exit (TX_next (TC_seq (TC_region (TLv (V_move rfl) ?_))))
  obtain ⟨h4,H⟩:=if_elim H
  refine TLv (V_b2s rfl Try.underlying42 Try.underlying5 Try.underlying9 (.o 0) h4) ?_
  refine TLv (V_assign rfl) ?_
  refine TL_nil (TX_next (TC_ret ?_))
  have hrv:=Option.some.inj H
  subst hrv
  exact TX_ret (rs:=[.tmp 2]) (vs:=[vs t_1]) rfl ⟨rfl,trivial⟩ (fun w' hs'=>⟨(),rfl,Step.left (Step.pulled (is:=[]) (A:=[]) hs' rfl)⟩)
end Go.Proofs
end

section
namespace Go.Proofs
open Go Go.Kx
def halberdlaw0_Num (e:Int):Option (Int) :=
 some e
set_option maxHeartbeats 4000000 in
set_option maxRecDepth 20000 in
theorem F20_calls (e:Int) (r:Int) (H:halberdlaw0_Num e=some r) :
  Does Try.prog 20 [vi e] [] [] (Γ:=Unit) (fun g=>vi r) (fun g=>[]):=by
 intro w hmem hro hd
 refine calls_of (N:=4) (m0:=[(0,vi e)]) Try.func20 rfl Try.ntmps20 (argM_ok [vi e]) rfl hmem hro hd ?_
 unfold halberdlaw0_Num at H
 refine TC_seq (TC_region (TLv (V_assign rfl) ?_))
 refine TL_nil (TX_next (TC_seq (TC_region (TLv (V_move rfl) ?_))))
 refine TLv (V_assign rfl) ?_
 refine TL_nil (TX_next (TC_ret ?_))
 have hrv:=Option.some.inj H
 subst hrv
 exact TX_ret (rs:=[.tmp 2]) (vs:=[vi e]) rfl ⟨rfl,trivial⟩ (fun w' hs'=>⟨(),rfl,Step.left (Step.pulled (is:=[]) (A:=[]) hs' rfl)⟩)
end Go.Proofs
end

section
namespace Go.Kx
open Go Go.Proofs
open Go.Nt hiding n4
theorem iop_nat12 (f:BitVec 64 → BitVec 64 → BitVec 64) (a b:Int) (h:(f (BitVec.ofInt 64 a) (BitVec.ofInt 64 b)).toNat<9223372036854775808):iop f a b=((f (BitVec.ofInt 64 a) (BitVec.ofInt 64 b)).toNat:Int):=by
 unfold iop
 exact w64_nat h
theorem and_mask12 (x:Int) (n:Nat) (hn:n<63):iop (· &&& ·) x ((2 ^ n - 1:Nat):Int)=x % ((2 ^ n:Nat):Int):=by
 have hp:2 ^ n<2 ^ 63:=Nat.pow_lt_pow_right (by omega) (by omega)
 have hp0:0<2 ^ n:=Nat.two_pow_pos n
 have e:((BitVec.ofInt 64 x) &&& (BitVec.ofInt 64 ((2 ^ n - 1:Nat):Int))).toNat=(x % ((2 ^ n:Nat):Int)).toNat:=by
  have e1:(BitVec.ofInt 64 ((2 ^ n - 1:Nat):Int)).toNat=2 ^ n - 1:=by
   rw [BitVec.ofInt_natCast,BitVec.toNat_ofNat,Nat.mod_eq_of_lt (by omega)]
  rw [BitVec.toNat_and,e1,Nat.and_two_pow_sub_one_eq_mod,BitVec.toNat_ofInt]
  have h1:((x % ((2 ^ 64:Nat):Int)).toNat:Int)=x % ((2 ^ 64:Nat):Int):=Int.toNat_of_nonneg (Int.emod_nonneg _ (by decide))
  have h2:((x % ((2 ^ n:Nat):Int)).toNat:Int)=x % ((2 ^ n:Nat):Int):=Int.toNat_of_nonneg (Int.emod_nonneg _ (by omega))
  apply Int.ofNat.inj
  show (((x % ((2 ^ 64:Nat):Int)).toNat % 2 ^ n:Nat):Int)=_
  rw [Int.natCast_emod,h1]
  show x % ((2 ^ 64:Nat):Int) % ((2 ^ n:Nat):Int)=((x % ((2 ^ n:Nat):Int)).toNat:Int)
  rw [h2]
  refine Int.emod_emod_of_dvd x ?_
  rw [Int.natCast_dvd_natCast]
  exact Nat.pow_dvd_pow 2 (by omega)
 have hlt:(x % ((2 ^ n:Nat):Int)).toNat<2 ^ n:=by
  have:=Int.emod_lt_of_pos x (show (0:Int)<((2 ^ n:Nat):Int) by omega)
  omega
 have:=iop_nat12 (· &&& ·) x ((2 ^ n - 1:Nat):Int) (by show BitVec.toNat (_ &&& _)<_; rw [e]; omega)
 rw [this]
 show ((BitVec.toNat (_ &&& _):Nat):Int)=_
 rw [e]
 exact Int.toNat_of_nonneg (Int.emod_nonneg _ (by omega))
theorem num12 (e:Int):halberdlaw0_Num e=some e:=rfl
def sc12 (x:Int):Nat:=(1+x % 1048576).toNat
theorem sc12_b (x:Int):1≤sc12 x∧sc12 x≤1048576:=by unfold sc12; omega
theorem N_big12:4194304<N256:=by decide
theorem low12 (c:Nat) (hc:c<4294967296) (k_1:Int) (hk:k_1=(c:Int)):loop (halberdlaw12_scalar.b0 k_1) BIG (0,List.replicate 32 0#8)=some (nb32 c):=by
 obtain ⟨t,h1,h2⟩:=loop_inv (body:=halberdlaw12_scalar.b0 k_1) (s0:=(0,List.replicate 32 0#8)) 4
  (fun i s=>s.1=(i:Int)∧s.2.length=32 ∧ ∀ j,j<32 → s.2[j]? = some (if 31 - j<i then BitVec.ofNat 8 (c / 2 ^ (8 * (31 - j))) else 0#8)) (fun t=>t=nb32 c) (by decide)
  ⟨rfl,by simp,fun j hj=>by
   rw [if_neg (by omega)]
   rw [List.getElem?_replicate,if_pos hj]⟩
  (fun i s hi hI=>by
   obtain ⟨i',l⟩:=s
   obtain ⟨hi',hl,hv⟩:=hI
   dsimp only at hi' hl hv
   subst hi'
   have w1:w64 (8 * (i:Int))=((8 * i:Nat):Int):=by rw [w64_id (by omega) (by omega)]; omega
   have w2:w64 (31 - (i:Int))=((31 - i:Nat):Int):=by rw [w64_id (by omega) (by omega)]; omega
   have hby:BitVec.ofInt 8 (iop (· &&& ·) (shrI' k_1 ((8 * i:Nat):Int)) 255)=BitVec.ofNat 8 (c / 2 ^ (8 * i)):=by
    rw [hk,show iop (· &&& ·) (shrI' (c:Int) ((8 * i:Nat):Int)) 255=shrI' (c:Int) ((8 * i:Nat):Int) % 256 from and_mask12 _ 8 (by decide)]
    unfold shrI'
    rw [Int.toNat_natCast,show min (8 * i) 64=8 * i by omega]
    have e:((c:Int) / 2 ^ (8 * i))=((c / 2 ^ (8 * i):Nat):Int):=by rw [Int.natCast_ediv,Int.natCast_pow]; rfl
    rw [e]
    apply BitVec.eq_of_toNat_eq
    rw [BitVec.toNat_ofInt,BitVec.toNat_ofNat]
    generalize c / 2 ^ (8 * i)=z
    omega
   refine ⟨(((i+1:Nat):Int),l.set (31 - i) (BitVec.ofNat 8 (c / 2 ^ (8 * i)))),?_,rfl,by simpa using hl,fun j hj=>?_⟩
   ·unfold halberdlaw12_scalar.b0
    dsimp only
    rw [w1,w2]
    simp only [Int.toNat_natCast]
    refine if_i (by omega) (if_i (by omega) (if_i (by omega) (if_i (by omega) (ltt_i fun v hv=>ltt_i fun v2 hv2=>?_))))
    rw [hv2,hv,hby,w64_s (by omega)]
   ·dsimp only
    by_cases hj2:j=31 - i
    ·subst hj2
     rw [List.getElem?_set_self (by omega),if_pos (by omega),show 31 - (31 - i)=i by omega]
    ·rw [List.getElem?_set_ne (Ne.symm hj2),hv j hj]
     by_cases h3:31 - j<i
     ·rw [if_pos h3,if_pos (by omega)]
     ·rw [if_neg h3,if_neg (by omega)])
  (fun s hI=>by
   obtain ⟨i',l⟩:=s
   obtain ⟨hi',hl,hv⟩:=hI
   dsimp only at hi' hl hv
   subst hi'
   refine ⟨l,by unfold halberdlaw12_scalar.b0; exact if_n (by dsimp only; omega) rfl,?_⟩
   apply List.ext_getElem?
   intro j
   by_cases hj:j<32
   ·rw [hv j hj,nb32_get c j hj]
    by_cases h3:31 - j<4
    ·rw [if_pos h3]
    ·rw [if_neg h3,Nat.div_eq_of_lt]
     have:(2:Nat) ^ 32≤2 ^ (8 * (31 - j)):=Nat.pow_le_pow_right (by decide) (by omega)
     omega
   ·rw [List.getElem?_eq_none (by omega),List.getElem?_eq_none (by rw [nb32_len]; omega)])
 rw [h1,h2]
theorem scalar_eq (x:Int):halberdlaw12_scalar x=some (nb32 (sc12 x)):=by
 have hc:=sc12_b x
 have ek:w64 (1+iop (· &&& ·) x 1048575)=(sc12 x:Int):=by
  rw [show iop (· &&& ·) x 1048575=x % 1048576 from and_mask12 x 20 (by decide),w64_id (by omega) (by omega)]
  unfold sc12; omega
 unfold halberdlaw12_scalar
 exact ltt_i fun v hv=>bind_i (low12 (sc12 x) (by omega) v (by rw [hv,ek])) (if_i (nb32_len _) rfl)
theorem sc_is12 {c:Nat} (h0:0<c) (h1:c<N256):isSc (nb32 c)∧bnum (nb32 c)=c:=by
 have e:=bnum_nb32 c (by have:=md_N.lt; omega)
 exact ⟨⟨nb32_len c,by rw [e]; exact h1,by rw [e]; omega⟩,e⟩
theorem sc_of (x:Int):isSc (nb32 (sc12 x))∧bnum (nb32 (sc12 x))=sc12 x:=sc_is12 (by have:=sc12_b x; omega) (by have:=sc12_b x; have:=N_big12; omega)
theorem sc_ne (x:Int):sc12 x % N256 ≠ 0:=by
 have:=sc12_b x; have:=N_big12
 rw [Nat.mod_eq_of_lt (by omega)]; omega
theorem pub_of (x:Int) : ∃ q,sG (sc12 x)=some q∧halberdref9_Public (nb32 (sc12 x))=some (encQ q,0):=by
 obtain ⟨q,hq⟩:=sG_ne (sc_ne x)
 obtain ⟨h,e⟩:=sc_of x
 refine ⟨q,hq,?_⟩
 have:=rPublic_is _ h
 rw [e,hq] at this
 exact this
end Go.Kx
end

section
namespace Go.Kx
open Go Go.Proofs
open Go.Nt hiding n4
def cg (N a b:Nat):Prop:=a % N=b % N
theorem cg.add {N a a' b b':Nat} (h:cg N a a') (g:cg N b b'):cg N (a+b) (a'+b'):=by unfold cg at *; rw [Nat.add_mod,h,g, ← Nat.add_mod]
theorem cg.mul {N a a' b b':Nat} (h:cg N a a') (g:cg N b b'):cg N (a * b) (a' * b'):=by unfold cg at *; rw [Nat.mul_mod,h,g, ← Nat.mul_mod]
theorem cg.md {N a b:Nat} (h:cg N a b):cg N (a % N) b:=(Nat.mod_mod a N).trans h
theorem cg.rf {N a:Nat}:cg N a a:=rfl
theorem ver_gen {N m k s z r d:Nat} (hk:cg N (k ^ m * k) 1) (hs:cg N (s ^ m * s) 1) (es:s=(z % N+r * d % N) % N * (k ^ m % N) % N) :
  cg N (z % N * (s ^ m % N) % N+r * (s ^ m % N) % N * d) k:=by
 have c2:cg N s ((z+r * d) * k ^ m):=by
  have:cg N ((z % N+r * d % N) % N * (k ^ m % N) % N) ((z+r * d) * k ^ m):=((cg.rf.md.add cg.rf.md).md.mul cg.rf.md).md
  rwa [← es] at this
 generalize k ^ m=ki at *
 generalize s ^ m=si at *
 have c1:cg N (z % N * (si % N) % N+r * (si % N) % N * d) (z * si+r * si * d):=(cg.rf.md.mul cg.rf.md).md.add ((cg.rf.mul cg.rf.md).md.mul cg.rf)
 have c3:cg N (s * k) (z+r * d):=by
  have h1:=c2.mul (cg.rf (a:=k))
  have h2:cg N ((z+r * d) * (ki * k)) ((z+r * d) * 1):=cg.rf.mul hk
  rw [Nat.mul_assoc] at h1
  rw [Nat.mul_one] at h2
  exact Eq.trans h1 h2
 have e1:z * si+r * si * d=(z+r * d) * si:=by rw [Nat.add_mul,Nat.mul_right_comm r si d]
 have c4:cg N (s * k * si) ((z+r * d) * si):=c3.mul cg.rf
 have e2:s * k * si=(si * s) * k:=by rw [Nat.mul_comm (s * k),Nat.mul_assoc]
 have c5:cg N (si * s * k) (1 * k):=hs.mul cg.rf
 rw [Nat.one_mul] at c5
 rw [e1] at c1
 rw [e2] at c4
 exact Eq.trans c1 (Eq.trans c4.symm c5)
theorem inv_pow {x:Nat} (h:x % N256 ≠ 0):cg N256 (x ^ (N256 - 2) * x) 1:=by
 have hf:=fermat2 pr_N (x:=x) (fun c=>h (Nat.mod_eq_zero_of_dvd c))
 have e:N256 - 1=(N256 - 2)+1:=by decide
 rw [e,Nat.pow_succ] at hf
 unfold cg
 rw [hf]; rfl
theorem sigS_lt (d k z:Nat):sigS d k z<N256:=Nat.mod_lt _ N_pos
theorem sigR_lt (k:Nat):sigR k<N256:=Nat.mod_lt _ N_pos
theorem ver_sig {d k z:Nat} (hk:k % N256 ≠ 0) (hs:sigS d k z ≠ 0):verP d z (sigR k) (sigS d k z)=sG k:=by
 unfold verP
 have h:=ver_gen (N:=N256) (m:=N256 - 2) (k:=k) (s:=sigS d k z) (z:=z) (r:=sigR k) (d:=d) (inv_pow hk) (inv_pow (by rw [Nat.mod_eq_of_lt (sigS_lt _ _ _)]; exact hs)) rfl
 rw [sG_mod,h, ← sG_mod]
theorem verR_sig {k:Nat} (hk:k % N256 ≠ 0):verR (sigR k) (sG k)=0:=by
 obtain ⟨q,hq⟩:=sG_ne hk
 unfold sigR
 rw [hq]
 exact if_pos rfl
theorem sig_is {d k z:Nat} (hr:sigR k ≠ 0) (hs:sigS d k z ≠ 0):isSg (SG (sigR k) (sigS d k z)) (sigR k) (sigS d k z):=⟨by omega,sigR_lt k,by omega,sigS_lt _ _ _,rfl⟩
theorem SG_short (r s:Nat):(SG r s).length<4611686018427387904:=by
 have:=SG_parts r s
 have h:=SG_len r s
 rw [List.length_append] at h
 omega
theorem Verify_own {d k:Nat} (digest:Str) {q:Fp × Fp} (hd:digest.length=32) (hq:sG d=some q) (hk:k % N256 ≠ 0) (hr:sigR k ≠ 0) (hs:sigS d k (bnum digest) ≠ 0) :
  ecdsa_Verify (encQ q) digest (SG (sigR k) (sigS d k (bnum digest)))=some 0:=by
 rw [Verify_is digest _ (SG_short _ _) (sig_is hr hs) hd hq,ver_sig hk hs,verR_sig hk]
theorem sg_cases (d k z:Nat):signRes d k z=([],1201) ∨ (sigR k ≠ 0∧sigS d k z ≠ 0∧signRes d k z=(SG (sigR k) (sigS d k z),0)):=by
 unfold signRes
 by_cases h1:sigR k=0
 ·exact .inl (sgn_0 (.inl h1))
 by_cases h2:sigS d k z=0
 ·exact .inl (sgn_0 (.inr h2))
 ·exact .inr ⟨h1,h2,sgn_1 h1 h2⟩
theorem Sign_sc (x y:Int) (digest:Str) (hd:digest.length=32):ecdsa_Sign (nb32 (sc12 x)) (nb32 (sc12 y)) digest=some (signRes (sc12 x) (sc12 y) (bnum digest)):=by
 obtain ⟨h1,e1⟩:=sc_of x
 obtain ⟨h2,e2⟩:=sc_of y
 rw [Sign_is _ _ _ h1 h2 hd,e1,e2]
end Go.Kx
end

section
namespace Go.Proofs
open Go Go.Kx
def halberdlaw12_awake:Option (Bool) :=
 (halberdref1_Hash 256 ([109#8]:Str)).bind fun (r_1:Str)=>((halberdlaw12_scalar 5).bind fun (r_2:Str)=>((halberdref9_Public r_2).bind fun (r_3:Str × Int)=>((halberdlaw12_scalar 5).bind fun (r_4:Str)=>((halberdlaw12_scalar 9).bind fun (r_5:Str)=>((ecdsa_Sign r_4 r_5 r_1).bind fun (r_6:Str × Int)=>((ecdsa_Verify r_3.1 r_1 r_6.1).bind fun (r_7:Int)=>((halberdref1_Hash 256 ([111#8]:Str)).bind fun (r_8:Str)=>((ecdsa_Verify r_3.1 r_8 r_6.1).bind fun (r_9:Int)=>((ecdsa_Verify r_3.1 r_1 ([]:Str)).bind fun (r_10:Int)=>((ecdsa_Sign ([]:Str) ([]:Str) r_1).bind fun (r_11:Str × Int)=>(if 8<((r_6.1).length:Int) then ((halberdlaw0_Num r_6.2).bind fun (r_12:Int)=>(if r_12=0 then ((halberdlaw0_Num r_7).bind fun (r_13:Int)=>(if r_13=0 then ((halberdlaw0_Num r_9).bind fun (r_14:Int)=>(if r_14=1201 then ((halberdlaw0_Num r_10).bind fun (r_15:Int)=>(if r_15=1200 then ((halberdlaw0_Num r_11.2).bind fun (r_16:Int)=>(ltt (decide (r_16=1200)) fun (x1:Bool)=>(some x1))) else (some false))) else (some false))) else (some false))) else (some false))) else (some false))))))))))))
set_option maxHeartbeats 4000000 in
set_option maxRecDepth 20000 in
theorem F29_calls (r:Bool) (H:halberdlaw12_awake=some r) :
  Does Try.prog 29 [] [] [] (Γ:=Unit) (fun g=>vb r) (fun g=>[]):=by
 intro w hmem hro hd
 refine calls_of (N:=68) (m0:=[]) Try.func29 rfl Try.ntmps29 (argM_ok []) rfl hmem hro hd ?_
 unfold halberdlaw12_awake at H
 refine TC_seq (TC_region (TLv (V_assign rfl) ?_))
 refine TL_nil (TX_next (TC_seq (TC_region ?_)))
 obtain ⟨r_1,hr_1,H⟩:=bind_elim H
 refine TLe (E_c0 (F31_calls 256 ([109#8]:Str) r_1 hr_1) Try.call31 .z) (fun g_1=>?_)
 refine TLv (V_assign rfl) ?_
 refine TL_nil (TX_next (TC_seq (TC_region ?_)))
 obtain ⟨r_2,hr_2,H⟩:=bind_elim H
 refine TLe (E_c0 (F30_calls 5 r_2 hr_2) Try.call30 .z) (fun g_2=>?_)
 obtain ⟨r_3,hr_3,H⟩:=bind_elim H
 refine TLe (E_c0 (F14_calls r_2 r_3 hr_3) Try.call14 .z) (fun g_3=>?_)
 refine TLv (V_move rfl) ?_
 refine TLv V_ex ?_
 refine TLv V_ex ?_
 refine TLv (V_assign rfl) ?_
 refine TLv (V_assign rfl) ?_
 refine TL_nil (TX_next (TC_seq (TC_region ?_)))
 obtain ⟨r_4,hr_4,H⟩:=bind_elim H
 refine TLe (E_c0 (F30_calls 5 r_4 hr_4) Try.call30 .z) (fun g_4=>?_)
 obtain ⟨r_5,hr_5,H⟩:=bind_elim H
 refine TLe (E_c0 (F30_calls 9 r_5 hr_5) Try.call30 .z) (fun g_5=>?_)
 refine TLv (V_move rfl) ?_
 obtain ⟨r_6,hr_6,H⟩:=bind_elim H
 refine TLe (E_c0 (F25_calls r_4 r_5 r_1 r_6 hr_6) Try.call25 .z) (fun g_6=>?_)
 refine TLv (V_move rfl) ?_
 refine TLv V_ex ?_
 refine TLv V_ex ?_
 refine TLv (V_assign rfl) ?_
 refine TLv (V_assign rfl) ?_
 refine TL_nil (TX_next (TC_seq (TC_region (TLv (V_move rfl) ?_))))
 refine TLv (V_move rfl) ?_
 refine TLv (V_move rfl) ?_
 obtain ⟨r_7,hr_7,H⟩:=bind_elim H
 refine TLe (E_c0 (F27_calls r_3.1 r_1 r_6.1 r_7 hr_7) Try.call27 .z) (fun g_7=>?_)
 refine TLv (V_assign rfl) ?_
 refine TL_nil (TX_next (TC_seq (TC_region (TLv (V_move rfl) ?_))))
 obtain ⟨r_8,hr_8,H⟩:=bind_elim H
 refine TLe (E_c0 (F31_calls 256 ([111#8]:Str) r_8 hr_8) Try.call31 .z) (fun g_8=>?_)
 refine TLv (V_move rfl) ?_
 obtain ⟨r_9,hr_9,H⟩:=bind_elim H
 refine TLe (E_c0 (F27_calls r_3.1 r_8 r_6.1 r_9 hr_9) Try.call27 .z) (fun g_9=>?_)
 refine TLv (V_assign rfl) ?_
 refine TL_nil (TX_next (TC_seq (TC_region (TLv (V_move rfl) ?_))))
 refine TLv (V_move rfl) ?_
 obtain ⟨r_10,hr_10,H⟩:=bind_elim H
 refine TLe (E_c0 (F27_calls r_3.1 r_1 ([]:Str) r_10 hr_10) Try.call27 .z) (fun g_10=>?_)
 refine TLv (V_assign rfl) ?_
 refine TL_nil (TX_next (TC.sub (m':=[(1,vs r_1),(4,vs r_6.1),(5,vi r_6.2),(6,vi r_7),(7,vi r_9),(8,vi r_10)]) ⟨rfl,rfl,rfl,rfl,rfl,rfl,trivial⟩ ?_))
 refine TC.pull (is:=[]) (L':=[]) rfl ?_
 refine TC_seq (TC_region (TLv (V_move rfl) ?_))
 obtain ⟨r_11,hr_11,H⟩:=bind_elim H
 refine TLe (E_c0 (F25_calls ([]:Str) ([]:Str) r_1 r_11 hr_11) Try.call25 .z) (fun g_11=>?_)
 refine TLv (V_move rfl) ?_
 refine TLv V_ex ?_
 refine TLv V_ex ?_
 refine TLv (V_assign rfl) ?_
 refine TLv (V_assign rfl) ?_
 refine TL_nil (TX_next (TC_seq (TC_region (TLv (V_move rfl) ?_))))
 refine TLv (V_len_str rfl Try.underlying9) ?_
 refine TLv (V_bin rfl rfl (fun w=>gtrI w ((r_6.1).length:Int) 8)) ?_
 refine TLv (V_move rfl) ?_
 refine TL_fork (d:=43) (b:=(decide (8<((r_6.1).length:Int)))) rfl (fun hc=>?_) (fun hc=>?_)
 ·replace H:=ite_t (of_decide_eq_true hc) H
  refine TL_want rfl rfl rfl rfl rfl rfl (V_move rfl) ?_
  obtain ⟨r_12,hr_12,H⟩:=bind_elim H
  refine TL_wantE rfl rfl rfl rfl rfl rfl (E_c0 (F20_calls r_6.2 r_12 hr_12) Try.call20 .z) (fun g_12=>?_)
  refine TL_want rfl rfl rfl rfl rfl rfl (V_bin rfl rfl (fun w=>eqlI w r_12 0)) ?_
  refine TLv (V_pick (b:=true) rfl rfl) ?_
  refine TLv (V_move rfl) ?_
  refine TL_fork (d:=48) (b:=(decide (r_12=0))) rfl (fun hc=>?_) (fun hc=>?_)
  ·replace H:=ite_t (of_decide_eq_true hc) H
   refine TL_want rfl rfl rfl rfl rfl rfl (V_move rfl) ?_
   obtain ⟨r_13,hr_13,H⟩:=bind_elim H
   refine TL_wantE rfl rfl rfl rfl rfl rfl (E_c0 (F20_calls r_7 r_13 hr_13) Try.call20 .z) (fun g_13=>?_)
   refine TL_want rfl rfl rfl rfl rfl rfl (V_bin rfl rfl (fun w=>eqlI w r_13 0)) ?_
   refine TLv (V_pick (b:=true) rfl rfl) ?_
   refine TLv (V_move rfl) ?_
   refine TL_fork (d:=53) (b:=(decide (r_13=0))) rfl (fun hc=>?_) (fun hc=>?_)
   ·replace H:=ite_t (of_decide_eq_true hc) H
    refine TL_want rfl rfl rfl rfl rfl rfl (V_move rfl) ?_
    obtain ⟨r_14,hr_14,H⟩:=bind_elim H
    refine TL_wantE rfl rfl rfl rfl rfl rfl (E_c0 (F20_calls r_9 r_14 hr_14) Try.call20 .z) (fun g_14=>?_)
    refine TL_want rfl rfl rfl rfl rfl rfl (V_bin rfl rfl (fun w=>eqlI w r_14 1201)) ?_
    refine TLv (V_pick (b:=true) rfl rfl) ?_
    refine TLv (V_move rfl) ?_
    refine TL_fork (d:=58) (b:=(decide (r_14=1201))) rfl (fun hc=>?_) (fun hc=>?_)
    ·replace H:=ite_t (of_decide_eq_true hc) H
     refine TL_want rfl rfl rfl rfl rfl rfl (V_move rfl) ?_
     obtain ⟨r_15,hr_15,H⟩:=bind_elim H
     refine TL_wantE rfl rfl rfl rfl rfl rfl (E_c0 (F20_calls r_10 r_15 hr_15) Try.call20 .z) (fun g_15=>?_)
     refine TL_want rfl rfl rfl rfl rfl rfl (V_bin rfl rfl (fun w=>eqlI w r_15 1200)) ?_
     refine TLv (V_pick (b:=true) rfl rfl) ?_
     refine TLv (V_move rfl) ?_
     refine TL_fork (d:=63) (b:=(decide (r_15=1200))) rfl (fun hc=>?_) (fun hc=>?_)
     ·replace H:=ite_t (of_decide_eq_true hc) H
      refine TL_want rfl rfl rfl rfl rfl rfl (V_move rfl) ?_
      obtain ⟨r_16,hr_16,H⟩:=bind_elim H
      refine TL_wantE rfl rfl rfl rfl rfl rfl (E_c0 (F20_calls r_11.2 r_16 hr_16) Try.call20 .z) (fun g_16=>?_)
      refine TL_want rfl rfl rfl rfl rfl rfl (V_bin rfl rfl (fun w=>eqlI w r_16 1200)) ?_
      refine TLv (V_pick (b:=true) rfl rfl) ?_
      refine TLv (V_assign rfl) ?_
      obtain ⟨x1,hx1,H⟩:=ltt_elim H
      refine TL_re (d:=0) (v:=vb (decide (r_16=1200))) (v':=vb x1) rfl (congrArg vb hx1) ?_
      refine TL_nil (TX_next (TC.sub (m':=[(0,vb x1)]) ⟨rfl,trivial⟩ ?_))
      refine TC.pull (is:=[]) (L':=[]) rfl ?_
      refine TC_ret ?_
      have hrv:=Option.some.inj H
      subst hrv
      exact TX_ret (rs:=[.tmp 0]) (vs:=[vb x1]) rfl ⟨rfl,trivial⟩ (fun w' hs'=>⟨(),rfl,Step.left (Step.pulled (is:=[]) (A:=[]) hs' rfl)⟩)
     ·replace H:=ite_f (of_decide_eq_false hc) H
      refine TL_skip rfl rfl rfl rfl rfl rfl rfl ?_
      refine TL_skip rfl rfl rfl rfl rfl rfl rfl ?_
      refine TL_skip rfl rfl rfl rfl rfl rfl rfl ?_
      refine TLv (V_pick (b:=false) rfl rfl) ?_
      refine TLv (V_assign rfl) ?_
      refine TL_nil (TX_next (TC.sub (m':=[(0,vb false)]) ⟨rfl,trivial⟩ ?_))
      refine TC.pull (is:=[]) (L':=[]) rfl ?_
      refine TC_ret ?_
      have hrv:=Option.some.inj H
      subst hrv
      exact TX_ret (rs:=[.tmp 0]) (vs:=[vb false]) rfl ⟨rfl,trivial⟩ (fun w' hs'=>⟨(),rfl,Step.left (Step.pulled (is:=[]) (A:=[]) hs' rfl)⟩)
    ·replace H:=ite_f (of_decide_eq_false hc) H
     refine TL_skip rfl rfl rfl rfl rfl rfl rfl ?_
     refine TL_skip rfl rfl rfl rfl rfl rfl rfl ?_
     refine TL_skip rfl rfl rfl rfl rfl rfl rfl ?_
     refine TLv (V_pick (b:=false) rfl rfl) ?_
     refine TLv (V_move rfl) ?_
     refine TL_skip rfl rfl rfl rfl rfl rfl rfl ?_
     refine TL_skip rfl rfl rfl rfl rfl rfl rfl ?_
     refine TL_skip rfl rfl rfl rfl rfl rfl rfl ?_
     refine TLv (V_pick (b:=false) rfl rfl) ?_
     refine TLv (V_assign rfl) ?_
     refine TL_nil (TX_next (TC.sub (m':=[(0,vb false)]) ⟨rfl,trivial⟩ ?_))
     refine TC.pull (is:=[]) (L':=[]) rfl ?_
     refine TC_ret ?_
     have hrv:=Option.some.inj H
     subst hrv
     exact TX_ret (rs:=[.tmp 0]) (vs:=[vb false]) rfl ⟨rfl,trivial⟩ (fun w' hs'=>⟨(),rfl,Step.left (Step.pulled (is:=[]) (A:=[]) hs' rfl)⟩)
   ·replace H:=ite_f (of_decide_eq_false hc) H
    refine TL_skip rfl rfl rfl rfl rfl rfl rfl ?_
    refine TL_skip rfl rfl rfl rfl rfl rfl rfl ?_
    refine TL_skip rfl rfl rfl rfl rfl rfl rfl ?_
    refine TLv (V_pick (b:=false) rfl rfl) ?_
    refine TLv (V_move rfl) ?_
    refine TL_skip rfl rfl rfl rfl rfl rfl rfl ?_
    refine TL_skip rfl rfl rfl rfl rfl rfl rfl ?_
    refine TL_skip rfl rfl rfl rfl rfl rfl rfl ?_
    refine TLv (V_pick (b:=false) rfl rfl) ?_
    refine TLv (V_move rfl) ?_
    refine TL_skip rfl rfl rfl rfl rfl rfl rfl ?_
    refine TL_skip rfl rfl rfl rfl rfl rfl rfl ?_
    refine TL_skip rfl rfl rfl rfl rfl rfl rfl ?_
    refine TLv (V_pick (b:=false) rfl rfl) ?_
    refine TLv (V_assign rfl) ?_
    refine TL_nil (TX_next (TC.sub (m':=[(0,vb false)]) ⟨rfl,trivial⟩ ?_))
    refine TC.pull (is:=[]) (L':=[]) rfl ?_
    refine TC_ret ?_
    have hrv:=Option.some.inj H
    subst hrv
    exact TX_ret (rs:=[.tmp 0]) (vs:=[vb false]) rfl ⟨rfl,trivial⟩ (fun w' hs'=>⟨(),rfl,Step.left (Step.pulled (is:=[]) (A:=[]) hs' rfl)⟩)
  ·replace H:=ite_f (of_decide_eq_false hc) H
   refine TL_skip rfl rfl rfl rfl rfl rfl rfl ?_
   refine TL_skip rfl rfl rfl rfl rfl rfl rfl ?_
   refine TL_skip rfl rfl rfl rfl rfl rfl rfl ?_
   refine TLv (V_pick (b:=false) rfl rfl) ?_
   refine TLv (V_move rfl) ?_
   refine TL_skip rfl rfl rfl rfl rfl rfl rfl ?_
   refine TL_skip rfl rfl rfl rfl rfl rfl rfl ?_
   refine TL_skip rfl rfl rfl rfl rfl rfl rfl ?_
   refine TLv (V_pick (b:=false) rfl rfl) ?_
   refine TLv (V_move rfl) ?_
   refine TL_skip rfl rfl rfl rfl rfl rfl rfl ?_
   refine TL_skip rfl rfl rfl rfl rfl rfl rfl ?_
   refine TL_skip rfl rfl rfl rfl rfl rfl rfl ?_
   refine TLv (V_pick (b:=false) rfl rfl) ?_
   refine TLv (V_move rfl) ?_
   refine TL_skip rfl rfl rfl rfl rfl rfl rfl ?_
   refine TL_skip rfl rfl rfl rfl rfl rfl rfl ?_
   refine TL_skip rfl rfl rfl rfl rfl rfl rfl ?_
   refine TLv (V_pick (b:=false) rfl rfl) ?_
   refine TLv (V_assign rfl) ?_
   refine TL_nil (TX_next (TC.sub (m':=[(0,vb false)]) ⟨rfl,trivial⟩ ?_))
   refine TC.pull (is:=[]) (L':=[]) rfl ?_
   refine TC_ret ?_
   have hrv:=Option.some.inj H
   subst hrv
   exact TX_ret (rs:=[.tmp 0]) (vs:=[vb false]) rfl ⟨rfl,trivial⟩ (fun w' hs'=>⟨(),rfl,Step.left (Step.pulled (is:=[]) (A:=[]) hs' rfl)⟩)
 ·replace H:=ite_f (of_decide_eq_false hc) H
  refine TL_skip rfl rfl rfl rfl rfl rfl rfl ?_
  refine TL_skip rfl rfl rfl rfl rfl rfl rfl ?_
  refine TL_skip rfl rfl rfl rfl rfl rfl rfl ?_
  refine TLv (V_pick (b:=false) rfl rfl) ?_
  refine TLv (V_move rfl) ?_
  refine TL_skip rfl rfl rfl rfl rfl rfl rfl ?_
  refine TL_skip rfl rfl rfl rfl rfl rfl rfl ?_
  refine TL_skip rfl rfl rfl rfl rfl rfl rfl ?_
  refine TLv (V_pick (b:=false) rfl rfl) ?_
  refine TLv (V_move rfl) ?_
  refine TL_skip rfl rfl rfl rfl rfl rfl rfl ?_
  refine TL_skip rfl rfl rfl rfl rfl rfl rfl ?_
  refine TL_skip rfl rfl rfl rfl rfl rfl rfl ?_
  refine TLv (V_pick (b:=false) rfl rfl) ?_
  refine TLv (V_move rfl) ?_
  refine TL_skip rfl rfl rfl rfl rfl rfl rfl ?_
  refine TL_skip rfl rfl rfl rfl rfl rfl rfl ?_
  refine TL_skip rfl rfl rfl rfl rfl rfl rfl ?_
  refine TLv (V_pick (b:=false) rfl rfl) ?_
  refine TLv (V_move rfl) ?_
  refine TL_skip rfl rfl rfl rfl rfl rfl rfl ?_
  refine TL_skip rfl rfl rfl rfl rfl rfl rfl ?_
  refine TL_skip rfl rfl rfl rfl rfl rfl rfl ?_
  refine TLv (V_pick (b:=false) rfl rfl) ?_
  refine TLv (V_assign rfl) ?_
  refine TL_nil (TX_next (TC.sub (m':=[(0,vb false)]) ⟨rfl,trivial⟩ ?_))
  refine TC.pull (is:=[]) (L':=[]) rfl ?_
  refine TC_ret ?_
  have hrv:=Option.some.inj H
  subst hrv
  exact TX_ret (rs:=[.tmp 0]) (vs:=[vb false]) rfl ⟨rfl,trivial⟩ (fun w' hs'=>⟨(),rfl,Step.left (Step.pulled (is:=[]) (A:=[]) hs' rfl)⟩)
end Go.Proofs
end

section
namespace Go.Kx
open Go Go.Proofs
open Go.Nt hiding n4
theorem can_l {l a b:Fp} (hl:l ≠ 0) (h:a * (l * 1)=l * b):a=b:=by
 have h0:l * (a - b)=0:=by grind
 rcases F_mul0 h0 with h1 | h1
 ·exact absurd h1 hl
 ·grind
theorem x_of (k X:Nat) (hX:X<P256) (hk:k<2 ^ 256) (h1:(X:Int) * ((mulN 256 (GX,GY,1) k).2.2:Int) % (P256:Int)=((mulN 256 (GX,GY,1) k).1:Int) % (P256:Int)) (h0:((mulN 256 (GX,GY,1) k).2.2:Int) % (P256:Int) ≠ 0) : ∃ q,sG k=some q∧toN q.1=X:=by
 have h:=mulN_is 256 (GX,GY,1) 1 k (Is_rep gP) hk
 rw [Nat.one_mul] at h
 generalize mulN 256 (GX,GY,1) k=t at *
 obtain ⟨l,hl,ht⟩:=h
 have hz:mk (t.2.2:Int) ≠ 0:=fun c=>h0 (by
  have:eqm (t.2.2:Int) 0:=mk_eq.1 c
  exact this)
 cases hp:sG k with
 | none =>
  rw [hp] at ht
  refine absurd ?_ hz
  have:mk (t.2.2:Int)=l * 0:=congrArg (fun x=>x.2.2) ht
  rw [this]; grind
 | some q =>
  rw [hp] at ht
  refine ⟨q,rfl,?_⟩
  have ex:mk (t.1:Int)=l * q.1:=congrArg (fun x=>x.1) ht
  have ez:mk (t.2.2:Int)=l * 1:=congrArg (fun x=>x.2.2) ht
  have hm:mk (X:Int) * mk (t.2.2:Int)=mk (t.1:Int):=by
   rw [mk_mul]; exact mk_eq.2 h1
  have:mk (X:Int)=q.1:=by
   rw [ex,ez] at hm
   exact can_l hl hm
  rw [← this,toN_id hX]
def dM:Str:=[98#8,198#8,106#8,122#8,93#8,215#8,12#8,49#8,70#8,97#8,128#8,99#8,195#8,68#8,229#8,49#8,230#8,212#8,181#8,158#8,55#8,152#8,8#8,68#8,60#8,233#8,98#8,179#8,171#8,214#8,60#8,90#8]
def dO:Str:=[101#8,199#8,76#8,21#8,166#8,134#8,24#8,123#8,182#8,187#8,249#8,149#8,143#8,73#8,79#8,198#8,184#8,0#8,104#8,3#8,74#8,101#8,154#8,154#8,212#8,73#8,145#8,176#8,140#8,88#8,242#8,210#8]
theorem hash_m:halberdref1_Hash 256 [109#8]=some dM:=by kernel_rfl
theorem hash_o:halberdref1_Hash 256 [111#8]=some dO:=by kernel_rfl
def zM:Nat:=44677229764094987937674866763060948415978906225313850802945701531595163712602
def zO:Nat:=46035725389219043963032057611081995832299103232747348342053558695288603472594
theorem zM_eq:bnum dM=zM:=by decide +kernel
theorem zO_eq:bnum dO=zO:=by decide +kernel
def R10:Nat:=93611846365601674425599200647886473617443872040541410036779615417472400060991
def S10:Nat:=37476412953699253696587517675156464306064822802029079033877887591429253998981
def T10:Nat:=104467389517679265388924186360115398101745199751445721886099154899586117162128
def X10:Nat:=115207946988643141802392705522477034474295258353439076603193223990674970869602
theorem x10 : ∃ q,sG 10=some q∧toN q.1=R10:=x_of 10 R10 (by decide +kernel) (by decide +kernel) (by decide +kernel) (by decide +kernel)
theorem xT : ∃ q,sG T10=some q∧toN q.1=X10:=x_of T10 X10 (by decide +kernel) (by decide +kernel) (by decide +kernel) (by decide +kernel)
theorem r10:sigR 10=R10:=by
 obtain ⟨q,h,e⟩:=x10
 unfold sigR
 rw [h]
 show toN q.1 % N256=R10
 rw [e]; decide +kernel
theorem pow_N (x:Nat):x ^ (N256 - 2) % N256=powm N256 256 x (N256 - 2):=(powm_eq N256 256 x (N256 - 2) (by decide +kernel)).symm
theorem sigS_p (d k z:Nat):sigS d k z=(z % N256+sigR k * d % N256) % N256 * powm N256 256 k (N256 - 2) % N256:=by
 unfold sigS
 rw [pow_N]
theorem verP_p (a z r s:Nat):verP a z r s=sG ((z % N256 * powm N256 256 s (N256 - 2) % N256+r * powm N256 256 s (N256 - 2) % N256 * a) % N256):=by
 unfold verP
 rw [pow_N, ← sG_mod]
theorem s10:sigS 6 10 zM=S10:=by
 rw [sigS_p,r10]
 decide +kernel
theorem t10:(zO % N256 * (powm N256 256 S10 (N256 - 2)) % N256+R10 * (powm N256 256 S10 (N256 - 2)) % N256 * 6) % N256=T10:=by decide +kernel
theorem v10:verR R10 (verP 6 zO R10 S10)=1201:=by
 obtain ⟨q,h,e⟩:=xT
 rw [verP_p,t10,h]
 show (if toN q.1 % N256=R10 then (0:Int) else 1201)=1201
 rw [e]
 exact if_neg (by decide +kernel)
theorem awake12:halberdlaw12_awake=some true:=by
 have s5:halberdlaw12_scalar 5=some (nb32 6):=scalar_eq 5
 have s9:halberdlaw12_scalar 9=some (nb32 10):=scalar_eq 9
 obtain ⟨q,hq,hp⟩:=pub_of 5
 have hq:sG 6=some q:=hq
 have hp:halberdref9_Public (nb32 6)=some (encQ q,0):=hp
 have dm:dM.length=32:=rfl
 have dp:dO.length=32:=rfl
 have r0:R10 ≠ 0:=by decide +kernel
 have s0:S10 ≠ 0:=by decide +kernel
 have hs:ecdsa_Sign (nb32 6) (nb32 10) dM=some (SG R10 S10,0):=by
  have h:ecdsa_Sign (nb32 6) (nb32 10) dM=some (signRes 6 10 (bnum dM)):=Sign_sc 5 9 dM dm
  rw [h,zM_eq]
  unfold signRes
  rw [r10,s10,sgn_1 r0 s0]
 have hk:10 % N256 ≠ 0:=sc_ne 9
 have hv:ecdsa_Verify (encQ q) dM (SG R10 S10)=some 0:=by
  have h:=Verify_own (d:=6) (k:=10) dM dm hq hk (by rw [r10]; exact r0) (by rw [zM_eq,s10]; exact s0)
  rw [zM_eq,s10,r10] at h
  exact h
 have hg:isSg (SG R10 S10) R10 S10:=by
  have h:=sig_is (d:=6) (k:=10) (z:=zM) (by rw [r10]; exact r0) (by rw [s10]; exact s0)
  rw [s10,r10] at h
  exact h
 have hw:ecdsa_Verify (encQ q) dO (SG R10 S10)=some 1201:=by
  rw [Verify_is dO _ (SG_short _ _) hg dp hq,zO_eq,v10]
 have hn:ecdsa_Verify (encQ q) dM []=some 1200:=Verify_no _ _ _ (by decide) (fun h=>by
  obtain ⟨⟨r,s,h⟩, -⟩:=h
  have h2:=(SG_parts r s).1
  rw [← h.2.2.2.2] at h2
  exact absurd h2 (by decide))
 have he:ecdsa_Sign [] [] dM=some ([],1200):=Sign_no _ _ _ (fun h=>absurd h.1.1 (by decide))
 have hl:8<((SG R10 S10).length:Int):=by
  have h:=SG_parts R10 S10
  have h1:4≤(DI R10).length:=by
   have:=SG_stands R10 S10 ⟨by omega,hg.2.1⟩ ⟨by omega,hg.2.2.2.1⟩
   decide +kernel
  have h2:4≤(DI S10).length:=by decide +kernel
  omega
 unfold halberdlaw12_awake
 refine bind_i hash_m (bind_i s5 (bind_i hp (bind_i s5 (bind_i s9 (bind_i hs (bind_i hv (bind_i hash_o (bind_i hw (bind_i hn (bind_i he (if_i hl ?_)))))))))))
 exact bind_i (num12 _) (if_i rfl (bind_i (num12 _) (if_i rfl (bind_i (num12 _) (if_i rfl (bind_i (num12 _) (if_i rfl (bind_i (num12 _) rfl))))))))
end Go.Kx
end

section
namespace Go.Proofs
open Go Go.Kx
def halberdlaw12_EcdsaTwins (x:Int) (k:Int) (a_:Str) (b:Str):Option (Bool) :=
 (halberdlaw12_awake).bind fun (r_1:Bool)=>(if (!r_1)=true then (some false) else ((halberdlaw12_scalar x).bind fun (r_2:Str)=>((halberdref9_Public r_2).bind fun (r_3:Str × Int)=>((halberdref1_Hash 256 a_).bind fun (r_4:Str)=>((halberdref1_Hash 256 b).bind fun (r_5:Str)=>((halberdlaw12_scalar x).bind fun (r_6:Str)=>((halberdlaw12_scalar k).bind fun (r_7:Str)=>((ecdsa_Sign r_6 r_7 r_4).bind fun (r_8:Str × Int)=>((halberdlaw12_scalar x).bind fun (r_9:Str)=>((halberdlaw12_scalar k).bind fun (r_10:Str)=>((ecdsa_Sign r_9 r_10 r_4).bind fun (r_11:Str × Int)=>((halberdlaw12_scalar x).bind fun (r_12:Str)=>((halberdlaw12_scalar k).bind fun (r_13:Str)=>((ecdsa_Sign r_12 r_13 r_5).bind fun (r_14:Str × Int)=>((halberdlaw0_Num r_8.2).bind fun (r_15:Int)=>((if r_15 ≠ 0 then (some true) else ((halberdlaw0_Num r_14.2).bind fun (r_24:Int)=>(if r_24 ≠ 0 then (some true) else (if ((r_8.1).length:Int)<8 then (some true) else (some (decide (((r_14.1).length:Int)<8))))))).bind fun (j1:Bool)=>(if j1=true then ((halberdlaw0_Num r_8.2).bind fun (r_16:Int)=>((if r_16=1201 then (some true) else ((halberdlaw0_Num r_14.2).bind fun (r_17:Int)=>(ltt (decide (r_17=1201)) fun (x1:Bool)=>(some x1)))).bind fun (j2:Bool)=>(some j2))) else (if 0≤(3:Int)∧(3:Int)<((r_8.1).length:Int) then (ltt (w64 (4+((sg r_8.1 3).toNat:Int))) fun (r_18:Int)=>((if ((r_8.1).length:Int)<r_18 then (some true) else (some (decide (((r_14.1).length:Int)<r_18)))).bind fun (j3:Bool)=>(if j3=true then (some false) else ((ecdsa_Verify r_3.1 r_4 r_8.1).bind fun (r_19:Int)=>((ecdsa_Verify r_3.1 r_5 r_14.1).bind fun (r_20:Int)=>(if r_8.1=r_11.1 then ((halberdlaw0_Num r_11.2).bind fun (r_21:Int)=>(if r_21=0 then (if 0≤r_18 then (if (r_18).toNat≤(r_8.1).length then (if 2≤(r_18).toNat then (if 0≤r_18 then (if (r_18).toNat≤(r_14.1).length then (if 2≤(r_18).toNat then (if sub r_8.1 2 ((r_18).toNat)=sub r_14.1 2 ((r_18).toNat) then ((halberdlaw0_Num r_19).bind fun (r_22:Int)=>(if r_22=0 then ((halberdlaw0_Num r_20).bind fun (r_23:Int)=>(ltt (decide (r_23=0)) fun (x2:Bool)=>(some x2))) else (some false))) else (some false)) else none) else none) else none) else none) else none) else none) else (some false))) else (some false))))))) else none))))))))))))))))))
set_option maxHeartbeats 4000000 in
set_option maxRecDepth 20000 in
theorem F12_calls (x:Int) (k:Int) (a_:Str) (b:Str) (r:Bool) (H:halberdlaw12_EcdsaTwins x k a_ b=some r) :
  Does Try.prog 12 [vi x,vi k,vs a_,vs b] [] [] (Γ:=Unit) (fun g=>vb r) (fun g=>[]):=by
 intro w hmem hro hd
 refine calls_of (N:=136) (m0:=[(0,vi x),(1,vi k),(2,vs a_),(3,vs b)]) Try.func12 rfl Try.ntmps12 (argM_ok [vi x,vi k,vs a_,vs b]) rfl hmem hro hd ?_
 unfold halberdlaw12_EcdsaTwins at H
 refine TC_seq (TC_region (TLv (V_assign rfl) ?_))
 refine TL_nil (TX_next (TC_seq (TC_seq (TC_region ?_))))
 obtain ⟨r_1,hr_1,H⟩:=bind_elim H
 refine TLe (E_c0 (F29_calls r_1 hr_1) Try.call29 .z) (fun g_1=>?_)
 refine TLv (V_un rfl (fun w=>notB w r_1)) ?_
 refine TL_nil (TX_next (TC_cond (b:=(!r_1)) rfl (fun hc=>?_) (fun hc=>?_)))
 ·replace H:=ite_t hc H
  refine TC_seq (TC_region (TLv (V_assign rfl) ?_))
  refine TL_nil (TX_next (TC_ret (TX_then_ret ?_)))
  have hrv:=Option.some.inj H
  subst hrv
  exact TX_ret (rs:=[.tmp 8]) (vs:=[vb false]) rfl ⟨rfl,trivial⟩ (fun w' hs'=>⟨(),rfl,Step.left (Step.pulled (is:=[]) (A:=[]) hs' rfl)⟩)
 ·replace H:=ite_f (Bool.eq_false_iff.1 hc) H
  refine TC_skip (TX_next (TC_seq (TC_region (TLv (V_move rfl) ?_))))
  obtain ⟨r_2,hr_2,H⟩:=bind_elim H
  refine TLe (E_c0 (F30_calls x r_2 hr_2) Try.call30 .z) (fun g_2=>?_)
  obtain ⟨r_3,hr_3,H⟩:=bind_elim H
  refine TLe (E_c0 (F14_calls r_2 r_3 hr_3) Try.call14 .z) (fun g_3=>?_)
  refine TLv (V_move rfl) ?_
  refine TLv V_ex ?_
  refine TLv V_ex ?_
  refine TLv (V_assign rfl) ?_
  refine TLv (V_assign rfl) ?_
  refine TL_nil (TX_next (TC_seq (TC_region (TLv (V_move rfl) ?_))))
  obtain ⟨r_4,hr_4,H⟩:=bind_elim H
  refine TLe (E_c0 (F31_calls 256 a_ r_4 hr_4) Try.call31 .z) (fun g_4=>?_)
  refine TLv (V_move rfl) ?_
  obtain ⟨r_5,hr_5,H⟩:=bind_elim H
  refine TLe (E_c0 (F31_calls 256 b r_5 hr_5) Try.call31 .z) (fun g_5=>?_)
  refine TLv (V_assign rfl) ?_
  refine TLv (V_assign rfl) ?_
  refine TL_nil (TX_next (TC_seq (TC_region (TLv (V_move rfl) ?_))))
  obtain ⟨r_6,hr_6,H⟩:=bind_elim H
  refine TLe (E_c0 (F30_calls x r_6 hr_6) Try.call30 .z) (fun g_6=>?_)
  refine TLv (V_move rfl) ?_
  obtain ⟨r_7,hr_7,H⟩:=bind_elim H
  refine TLe (E_c0 (F30_calls k r_7 hr_7) Try.call30 .z) (fun g_7=>?_)
  refine TLv (V_move rfl) ?_
  obtain ⟨r_8,hr_8,H⟩:=bind_elim H
  refine TLe (E_c0 (F25_calls r_6 r_7 r_4 r_8 hr_8) Try.call25 .z) (fun g_8=>?_)
  refine TLv (V_move rfl) ?_
  refine TLv V_ex ?_
  refine TLv V_ex ?_
  refine TLv (V_assign rfl) ?_
  refine TLv (V_assign rfl) ?_
  refine TL_nil (TX_next (TC.sub (m':=[(0,vi x),(1,vi k),(9,vs r_3.1),(11,vs r_4),(12,vs r_5),(13,vs r_8.1),(14,vi r_8.2)]) ⟨rfl,rfl,rfl,rfl,rfl,rfl,rfl,trivial⟩ ?_))
  refine TC.pull (is:=[]) (L':=[]) rfl ?_
  refine TC_seq (TC_region (TLv (V_move rfl) ?_))
  obtain ⟨r_9,hr_9,H⟩:=bind_elim H
  refine TLe (E_c0 (F30_calls x r_9 hr_9) Try.call30 .z) (fun g_9=>?_)
  refine TLv (V_move rfl) ?_
  obtain ⟨r_10,hr_10,H⟩:=bind_elim H
  refine TLe (E_c0 (F30_calls k r_10 hr_10) Try.call30 .z) (fun g_10=>?_)
  refine TLv (V_move rfl) ?_
  obtain ⟨r_11,hr_11,H⟩:=bind_elim H
  refine TLe (E_c0 (F25_calls r_9 r_10 r_4 r_11 hr_11) Try.call25 .z) (fun g_11=>?_)
  refine TLv (V_move rfl) ?_
  refine TLv V_ex ?_
  refine TLv V_ex ?_
  refine TLv (V_assign rfl) ?_
  refine TLv (V_assign rfl) ?_
  refine TL_nil (TX_next (TC_seq (TC_region (TLv (V_move rfl) ?_))))
  obtain ⟨r_12,hr_12,H⟩:=bind_elim H
  refine TLe (E_c0 (F30_calls x r_12 hr_12) Try.call30 .z) (fun g_12=>?_)
  refine TLv (V_move rfl) ?_
  obtain ⟨r_13,hr_13,H⟩:=bind_elim H
  refine TLe (E_c0 (F30_calls k r_13 hr_13) Try.call30 .z) (fun g_13=>?_)
  refine TLv (V_move rfl) ?_
  obtain ⟨r_14,hr_14,H⟩:=bind_elim H
  refine TLe (E_c0 (F25_calls r_12 r_13 r_5 r_14 hr_14) Try.call25 .z) (fun g_14=>?_)
  refine TLv (V_move rfl) ?_
  refine TLv V_ex ?_
  refine TLv V_ex ?_
  refine TLv (V_assign rfl) ?_
  refine TLv (V_assign rfl) ?_
  refine TL_nil (TX_next (TC_seq (TC_seq (TC_region (TLv (V_move rfl) ?_)))))
  obtain ⟨r_15,hr_15,H⟩:=bind_elim H
  refine TLe (E_c0 (F20_calls r_8.2 r_15 hr_15) Try.call20 .z) (fun g_15=>?_)
  refine TLv (V_bin rfl rfl (fun w=>neqI w r_15 0)) ?_
  refine TLv (V_move rfl) ?_
  obtain ⟨j1,Hj,H⟩:=bind_elim H
  refine TL_join (Γ:=Unit) (fun gj1=>[(9,vs r_3.1),(11,vs r_4),(12,vs r_5),(13,vs r_8.1),(14,vi r_8.2),(15,vs r_11.1),(16,vi r_11.2),(17,vs r_14.1),(18,vi r_14.2),(78,vb j1)]) (fun gj1=>[]) ?_ ?_
  ·intro gj1
   refine TX_next (TC_cond (b:=j1) rfl (fun hc=>?_) (fun hc=>?_))
   ·replace H:=ite_t hc H
    refine TC_seq (TC_region (TLv (V_move rfl) ?_))
    obtain ⟨r_16,hr_16,H⟩:=bind_elim H
    refine TLe (E_c0 (F20_calls r_8.2 r_16 hr_16) Try.call20 .z) (fun g_16=>?_)
    refine TLv (V_bin rfl rfl (fun w=>eqlI w r_16 1201)) ?_
    refine TLv (V_move rfl) ?_
    obtain ⟨j2,Hj,H⟩:=bind_elim H
    refine TL_join (Γ:=Unit) (fun gj2=>[(8,vb j2)]) (fun gj2=>[]) ?_ ?_
    ·intro gj2
     refine TX_next (TC_ret (TX_then_ret ?_))
     have hrv:=Option.some.inj H
     subst hrv
     exact TX_ret (rs:=[.tmp 8]) (vs:=[vb j2]) rfl ⟨rfl,trivial⟩ (fun w' hs'=>⟨(),rfl,Step.left (Step.pulled (is:=[]) (A:=[]) hs' rfl)⟩)
    ·intro hJ
     replace H:=Hj
     refine TL_fork (d:=82) (b:=(decide (r_16=1201))) rfl (fun hc=>?_) (fun hc=>?_)
     ·replace H:=ite_t (of_decide_eq_true hc) H
      refine TL_skip rfl rfl rfl rfl rfl rfl rfl ?_
      refine TL_skip rfl rfl rfl rfl rfl rfl rfl ?_
      refine TL_skip rfl rfl rfl rfl rfl rfl rfl ?_
      refine TLv (V_pick (b:=true) rfl rfl) ?_
      refine TLv (V_assign rfl) ?_
      refine TL_nil (TX.sub (m':=[(8,vb true)]) ⟨rfl,trivial⟩ ?_)
      refine TX.pull (is:=[]) (L':=[]) rfl ?_
      obtain rfl:=Option.some.inj H
      exact hJ ()
     ·replace H:=ite_f (of_decide_eq_false hc) H
      refine TL_want rfl rfl rfl rfl rfl rfl (V_move rfl) ?_
      obtain ⟨r_17,hr_17,H⟩:=bind_elim H
      refine TL_wantE rfl rfl rfl rfl rfl rfl (E_c0 (F20_calls r_14.2 r_17 hr_17) Try.call20 .z) (fun g_17=>?_)
      refine TL_want rfl rfl rfl rfl rfl rfl (V_bin rfl rfl (fun w=>eqlI w r_17 1201)) ?_
      refine TLv (V_pick (b:=false) rfl rfl) ?_
      refine TLv (V_assign rfl) ?_
      obtain ⟨x1,hx1,H⟩:=ltt_elim H
      refine TL_re (d:=8) (v:=vb (decide (r_17=1201))) (v':=vb x1) rfl (congrArg vb hx1) ?_
      refine TL_nil (TX.sub (m':=[(8,vb x1)]) ⟨rfl,trivial⟩ ?_)
      refine TX.pull (is:=[]) (L':=[]) rfl ?_
      obtain rfl:=Option.some.inj H
      exact hJ ()
   ·replace H:=ite_f (Bool.eq_false_iff.1 hc) H
    refine TC_skip (TX_next (TC_seq (TC_region (TLv (V_move rfl) ?_))))
    obtain ⟨h1,H⟩:=if_elim H
    refine TLv (V_idxStr rfl rfl (i:=3) Try.underlying9 h1.1 h1.2) ?_
    refine TLv (V_conv rfl (fun w=>cv8toI w _ _ Try.underlying3 (TryI.und5) (sg r_8.1 3))) ?_
    refine TLv (V_bin rfl rfl (fun w=>addI w 4 ((sg r_8.1 3).toNat:Int))) ?_
    refine TLv (V_assign rfl) ?_
    obtain ⟨r_18,hr_18,H⟩:=ltt_elim H
    refine TL_re (d:=19) (v:=vi (w64 (4+((sg r_8.1 3).toNat:Int)))) (v':=vi r_18) rfl (congrArg vi hr_18) ?_
    refine TL_nil (TX_next (TC_seq (TC_seq (TC_region (TLv (V_move rfl) ?_)))))
    refine TLv (V_move rfl) ?_
    refine TLv (V_len_str rfl Try.underlying9) ?_
    refine TLv (V_bin rfl rfl (fun w=>gtrI w r_18 ((r_8.1).length:Int))) ?_
    refine TLv (V_move rfl) ?_
    obtain ⟨j3,Hj,H⟩:=bind_elim H
    refine TL_join (Γ:=Unit) (fun gj3=>[(9,vs r_3.1),(11,vs r_4),(12,vs r_5),(13,vs r_8.1),(15,vs r_11.1),(16,vi r_11.2),(17,vs r_14.1),(19,vi r_18),(100,vb j3)]) (fun gj3=>[]) ?_ ?_
    ·intro gj3
     refine TX_next (TC_cond (b:=j3) rfl (fun hc=>?_) (fun hc=>?_))
     ·replace H:=ite_t hc H
      refine TC_seq (TC_region (TLv (V_assign rfl) ?_))
      refine TL_nil (TX_next (TC_ret (TX_then_ret ?_)))
      have hrv:=Option.some.inj H
      subst hrv
      exact TX_ret (rs:=[.tmp 8]) (vs:=[vb false]) rfl ⟨rfl,trivial⟩ (fun w' hs'=>⟨(),rfl,Step.left (Step.pulled (is:=[]) (A:=[]) hs' rfl)⟩)
     ·replace H:=ite_f (Bool.eq_false_iff.1 hc) H
      refine TC_skip (TX_next (TC_seq (TC_region (TLv (V_move rfl) ?_))))
      refine TLv (V_move rfl) ?_
      refine TLv (V_move rfl) ?_
      obtain ⟨r_19,hr_19,H⟩:=bind_elim H
      refine TLe (E_c0 (F27_calls r_3.1 r_4 r_8.1 r_19 hr_19) Try.call27 .z) (fun g_18=>?_)
      refine TLv (V_assign rfl) ?_
      refine TL_nil (TX_next (TC_seq (TC_region (TLv (V_move rfl) ?_))))
      refine TLv (V_move rfl) ?_
      refine TLv (V_move rfl) ?_
      obtain ⟨r_20,hr_20,H⟩:=bind_elim H
      refine TLe (E_c0 (F27_calls r_3.1 r_5 r_14.1 r_20 hr_20) Try.call27 .z) (fun g_19=>?_)
      refine TLv (V_assign rfl) ?_
      refine TL_nil (TX_next (TC_seq (TC_em (decide (r_8.1=r_11.1)) (fun hg15_4=>?_) (fun hg15_4=>?_))))
      ·replace H:=ite_t (of_decide_eq_true hg15_4) H
       obtain ⟨r_21,hr_21,H⟩:=bind_elim H
       refine TC_em (decide (r_21=0)) (fun hg15_9=>?_) (fun hg15_9=>?_)
       ·replace H:=ite_t (of_decide_eq_true hg15_9) H
        obtain ⟨h2,H⟩:=if_elim H
        obtain ⟨h3,H⟩:=if_elim H
        obtain ⟨h4,H⟩:=if_elim H
        obtain ⟨h5,H⟩:=if_elim H
        obtain ⟨h6,H⟩:=if_elim H
        obtain ⟨h7,H⟩:=if_elim H
        refine TC_em (decide (sub r_8.1 2 ((r_18).toNat)=sub r_14.1 2 ((r_18).toNat))) (fun hg15_18=>?_) (fun hg15_18=>?_)
        ·replace H:=ite_t (of_decide_eq_true hg15_18) H
         obtain ⟨r_22,hr_22,H⟩:=bind_elim H
         refine TC_em (decide (r_22=0)) (fun hg15_23=>?_) (fun hg15_23=>?_)
         ·replace H:=ite_t (of_decide_eq_true hg15_23) H
          obtain ⟨r_23,hr_23,H⟩:=bind_elim H
          obtain ⟨x2,hx2,H⟩:=ltt_elim H
          refine TA_begin [] 28 (by kernel_rfl) (N:=28) rfl ?_
          refine TA_tk 0 [] (dn 28 1) rfl rfl (V_move rfl) ?_
          refine TA_tk 1 [] (dn 28 3) rfl rfl (V_move rfl) ?_
          refine TA_tk 2 [] (dn 28 7) rfl rfl (V_bin rfl rfl (fun w=>eqlS w r_8.1 r_11.1)) ?_
          refine TA_tk 3 [] (dn 28 15) rfl rfl (V_move rfl) ?_
          refine TA_re (d:=112) (v:=vb (decide (r_8.1=r_11.1))) (v':=vb true) rfl (congrArg vb hg15_4) ?_
          refine TA_tw 4 [] (dn 28 31) rfl rfl (V_move rfl) ?_
          refine TA_all (rs:=[5]) (by kernel_rfl) rfl ?_
          refine ⟨?_,trivial⟩
          refine TO_eW (is:=[]) (done':=dn 28 63) rfl rfl rfl rfl rfl rfl rfl (by kernel_rfl) (E_c0 (F20_calls r_11.2 r_21 hr_21) Try.call20 .z) (fun _ _=>rfl) (fun g_20=>?_)
          refine TA_tw 6 [] (dn 28 127) rfl rfl (V_bin rfl rfl (fun w=>eqlI w r_21 0)) ?_
          refine TA_tk 7 [] (dn 28 255) rfl rfl (V_pick (b:=true) rfl rfl) ?_
          refine TA_tk 8 [] (dn 28 511) rfl rfl (V_move rfl) ?_
          refine TA_re (d:=117) (v:=vb (decide (r_21=0))) (v':=vb true) rfl (congrArg vb hg15_9) ?_
          refine TA_tw 9 [] (dn 28 1023) rfl rfl (V_move rfl) ?_
          refine TA_tw 10 [] (dn 28 2047) rfl rfl (V_move rfl) ?_
          refine TA_tw 11 [] (dn 28 4095) rfl rfl (V_sliceStr (l:=2) (h:=(r_18).toNat) rfl Try.underlying9 (Bnd.some' (i:=2) rfl (by decide)) (Bnd.some' (i:=r_18) rfl h2) h4 h3) ?_
          refine TA_tw 12 [] (dn 28 8191) rfl rfl (V_move rfl) ?_
          refine TA_tw 13 [] (dn 28 16383) rfl rfl (V_move rfl) ?_
          refine TA_tw 14 [] (dn 28 32767) rfl rfl (V_sliceStr (l:=2) (h:=(r_18).toNat) rfl Try.underlying9 (Bnd.some' (i:=2) rfl (by decide)) (Bnd.some' (i:=r_18) rfl h5) h7 h6) ?_
          refine TA_tw 15 [] (dn 28 65535) rfl rfl (V_bin rfl rfl (fun w=>eqlS w (sub r_8.1 2 ((r_18).toNat)) (sub r_14.1 2 ((r_18).toNat)))) ?_
          refine TA_tk 16 [] (dn 28 131071) rfl rfl (V_pick (b:=true) rfl rfl) ?_
          refine TA_tk 17 [] (dn 28 262143) rfl rfl (V_move rfl) ?_
          refine TA_re (d:=126) (v:=vb (decide (sub r_8.1 2 ((r_18).toNat)=sub r_14.1 2 ((r_18).toNat)))) (v':=vb true) rfl (congrArg vb hg15_18) ?_
          refine TA_tw 18 [] (dn 28 524287) rfl rfl (V_move rfl) ?_
          refine TA_all (rs:=[19]) (by kernel_rfl) rfl ?_
          refine ⟨?_,trivial⟩
          refine TO_eW (is:=[]) (done':=dn 28 1048575) rfl rfl rfl rfl rfl rfl rfl (by kernel_rfl) (E_c0 (F20_calls r_19 r_22 hr_22) Try.call20 .z) (fun _ _=>rfl) (fun g_21=>?_)
          refine TA_tw 20 [] (dn 28 2097151) rfl rfl (V_bin rfl rfl (fun w=>eqlI w r_22 0)) ?_
          refine TA_tk 21 [] (dn 28 4194303) rfl rfl (V_pick (b:=true) rfl rfl) ?_
          refine TA_tk 22 [] (dn 28 8388607) rfl rfl (V_move rfl) ?_
          refine TA_re (d:=131) (v:=vb (decide (r_22=0))) (v':=vb true) rfl (congrArg vb hg15_23) ?_
          refine TA_tw 23 [] (dn 28 16777215) rfl rfl (V_move rfl) ?_
          refine TA_all (rs:=[24]) (by kernel_rfl) rfl ?_
          refine ⟨?_,trivial⟩
          refine TO_eW (is:=[]) (done':=dn 28 33554431) rfl rfl rfl rfl rfl rfl rfl (by kernel_rfl) (E_c0 (F20_calls r_20 r_23 hr_23) Try.call20 .z) (fun _ _=>rfl) (fun g_22=>?_)
          refine TA_tw 25 [] (dn 28 67108863) rfl rfl (V_bin rfl rfl (fun w=>eqlI w r_23 0)) ?_
          refine TA_tk 26 [] (dn 28 134217727) rfl rfl (V_pick (b:=true) rfl rfl) ?_
          refine TA_tk 27 [] (dn 28 268435455) rfl rfl (V_assign rfl) ?_
          refine TA_re (d:=8) (v:=vb (decide (r_23=0))) (v':=vb x2) rfl (congrArg vb hx2) ?_
          refine TA_done (by kernel_rfl) ?_ 0
          refine TX_next (TC.sub (m':=[(8,vb x2)]) ⟨rfl,trivial⟩ ?_)
          refine TC.pull (is:=[]) (L':=[]) rfl ?_
          refine TC_ret ?_
          have hrv:=Option.some.inj H
          subst hrv
          exact TX_ret (rs:=[.tmp 8]) (vs:=[vb x2]) rfl ⟨rfl,trivial⟩ (fun w' hs'=>⟨(),rfl,Step.left (Step.pulled (is:=[]) (A:=[]) hs' rfl)⟩)
         ·replace H:=ite_f (of_decide_eq_false hg15_23) H
          refine TA_begin [] 28 (by kernel_rfl) (N:=28) rfl ?_
          refine TA_tk 0 [] (dn 28 1) rfl rfl (V_move rfl) ?_
          refine TA_tk 1 [] (dn 28 3) rfl rfl (V_move rfl) ?_
          refine TA_tk 2 [] (dn 28 7) rfl rfl (V_bin rfl rfl (fun w=>eqlS w r_8.1 r_11.1)) ?_
          refine TA_tk 3 [] (dn 28 15) rfl rfl (V_move rfl) ?_
          refine TA_re (d:=112) (v:=vb (decide (r_8.1=r_11.1))) (v':=vb true) rfl (congrArg vb hg15_4) ?_
          refine TA_tw 4 [] (dn 28 31) rfl rfl (V_move rfl) ?_
          refine TA_all (rs:=[5]) (by kernel_rfl) rfl ?_
          refine ⟨?_,trivial⟩
          refine TO_eW (is:=[]) (done':=dn 28 63) rfl rfl rfl rfl rfl rfl rfl (by kernel_rfl) (E_c0 (F20_calls r_11.2 r_21 hr_21) Try.call20 .z) (fun _ _=>rfl) (fun g_20=>?_)
          refine TA_tw 6 [] (dn 28 127) rfl rfl (V_bin rfl rfl (fun w=>eqlI w r_21 0)) ?_
          refine TA_tk 7 [] (dn 28 255) rfl rfl (V_pick (b:=true) rfl rfl) ?_
          refine TA_tk 8 [] (dn 28 511) rfl rfl (V_move rfl) ?_
          refine TA_re (d:=117) (v:=vb (decide (r_21=0))) (v':=vb true) rfl (congrArg vb hg15_9) ?_
          refine TA_tw 9 [] (dn 28 1023) rfl rfl (V_move rfl) ?_
          refine TA_tw 10 [] (dn 28 2047) rfl rfl (V_move rfl) ?_
          refine TA_tw 11 [] (dn 28 4095) rfl rfl (V_sliceStr (l:=2) (h:=(r_18).toNat) rfl Try.underlying9 (Bnd.some' (i:=2) rfl (by decide)) (Bnd.some' (i:=r_18) rfl h2) h4 h3) ?_
          refine TA_tw 12 [] (dn 28 8191) rfl rfl (V_move rfl) ?_
          refine TA_tw 13 [] (dn 28 16383) rfl rfl (V_move rfl) ?_
          refine TA_tw 14 [] (dn 28 32767) rfl rfl (V_sliceStr (l:=2) (h:=(r_18).toNat) rfl Try.underlying9 (Bnd.some' (i:=2) rfl (by decide)) (Bnd.some' (i:=r_18) rfl h5) h7 h6) ?_
          refine TA_tw 15 [] (dn 28 65535) rfl rfl (V_bin rfl rfl (fun w=>eqlS w (sub r_8.1 2 ((r_18).toNat)) (sub r_14.1 2 ((r_18).toNat)))) ?_
          refine TA_tk 16 [] (dn 28 131071) rfl rfl (V_pick (b:=true) rfl rfl) ?_
          refine TA_tk 17 [] (dn 28 262143) rfl rfl (V_move rfl) ?_
          refine TA_re (d:=126) (v:=vb (decide (sub r_8.1 2 ((r_18).toNat)=sub r_14.1 2 ((r_18).toNat)))) (v':=vb true) rfl (congrArg vb hg15_18) ?_
          refine TA_tw 18 [] (dn 28 524287) rfl rfl (V_move rfl) ?_
          refine TA_all (rs:=[19]) (by kernel_rfl) rfl ?_
          refine ⟨?_,trivial⟩
          refine TO_eW (is:=[]) (done':=dn 28 1048575) rfl rfl rfl rfl rfl rfl rfl (by kernel_rfl) (E_c0 (F20_calls r_19 r_22 hr_22) Try.call20 .z) (fun _ _=>rfl) (fun g_21=>?_)
          refine TA_tw 20 [] (dn 28 2097151) rfl rfl (V_bin rfl rfl (fun w=>eqlI w r_22 0)) ?_
          refine TA_tk 21 [] (dn 28 4194303) rfl rfl (V_pick (b:=true) rfl rfl) ?_
          refine TA_tk 22 [] (dn 28 8388607) rfl rfl (V_move rfl) ?_
          refine TA_re (d:=131) (v:=vb (decide (r_22=0))) (v':=vb false) rfl (congrArg vb hg15_23) ?_
          refine TA_ts 23 [] (dn 28 16777215) rfl rfl ?_
          refine TA_ts 24 [] (dn 28 33554431) rfl rfl ?_
          refine TA_ts 25 [] (dn 28 67108863) rfl rfl ?_
          refine TA_tk 26 [] (dn 28 134217727) rfl rfl (V_pick (b:=false) rfl rfl) ?_
          refine TA_tk 27 [] (dn 28 268435455) rfl rfl (V_assign rfl) ?_
          refine TA_done (by kernel_rfl) ?_ 0
          refine TX_next (TC.sub (m':=[(8,vb false)]) ⟨rfl,trivial⟩ ?_)
          refine TC.pull (is:=[]) (L':=[]) rfl ?_
          refine TC_ret ?_
          have hrv:=Option.some.inj H
          subst hrv
          exact TX_ret (rs:=[.tmp 8]) (vs:=[vb false]) rfl ⟨rfl,trivial⟩ (fun w' hs'=>⟨(),rfl,Step.left (Step.pulled (is:=[]) (A:=[]) hs' rfl)⟩)
        ·replace H:=ite_f (of_decide_eq_false hg15_18) H
         refine TA_begin [] 28 (by kernel_rfl) (N:=28) rfl ?_
         refine TA_tk 0 [] (dn 28 1) rfl rfl (V_move rfl) ?_
         refine TA_tk 1 [] (dn 28 3) rfl rfl (V_move rfl) ?_
         refine TA_tk 2 [] (dn 28 7) rfl rfl (V_bin rfl rfl (fun w=>eqlS w r_8.1 r_11.1)) ?_
         refine TA_tk 3 [] (dn 28 15) rfl rfl (V_move rfl) ?_
         refine TA_re (d:=112) (v:=vb (decide (r_8.1=r_11.1))) (v':=vb true) rfl (congrArg vb hg15_4) ?_
         refine TA_tw 4 [] (dn 28 31) rfl rfl (V_move rfl) ?_
         refine TA_all (rs:=[5]) (by kernel_rfl) rfl ?_
         refine ⟨?_,trivial⟩
         refine TO_eW (is:=[]) (done':=dn 28 63) rfl rfl rfl rfl rfl rfl rfl (by kernel_rfl) (E_c0 (F20_calls r_11.2 r_21 hr_21) Try.call20 .z) (fun _ _=>rfl) (fun g_20=>?_)
         refine TA_tw 6 [] (dn 28 127) rfl rfl (V_bin rfl rfl (fun w=>eqlI w r_21 0)) ?_
         refine TA_tk 7 [] (dn 28 255) rfl rfl (V_pick (b:=true) rfl rfl) ?_
         refine TA_tk 8 [] (dn 28 511) rfl rfl (V_move rfl) ?_
         refine TA_re (d:=117) (v:=vb (decide (r_21=0))) (v':=vb true) rfl (congrArg vb hg15_9) ?_
         refine TA_tw 9 [] (dn 28 1023) rfl rfl (V_move rfl) ?_
         refine TA_tw 10 [] (dn 28 2047) rfl rfl (V_move rfl) ?_
         refine TA_tw 11 [] (dn 28 4095) rfl rfl (V_sliceStr (l:=2) (h:=(r_18).toNat) rfl Try.underlying9 (Bnd.some' (i:=2) rfl (by decide)) (Bnd.some' (i:=r_18) rfl h2) h4 h3) ?_
         refine TA_tw 12 [] (dn 28 8191) rfl rfl (V_move rfl) ?_
         refine TA_tw 13 [] (dn 28 16383) rfl rfl (V_move rfl) ?_
         refine TA_tw 14 [] (dn 28 32767) rfl rfl (V_sliceStr (l:=2) (h:=(r_18).toNat) rfl Try.underlying9 (Bnd.some' (i:=2) rfl (by decide)) (Bnd.some' (i:=r_18) rfl h5) h7 h6) ?_
         refine TA_tw 15 [] (dn 28 65535) rfl rfl (V_bin rfl rfl (fun w=>eqlS w (sub r_8.1 2 ((r_18).toNat)) (sub r_14.1 2 ((r_18).toNat)))) ?_
         refine TA_tk 16 [] (dn 28 131071) rfl rfl (V_pick (b:=true) rfl rfl) ?_
         refine TA_tk 17 [] (dn 28 262143) rfl rfl (V_move rfl) ?_
         refine TA_re (d:=126) (v:=vb (decide (sub r_8.1 2 ((r_18).toNat)=sub r_14.1 2 ((r_18).toNat)))) (v':=vb false) rfl (congrArg vb hg15_18) ?_
         refine TA_ts 18 [] (dn 28 524287) rfl rfl ?_
         refine TA_ts 19 [] (dn 28 1048575) rfl rfl ?_
         refine TA_ts 20 [] (dn 28 2097151) rfl rfl ?_
         refine TA_tk 21 [] (dn 28 4194303) rfl rfl (V_pick (b:=false) rfl rfl) ?_
         refine TA_tk 22 [] (dn 28 8388607) rfl rfl (V_move rfl) ?_
         refine TA_ts 23 [] (dn 28 16777215) rfl rfl ?_
         refine TA_ts 24 [] (dn 28 33554431) rfl rfl ?_
         refine TA_ts 25 [] (dn 28 67108863) rfl rfl ?_
         refine TA_tk 26 [] (dn 28 134217727) rfl rfl (V_pick (b:=false) rfl rfl) ?_
         refine TA_tk 27 [] (dn 28 268435455) rfl rfl (V_assign rfl) ?_
         refine TA_done (by kernel_rfl) ?_ 0
         refine TX_next (TC.sub (m':=[(8,vb false)]) ⟨rfl,trivial⟩ ?_)
         refine TC.pull (is:=[]) (L':=[]) rfl ?_
         refine TC_ret ?_
         have hrv:=Option.some.inj H
         subst hrv
         exact TX_ret (rs:=[.tmp 8]) (vs:=[vb false]) rfl ⟨rfl,trivial⟩ (fun w' hs'=>⟨(),rfl,Step.left (Step.pulled (is:=[]) (A:=[]) hs' rfl)⟩)
       ·replace H:=ite_f (of_decide_eq_false hg15_9) H
        refine TA_begin [] 28 (by kernel_rfl) (N:=28) rfl ?_
        refine TA_tk 0 [] (dn 28 1) rfl rfl (V_move rfl) ?_
        refine TA_tk 1 [] (dn 28 3) rfl rfl (V_move rfl) ?_
        refine TA_tk 2 [] (dn 28 7) rfl rfl (V_bin rfl rfl (fun w=>eqlS w r_8.1 r_11.1)) ?_
        refine TA_tk 3 [] (dn 28 15) rfl rfl (V_move rfl) ?_
        refine TA_re (d:=112) (v:=vb (decide (r_8.1=r_11.1))) (v':=vb true) rfl (congrArg vb hg15_4) ?_
        refine TA_tw 4 [] (dn 28 31) rfl rfl (V_move rfl) ?_
        refine TA_all (rs:=[5]) (by kernel_rfl) rfl ?_
        refine ⟨?_,trivial⟩
        refine TO_eW (is:=[]) (done':=dn 28 63) rfl rfl rfl rfl rfl rfl rfl (by kernel_rfl) (E_c0 (F20_calls r_11.2 r_21 hr_21) Try.call20 .z) (fun _ _=>rfl) (fun g_20=>?_)
        refine TA_tw 6 [] (dn 28 127) rfl rfl (V_bin rfl rfl (fun w=>eqlI w r_21 0)) ?_
        refine TA_tk 7 [] (dn 28 255) rfl rfl (V_pick (b:=true) rfl rfl) ?_
        refine TA_tk 8 [] (dn 28 511) rfl rfl (V_move rfl) ?_
        refine TA_re (d:=117) (v:=vb (decide (r_21=0))) (v':=vb false) rfl (congrArg vb hg15_9) ?_
        refine TA_ts 9 [] (dn 28 1023) rfl rfl ?_
        refine TA_ts 10 [] (dn 28 2047) rfl rfl ?_
        refine TA_ts 11 [] (dn 28 4095) rfl rfl ?_
        refine TA_ts 12 [] (dn 28 8191) rfl rfl ?_
        refine TA_ts 13 [] (dn 28 16383) rfl rfl ?_
        refine TA_ts 14 [] (dn 28 32767) rfl rfl ?_
        refine TA_ts 15 [] (dn 28 65535) rfl rfl ?_
        refine TA_tk 16 [] (dn 28 131071) rfl rfl (V_pick (b:=false) rfl rfl) ?_
        refine TA_tk 17 [] (dn 28 262143) rfl rfl (V_move rfl) ?_
        refine TA_ts 18 [] (dn 28 524287) rfl rfl ?_
        refine TA_ts 19 [] (dn 28 1048575) rfl rfl ?_
        refine TA_ts 20 [] (dn 28 2097151) rfl rfl ?_
        refine TA_tk 21 [] (dn 28 4194303) rfl rfl (V_pick (b:=false) rfl rfl) ?_
        refine TA_tk 22 [] (dn 28 8388607) rfl rfl (V_move rfl) ?_
        refine TA_ts 23 [] (dn 28 16777215) rfl rfl ?_
        refine TA_ts 24 [] (dn 28 33554431) rfl rfl ?_
        refine TA_ts 25 [] (dn 28 67108863) rfl rfl ?_
        refine TA_tk 26 [] (dn 28 134217727) rfl rfl (V_pick (b:=false) rfl rfl) ?_
        refine TA_tk 27 [] (dn 28 268435455) rfl rfl (V_assign rfl) ?_
        refine TA_done (by kernel_rfl) ?_ 0
        refine TX_next (TC.sub (m':=[(8,vb false)]) ⟨rfl,trivial⟩ ?_)
        refine TC.pull (is:=[]) (L':=[]) rfl ?_
        refine TC_ret ?_
        have hrv:=Option.some.inj H
        subst hrv
        exact TX_ret (rs:=[.tmp 8]) (vs:=[vb false]) rfl ⟨rfl,trivial⟩ (fun w' hs'=>⟨(),rfl,Step.left (Step.pulled (is:=[]) (A:=[]) hs' rfl)⟩)
      ·replace H:=ite_f (of_decide_eq_false hg15_4) H
       refine TA_begin [] 28 (by kernel_rfl) (N:=28) rfl ?_
       refine TA_tk 0 [] (dn 28 1) rfl rfl (V_move rfl) ?_
       refine TA_tk 1 [] (dn 28 3) rfl rfl (V_move rfl) ?_
       refine TA_tk 2 [] (dn 28 7) rfl rfl (V_bin rfl rfl (fun w=>eqlS w r_8.1 r_11.1)) ?_
       refine TA_tk 3 [] (dn 28 15) rfl rfl (V_move rfl) ?_
       refine TA_re (d:=112) (v:=vb (decide (r_8.1=r_11.1))) (v':=vb false) rfl (congrArg vb hg15_4) ?_
       refine TA_ts 4 [] (dn 28 31) rfl rfl ?_
       refine TA_ts 5 [] (dn 28 63) rfl rfl ?_
       refine TA_ts 6 [] (dn 28 127) rfl rfl ?_
       refine TA_tk 7 [] (dn 28 255) rfl rfl (V_pick (b:=false) rfl rfl) ?_
       refine TA_tk 8 [] (dn 28 511) rfl rfl (V_move rfl) ?_
       refine TA_ts 9 [] (dn 28 1023) rfl rfl ?_
       refine TA_ts 10 [] (dn 28 2047) rfl rfl ?_
       refine TA_ts 11 [] (dn 28 4095) rfl rfl ?_
       refine TA_ts 12 [] (dn 28 8191) rfl rfl ?_
       refine TA_ts 13 [] (dn 28 16383) rfl rfl ?_
       refine TA_ts 14 [] (dn 28 32767) rfl rfl ?_
       refine TA_ts 15 [] (dn 28 65535) rfl rfl ?_
       refine TA_tk 16 [] (dn 28 131071) rfl rfl (V_pick (b:=false) rfl rfl) ?_
       refine TA_tk 17 [] (dn 28 262143) rfl rfl (V_move rfl) ?_
       refine TA_ts 18 [] (dn 28 524287) rfl rfl ?_
       refine TA_ts 19 [] (dn 28 1048575) rfl rfl ?_
       refine TA_ts 20 [] (dn 28 2097151) rfl rfl ?_
       refine TA_tk 21 [] (dn 28 4194303) rfl rfl (V_pick (b:=false) rfl rfl) ?_
       refine TA_tk 22 [] (dn 28 8388607) rfl rfl (V_move rfl) ?_
       refine TA_ts 23 [] (dn 28 16777215) rfl rfl ?_
       refine TA_ts 24 [] (dn 28 33554431) rfl rfl ?_
       refine TA_ts 25 [] (dn 28 67108863) rfl rfl ?_
       refine TA_tk 26 [] (dn 28 134217727) rfl rfl (V_pick (b:=false) rfl rfl) ?_
       refine TA_tk 27 [] (dn 28 268435455) rfl rfl (V_assign rfl) ?_
       refine TA_done (by kernel_rfl) ?_ 0
       refine TX_next (TC.sub (m':=[(8,vb false)]) ⟨rfl,trivial⟩ ?_)
       refine TC.pull (is:=[]) (L':=[]) rfl ?_
       refine TC_ret ?_
       have hrv:=Option.some.inj H
       subst hrv
       exact TX_ret (rs:=[.tmp 8]) (vs:=[vb false]) rfl ⟨rfl,trivial⟩ (fun w' hs'=>⟨(),rfl,Step.left (Step.pulled (is:=[]) (A:=[]) hs' rfl)⟩)
    ·intro hJ
     replace H:=Hj
     refine TL_fork (d:=95) (b:=(decide (((r_8.1).length:Int)<r_18))) rfl (fun hc=>?_) (fun hc=>?_)
     ·replace H:=ite_t (of_decide_eq_true hc) H
      refine TL_skip rfl rfl rfl rfl rfl rfl rfl ?_
      refine TL_skip rfl rfl rfl rfl rfl rfl rfl ?_
      refine TL_skip rfl rfl rfl rfl rfl rfl rfl ?_
      refine TL_skip rfl rfl rfl rfl rfl rfl rfl ?_
      refine TLv (V_pick (b:=true) rfl rfl) ?_
      refine TL_nil (TX.sub (m':=[(9,vs r_3.1),(11,vs r_4),(12,vs r_5),(13,vs r_8.1),(15,vs r_11.1),(16,vi r_11.2),(17,vs r_14.1),(19,vi r_18),(100,vb true)]) ⟨rfl,rfl,rfl,rfl,rfl,rfl,rfl,rfl,rfl,trivial⟩ ?_)
      refine TX.pull (is:=[]) (L':=[]) rfl ?_
      obtain rfl:=Option.some.inj H
      exact hJ ()
     ·replace H:=ite_f (of_decide_eq_false hc) H
      refine TL_want rfl rfl rfl rfl rfl rfl (V_move rfl) ?_
      refine TL_want rfl rfl rfl rfl rfl rfl (V_move rfl) ?_
      refine TL_want rfl rfl rfl rfl rfl rfl (V_len_str rfl Try.underlying9) ?_
      refine TL_want rfl rfl rfl rfl rfl rfl (V_bin rfl rfl (fun w=>gtrI w r_18 ((r_14.1).length:Int))) ?_
      refine TLv (V_pick (b:=false) rfl rfl) ?_
      refine TL_nil (TX.sub (m':=[(9,vs r_3.1),(11,vs r_4),(12,vs r_5),(13,vs r_8.1),(15,vs r_11.1),(16,vi r_11.2),(17,vs r_14.1),(19,vi r_18),(100,vb (decide (((r_14.1).length:Int)<r_18)))]) ⟨rfl,rfl,rfl,rfl,rfl,rfl,rfl,rfl,rfl,trivial⟩ ?_)
      refine TX.pull (is:=[]) (L':=[]) rfl ?_
      obtain rfl:=Option.some.inj H
      exact hJ ()
  ·intro hJ
   replace H:=Hj
   refine TL_fork (d:=64) (b:=(decide (r_15 ≠ 0))) rfl (fun hc=>?_) (fun hc=>?_)
   ·replace H:=ite_t (of_decide_eq_true hc) H
    refine TL_skip rfl rfl rfl rfl rfl rfl rfl ?_
    refine TL_skip rfl rfl rfl rfl rfl rfl rfl ?_
    refine TL_skip rfl rfl rfl rfl rfl rfl rfl ?_
    refine TLv (V_pick (b:=true) rfl rfl) ?_
    refine TLv (V_move rfl) ?_
    refine TL_skip rfl rfl rfl rfl rfl rfl rfl ?_
    refine TL_skip rfl rfl rfl rfl rfl rfl rfl ?_
    refine TL_skip rfl rfl rfl rfl rfl rfl rfl ?_
    refine TLv (V_pick (b:=true) rfl rfl) ?_
    refine TLv (V_move rfl) ?_
    refine TL_skip rfl rfl rfl rfl rfl rfl rfl ?_
    refine TL_skip rfl rfl rfl rfl rfl rfl rfl ?_
    refine TL_skip rfl rfl rfl rfl rfl rfl rfl ?_
    refine TLv (V_pick (b:=true) rfl rfl) ?_
    refine TL_nil (TX.sub (m':=[(9,vs r_3.1),(11,vs r_4),(12,vs r_5),(13,vs r_8.1),(14,vi r_8.2),(15,vs r_11.1),(16,vi r_11.2),(17,vs r_14.1),(18,vi r_14.2),(78,vb true)]) ⟨rfl,rfl,rfl,rfl,rfl,rfl,rfl,rfl,rfl,rfl,trivial⟩ ?_)
    refine TX.pull (is:=[]) (L':=[]) rfl ?_
    obtain rfl:=Option.some.inj H
    exact hJ ()
   ·replace H:=ite_f (of_decide_eq_false hc) H
    refine TL_want rfl rfl rfl rfl rfl rfl (V_move rfl) ?_
    obtain ⟨r_24,hr_24,H⟩:=bind_elim H
    refine TL_wantE rfl rfl rfl rfl rfl rfl (E_c0 (F20_calls r_14.2 r_24 hr_24) Try.call20 .z) (fun g_23=>?_)
    refine TL_want rfl rfl rfl rfl rfl rfl (V_bin rfl rfl (fun w=>neqI w r_24 0)) ?_
    refine TLv (V_pick (b:=false) rfl rfl) ?_
    refine TLv (V_move rfl) ?_
    refine TL_fork (d:=69) (b:=(decide (r_24 ≠ 0))) rfl (fun hc=>?_) (fun hc=>?_)
    ·replace H:=ite_t (of_decide_eq_true hc) H
     refine TL_skip rfl rfl rfl rfl rfl rfl rfl ?_
     refine TL_skip rfl rfl rfl rfl rfl rfl rfl ?_
     refine TL_skip rfl rfl rfl rfl rfl rfl rfl ?_
     refine TLv (V_pick (b:=true) rfl rfl) ?_
     refine TLv (V_move rfl) ?_
     refine TL_skip rfl rfl rfl rfl rfl rfl rfl ?_
     refine TL_skip rfl rfl rfl rfl rfl rfl rfl ?_
     refine TL_skip rfl rfl rfl rfl rfl rfl rfl ?_
     refine TLv (V_pick (b:=true) rfl rfl) ?_
     refine TL_nil (TX.sub (m':=[(9,vs r_3.1),(11,vs r_4),(12,vs r_5),(13,vs r_8.1),(14,vi r_8.2),(15,vs r_11.1),(16,vi r_11.2),(17,vs r_14.1),(18,vi r_14.2),(78,vb true)]) ⟨rfl,rfl,rfl,rfl,rfl,rfl,rfl,rfl,rfl,rfl,trivial⟩ ?_)
     refine TX.pull (is:=[]) (L':=[]) rfl ?_
     obtain rfl:=Option.some.inj H
     exact hJ ()
    ·replace H:=ite_f (of_decide_eq_false hc) H
     refine TL_want rfl rfl rfl rfl rfl rfl (V_move rfl) ?_
     refine TL_want rfl rfl rfl rfl rfl rfl (V_len_str rfl Try.underlying9) ?_
     refine TL_want rfl rfl rfl rfl rfl rfl (V_bin rfl rfl (fun w=>lssI w ((r_8.1).length:Int) 8)) ?_
     refine TLv (V_pick (b:=false) rfl rfl) ?_
     refine TLv (V_move rfl) ?_
     refine TL_fork (d:=74) (b:=(decide (((r_8.1).length:Int)<8))) rfl (fun hc=>?_) (fun hc=>?_)
     ·replace H:=ite_t (of_decide_eq_true hc) H
      refine TL_skip rfl rfl rfl rfl rfl rfl rfl ?_
      refine TL_skip rfl rfl rfl rfl rfl rfl rfl ?_
      refine TL_skip rfl rfl rfl rfl rfl rfl rfl ?_
      refine TLv (V_pick (b:=true) rfl rfl) ?_
      refine TL_nil (TX.sub (m':=[(9,vs r_3.1),(11,vs r_4),(12,vs r_5),(13,vs r_8.1),(14,vi r_8.2),(15,vs r_11.1),(16,vi r_11.2),(17,vs r_14.1),(18,vi r_14.2),(78,vb true)]) ⟨rfl,rfl,rfl,rfl,rfl,rfl,rfl,rfl,rfl,rfl,trivial⟩ ?_)
      refine TX.pull (is:=[]) (L':=[]) rfl ?_
      obtain rfl:=Option.some.inj H
      exact hJ ()
     ·replace H:=ite_f (of_decide_eq_false hc) H
      refine TL_want rfl rfl rfl rfl rfl rfl (V_move rfl) ?_
      refine TL_want rfl rfl rfl rfl rfl rfl (V_len_str rfl Try.underlying9) ?_
      refine TL_want rfl rfl rfl rfl rfl rfl (V_bin rfl rfl (fun w=>lssI w ((r_14.1).length:Int) 8)) ?_
      refine TLv (V_pick (b:=false) rfl rfl) ?_
      refine TL_nil (TX.sub (m':=[(9,vs r_3.1),(11,vs r_4),(12,vs r_5),(13,vs r_8.1),(14,vi r_8.2),(15,vs r_11.1),(16,vi r_11.2),(17,vs r_14.1),(18,vi r_14.2),(78,vb (decide (((r_14.1).length:Int)<8)))]) ⟨rfl,rfl,rfl,rfl,rfl,rfl,rfl,rfl,rfl,rfl,trivial⟩ ?_)
      refine TX.pull (is:=[]) (L':=[]) rfl ?_
      obtain rfl:=Option.some.inj H
      exact hJ ()
end Go.Proofs
end

section
namespace Go.Kx
open Go Go.Proofs
open Go.Nt hiding n4
theorem sg3 (r s:Nat):4+((sg (SG r s) 3).toNat:Int)=((2+(DI r).length:Nat):Int):=by
 have h:sg (SG r s) 3=BitVec.ofNat 8 (DB r).length:=rfl
 have h2:=DB_len r
 rw [h,ofNat8 _ (by omega),DI_len]
 omega
theorem EcdsaTwins_true (x k:Int) (a b:Str) (ha:a.length≤140737488351232) (hb:b.length≤140737488351232):halberdlaw12_EcdsaTwins x k a b=some true:=by
 obtain ⟨d,h1,e1⟩:=hash_ex a (by omega)
 obtain ⟨o,h2,e2⟩:=hash_ex b (by omega)
 obtain ⟨q,hq,hp⟩:=pub_of x
 have hs:=Sign_sc x k d e1
 have ht:=Sign_sc x k o e2
 unfold halberdlaw12_EcdsaTwins
 refine bind_i awake12 (if_n (by decide) (bind_i (scalar_eq x) (bind_i hp (bind_i h1 (bind_i h2 (bind_i (scalar_eq x) (bind_i (scalar_eq k) (bind_i hs (bind_i (scalar_eq x) (bind_i (scalar_eq k) (bind_i hs (bind_i (scalar_eq x) (bind_i (scalar_eq k) (bind_i ht (bind_i (num12 _) ?_)))))))))))))))
 rcases sg_cases (sc12 x) (sc12 k) (bnum d) with h | ⟨hr,hz,h⟩
 ·rw [h]
  exact bind_i (v:=true) (if_i (by decide) rfl) (if_i rfl (bind_i (num12 _) (bind_i (v:=true) (if_i rfl rfl) rfl)))
 rcases sg_cases (sc12 x) (sc12 k) (bnum o) with g | ⟨hr2,hz2,g⟩
 ·rw [h,g]
  exact bind_i (v:=true) (if_n (fun c=>c rfl) (bind_i (num12 _) (if_i (by decide) rfl))) (if_i rfl (bind_i (num12 _) (bind_i (v:=true) (if_n (by simp) (bind_i (num12 _) rfl)) rfl)))
 have v1:=Verify_own d e1 hq (sc_ne k) hr hz
 have v2:=Verify_own o e2 hq (sc_ne k) hr2 hz2
 rw [h,g]
 have hg1:=sig_is hr hz
 have hg2:=sig_is hr2 hz2
 generalize sigR (sc12 k)=r at *
 generalize sigS (sc12 x) (sc12 k) (bnum d)=s at *
 generalize sigS (sc12 x) (sc12 k) (bnum o)=t at *
 have p1:=SG_parts r s
 have p2:=SG_parts r t
 have d1:=DB_len r
 have d2:=DB_len s
 have d3:=DB_len t
 have l1:=DI_len r
 have l2:=DI_len s
 have l3:=DI_len t
 have b1:sub (SG r s) 2 (2+(DI r).length)=DI r:=(SG_stands r s ⟨hg1.1,hg1.2.1⟩ ⟨hg1.2.2.1,hg1.2.2.2.1⟩).1.2.2.2
 have b2:sub (SG r t) 2 (2+(DI r).length)=DI r:=(SG_stands r t ⟨hg2.1,hg2.2.1⟩ ⟨hg2.2.2.1,hg2.2.2.2.1⟩).1.2.2.2
 refine bind_i (v:=false) (if_n (fun c=>c rfl) (bind_i (num12 _) (if_n (fun c=>c rfl) (if_n (by dsimp only; omega) (congrArg some (decide_eq_false (by dsimp only; omega))))))) (if_n Bool.false_ne_true ?_)
 refine if_i (by dsimp only; omega) (ltt_i fun n hn=>?_)
 have hn2:n=((2+(DI r).length:Nat):Int):=by
  rw [hn]
  show w64 (4+((sg (SG r s) 3).toNat:Int))=_
  rw [sg3,w64_id (by omega) (by omega)]
 clear hn
 subst hn2
 refine bind_i (v:=false) (if_n (by dsimp only; omega) (congrArg some (decide_eq_false (by dsimp only; omega)))) (if_n Bool.false_ne_true ?_)
 refine bind_i v1 (bind_i v2 (if_i rfl (bind_i (num12 _) (if_i rfl ?_))))
 simp only [Int.toNat_natCast]
 exact if_i (by omega) (if_i (by omega) (if_i (by omega) (if_i (by omega) (if_i (by omega) (if_i (by omega) (if_i (b1.trans b2.symm) (bind_i (num12 _) (if_i rfl (bind_i (num12 _) rfl)))))))))
end Go.Kx
end

section
namespace Go.Kx
open Go Go.RowKit
def str (b:ByteArray):Str:=b.data.toList.map (·.toBitVec)
theorem vs_str (b:ByteArray):Value.string b=vs (str b):=by
 unfold vs bytes str
 congr 1
 apply ByteArray.ext
 have:(UInt8.ofBitVec ∘ fun x:UInt8=>x.toBitVec)=id:=by funext x; rfl
 simp [this]
theorem str_length (b:ByteArray):(str b).length=b.size:=by
 show (List.map _ b.data.toList).length=b.data.size
 rw [List.length_map,Array.length_toList]
end Go.Kx
end

section
namespace Go.Kx
open Go Go.RowKit Go.ChangeShapes Go.WideShapes
theorem Does.law2 {P:Program} {f:FuncId} {args:List Value} {Ro:Mem} (h:Does P f args [] Ro (Γ:=Unit) (fun _=>vb true) (fun _=>[])) (w:World) (hr : ∀ e ∈ Ro,Has w e) :
  Calls P f args.toArray w fun e w'=>e = .returned (.bool true)∧Below w.heap.size w w':=by
 refine (h w ⟨fun e he=>(List.not_mem_nil he).elim,List.Pairwise.nil⟩ hr (fun e he=>(List.not_mem_nil he).elim)).mono fun e w' ⟨_,he,hs⟩=>⟨he,hs.below⟩
theorem str_le {b:ByteArray} {n:Nat} (h:b.data.toList.length≤n):(str b).length≤n:=by
 rw [str_length]; simpa using h
section
variable {H:Type} {enc:TypeId × Value → H} {P:Program} {w:World} {base:Nat} {held:Bool} {t e:TypeId} {v:Value} {d:DataW H} {p:List MemPlace}
end
end Go.Kx
end

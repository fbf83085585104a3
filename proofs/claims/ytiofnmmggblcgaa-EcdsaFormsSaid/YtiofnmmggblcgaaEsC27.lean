/-
  Part 27 of the proof of what several laws share.
-/
import Derived.Test.YtiofnmmggblcgaaEsC1
import Derived.Test.YtiofnmmggblcgaaEsC2
import Derived.Test.YtiofnmmggblcgaaEsC3
import Derived.Test.YtiofnmmggblcgaaEsC4
import Derived.Test.YtiofnmmggblcgaaEsC5
import Derived.Test.YtiofnmmggblcgaaEsC6
import Derived.Test.YtiofnmmggblcgaaEsC7
import Derived.Test.YtiofnmmggblcgaaEsC8
import Derived.Test.YtiofnmmggblcgaaEsC9
import Derived.Test.YtiofnmmggblcgaaEsC10
import Derived.Test.YtiofnmmggblcgaaEsC11
import Derived.Test.YtiofnmmggblcgaaEsC12
import Derived.Test.YtiofnmmggblcgaaEsC13
import Derived.Test.YtiofnmmggblcgaaEsC14
import Derived.Test.YtiofnmmggblcgaaEsC15
import Derived.Test.YtiofnmmggblcgaaEsC16
import Derived.Test.YtiofnmmggblcgaaEsC17
import Derived.Test.YtiofnmmggblcgaaEsC18
import Derived.Test.YtiofnmmggblcgaaEsC19
import Derived.Test.YtiofnmmggblcgaaEsC20
import Derived.Test.YtiofnmmggblcgaaEsC21
import Derived.Test.YtiofnmmggblcgaaEsC22
import Derived.Test.YtiofnmmggblcgaaEsC23
import Derived.Test.YtiofnmmggblcgaaEsC24
import Derived.Test.YtiofnmmggblcgaaEsC25
import Derived.Test.YtiofnmmggblcgaaEsC26
set_option linter.unusedVariables false
set_option linter.unusedSimpArgs false
section
namespace Go.Kx
open Go Go.Proofs
open Go.Nt hiding n4
theorem sub_mid (a x b:Str):sub (a++x++b) a.length (a.length+x.length)=x:=by
 simp only [sub]
 rw [List.append_assoc,List.drop_left,Nat.add_sub_cancel_left,List.take_left]
theorem Get_app (pre x post:Str) (t:BitVec 8) (ht:t.toNat % 32 ≠ 31) (hx:x.length<128) (hl:pre.length<1000000∧post.length<1000000) :
  der_Get (pre++([t,BitVec.ofNat 8 x.length]++x)++post) (pre.length:Int)=some ((t.toNat:Int),x,((pre.length+2+x.length:Nat):Int),0):=by
 have e0:sg (pre++([t,BitVec.ofNat 8 x.length]++x)++post) (pre.length:Int)=t:=by
  rw [List.append_assoc,app_get (Nat.le_refl _),Nat.sub_self]; rfl
 have e1:sg (pre++([t,BitVec.ofNat 8 x.length]++x)++post) ((pre.length+1:Nat):Int)=BitVec.ofNat 8 x.length:=by
  rw [List.append_assoc,app_get (by omega),Nat.add_sub_cancel_left]; rfl
 have hlen:(pre++([t,BitVec.ofNat 8 x.length]++x)++post).length=pre.length+2+x.length+post.length:=by simp; omega
 have h:=Get_is (pre++([t,BitVec.ofNat 8 x.length]++x)++post) pre.length x.length (by rw [hlen]; omega) (by rw [hlen]; omega) hx (by rw [e0]; exact ht) (by rw [e1,ofNat8 _ (by omega)])
 rw [e0] at h
 rw [h]
 have es:sub (pre++([t,BitVec.ofNat 8 x.length]++x)++post) (pre.length+2) (pre.length+2+x.length)=x:=by
  have:=sub_mid (pre++[t,BitVec.ofNat 8 x.length]) x post
  rw [List.length_append] at this
  have e2:[t,BitVec.ofNat 8 x.length].length=2:=rfl
  rw [e2] at this
  rw [← List.append_assoc pre]
  exact this
 rw [es]
theorem SG_len (r s:Nat):(DI r++DI s).length≤70:=by
 rw [List.length_append,DI_len,DI_len]
 have:=(DB_len r).2
 have:=(DB_len s).2
 omega
theorem Get_SG (r s:Nat):der_Get (SG r s) 0=some (48,DI r++DI s,((SG r s).length:Int),0):=by
 have h:=SG_len r s
 have:=Get_app [] (DI r++DI s) [] 48#8 (by decide) (by omega) (by decide)
 rw [List.append_nil] at this
 have e:((SG r s).length:Int)=(((([]:Str).length+2+(DI r++DI s).length:Nat)):Int):=by
  have e1:(SG r s).length=2+(DI r++DI s).length:=by unfold SG; rw [List.length_append]; rfl
  have e2:([]:Str).length=0:=rfl
  omega
 rw [e]
 exact this
theorem All_SG (r s:Nat):der_All (DI r++DI s)=some (0,[(2,DB r),(2,DB s)]):=by
 have hr:=DB_len r
 have hs:=DB_len s
 have lr:=DI_len r
 have ls:=DI_len s
 have g1:=Get_app [] (DB r) (DI s) 2#8 (by decide) (by omega) (by rw [ls]; simp; omega)
 have g2:=Get_app (DI r) (DB s) [] 2#8 (by decide) (by omega) (by rw [lr]; simp; omega)
 rw [List.append_nil] at g2
 refine All_two (DI r++DI s) (2+(DB r).length) (2,DB r) (2,DB s) (by rw [List.length_append]; omega) (by rw [List.length_append]; omega) ?_ ?_
 ·have e:(([]:Str).length+2+(DB r).length)=2+(DB r).length:=by simp
  rw [e] at g1
  exact g1
 ·have e1:((2+(DB r).length:Nat):Int)=((DI r).length:Int):=by omega
  have e2:(DI r).length+2+(DB s).length=(DI r++DI s).length:=by rw [List.length_append]; omega
  rw [e1]
  rw [e2] at g2
  exact g2
theorem read_sig (sig:Str) (hl:sig.length<4611686018427387904) : ∃ v w:Vx 64 4, ∃ b:Bool,ecdsa_read sig=some (v,w,b)∧(b=true ↔ ∃ r s,isSg sig r s) ∧ ∀ r s,isSg sig r s → n4 v=r∧n4 w=s:=by
 by_cases hS : ∃ r s,isSg sig r s
 ·obtain ⟨r,s,hr0,hr1,hs0,hs1,rfl⟩:=hS
  obtain ⟨v,b1,i1,f1,g1⟩:=integer_any 2 (by decide) (by decide) (DB r) (by have:=(DB_len r).2; omega)
  obtain ⟨w,b2,i2,f2,g2⟩:=integer_any 2 (by decide) (by decide) (DB s) (by have:=(DB_len s).2; omega)
  have hb1:b1=true:=f1.2 ⟨r,rfl,hr0,hr1,rfl⟩
  have hb2:b2=true:=f2.2 ⟨s,rfl,hs0,hs1,rfl⟩
  have v1:=g1 r ⟨rfl,hr0,hr1,rfl⟩
  have w1:=g2 s ⟨rfl,hs0,hs1,rfl⟩
  subst hb1 hb2
  refine ⟨v,w,true,?_,⟨fun _=>⟨r,s,hr0,hr1,hs0,hs1,rfl⟩,fun _=>rfl⟩,fun r' s' h=>?_⟩
  ·unfold ecdsa_read
   refine bind_i (Get_SG r s) (bind_i (v:=false) (if_n (by simp) (if_n (by simp) (by simp))) (if_n Bool.false_ne_true (bind_i (All_SG r s) (bind_i (v:=false) (if_n (by simp) (by simp)) (if_n Bool.false_ne_true (if_i (by simp) (bind_i i1 (if_i (by simp) (bind_i i2 (if_i rfl rfl))))))))))
  ·
   have e:=h.2.2.2.2
   have hB:DI r++DI s=DI r'++DI s':=by
    unfold SG at e
    have:=List.append_inj_right e rfl
    exact this
   have hA:=All_SG r s
   rw [hB,All_SG r' s'] at hA
   have hA:=Option.some.inj hA
   have hA:=congrArg Prod.snd hA
   simp only [List.cons.injEq,Prod.mk.injEq,and_true,true_and] at hA
   have N256lt:N256<2 ^ 256:=md_N.lt
   have a1:=congrArg bnum hA.1
   have a2:=congrArg bnum hA.2
   rw [bnum_DB _ (by have:=h.2.1; omega),bnum_DB _ (by omega)] at a1
   rw [bnum_DB _ (by have:=h.2.2.2.1; omega),bnum_DB _ (by omega)] at a2
   rw [v1,w1]; exact ⟨a1.symm,a2.symm⟩
 ·refine Exists.elim (show ∃ v w:Vx 64 4,ecdsa_read sig=some (v,w,false) from ?_) fun v ⟨w,h⟩=>⟨v,w,false,h,⟨fun c=>(Bool.false_ne_true c).elim,fun c=>absurd c hS⟩,fun r s c=>absurd ⟨r,s,c⟩ hS⟩
  unfold ecdsa_read
  obtain ⟨u,hu,hc⟩:=Get_ex sig 0 hl (Nat.zero_le _)
  rcases hc with hc | ⟨h,c,rfl,h2,hle,hcl,ht,hsh⟩
  ·exact ⟨_,_,bind_i hu (bind_i (v:=true) (if_i hc rfl) (if_i rfl rfl))⟩
  by_cases hend:((0+h+c:Nat):Int) ≠ (sig.length:Int)
  ·exact ⟨_,_,bind_i hu (bind_i (v:=true) (if_n (by simp) (if_i hend rfl)) (if_i rfl rfl))⟩
  by_cases h48:(((sg sig ((0:Nat):Int)).toNat:Int)) ≠ 48
  ·exact ⟨_,_,bind_i hu (bind_i (v:=true) (if_n (by simp) (if_n hend (by simpa using h48))) (if_i rfl rfl))⟩
  have hend':h+c=sig.length:=by omega
  rw [Nat.zero_add] at hu
  obtain ⟨B,hB⟩ : ∃ B,B=sub sig h (h+c):=⟨_,rfl⟩
  have hBl:B.length=c:=by rw [hB,sub_length (by omega)]; omega
  rw [← hB] at hu
  have f1:(if (0:Int) ≠ 0 then some true else if ((h+c:Nat):Int) ≠ (sig.length:Int) then some true else some (decide (((sg sig ((0:Nat):Int)).toNat:Int) ≠ 48)))=some false:=if_n (by simp) (if_n (by omega) (by simpa using h48))
  obtain ⟨l,hA,hlc⟩:=All_ex B (by omega)
  rcases hlc with hlc | ⟨hl0,hpar⟩
  ·exact ⟨_,_,bind_i hu (bind_i f1 (if_n Bool.false_ne_true (bind_i hA (bind_i (v:=true) (if_i hlc rfl) (if_i rfl rfl)))))⟩
  obtain ⟨e,l⟩:=l
  dsimp only at hl0 hpar
  subst hl0
  by_cases hlen:((l.length:Int)) ≠ 2
  ·exact ⟨_,_,bind_i hu (bind_i f1 (if_n Bool.false_ne_true (bind_i hA (bind_i (v:=true) (if_n (by simp) (by simpa using hlen)) (if_i rfl rfl)))))⟩
  have hlen2:l.length=2:=by omega
  obtain ⟨x,y,rfl⟩ : ∃ x y,l=[x,y]:=by
   match l,hlen2 with
   | [x,y],_=>exact ⟨x,y,rfl⟩
  obtain ⟨a,g1,g2,hal,h0,halt⟩:=hpar.two
  obtain ⟨u1,hu1,hc1⟩:=Get_ex B 0 (by omega) (Nat.zero_le _)
  obtain ⟨u2,hu2,hc2⟩:=Get_ex B a (by omega) hal
  rw [show ((0:Nat):Int)=0 from rfl,g1] at hu1
  rw [g2] at hu2
  have hu1:=(Option.some.inj hu1).symm
  have hu2:=(Option.some.inj hu2).symm
  subst hu1 hu2
  rcases hc1 with hc1 | ⟨p1,c1,q1,k1,le1,cl1,t1,s1⟩
  ·exact absurd rfl hc1
  rcases hc2 with hc2 | ⟨p2,c2,q2,k2,le2,cl2,t2,s2⟩
  ·exact absurd rfl hc2
  simp only [Prod.mk.injEq] at q1 q2
  obtain ⟨x1,x2⟩:=x
  obtain ⟨y1,y2⟩:=y
  obtain ⟨ex1,ex2,ea, -⟩:=q1
  obtain ⟨ey1,ey2,eb, -⟩:=q2
  dsimp only at ex1 ex2 ey1 ey2 g1 g2
  have ea:a=p1+c1:=by omega
  have eb:B.length=a+p2+c2:=by omega
  obtain ⟨v,b1,i1,f1',g1'⟩:=integer_any _ (sg_lt B ((0:Nat):Int)) t1 x2 (by rw [ex2,sub_length (by omega)]; omega)
  obtain ⟨w,b2,i2,f2',g2'⟩:=integer_any _ (sg_lt B (a:Int)) t2 y2 (by rw [ey2,sub_length (by omega)]; omega)
  rw [← ex1] at i1
  rw [← ey1] at i2
  have f2:(if (0:Int) ≠ 0 then some true else some (decide ((([(x1,x2),(y1,y2)]:List (Int × Str)).length:Int) ≠ 2)))=some false:=if_n (by simp) (by simp)
  cases b1 with
  | false=>exact ⟨v,w,bind_i hu (bind_i f1 (if_n Bool.false_ne_true (bind_i hA (bind_i f2 (if_n Bool.false_ne_true (if_i (by simp) (bind_i i1 (if_i (by simp) (bind_i i2 (if_n Bool.false_ne_true rfl))))))))))⟩
  | true =>
   cases b2 with
   | false=>exact ⟨v,w,bind_i hu (bind_i f1 (if_n Bool.false_ne_true (bind_i hA (bind_i f2 (if_n Bool.false_ne_true (if_i (by simp) (bind_i i1 (if_i (by simp) (bind_i i2 (if_i rfl rfl))))))))))⟩
   | true =>
    exfalso
    obtain ⟨r,rt,r0,r1,rx⟩:=f1'.1 rfl
    obtain ⟨s,st,s0,s1',sx⟩:=f2'.1 rfl
    have lx:c1=(DB r).length:=by rw [← rx,ex2,sub_length (by omega)]; omega
    have ly:c2=(DB s).length:=by rw [← sx,ey2,sub_length (by omega)]; omega
    have br:=(DB_len r).2
    have bs:=(DB_len s).2
    obtain ⟨e1,e2⟩:=s1 (by omega)
    obtain ⟨e3,e4⟩:=s2 (by omega)
    subst e1 e3
    have n8 : ∀ (z:BitVec 8) (n:Nat),z.toNat=n → z=BitVec.ofNat 8 n:=fun z n hz=>BitVec.eq_of_toNat_eq (by rw [hz,BitVec.toNat_ofNat]; have:=z.isLt; omega)
    have dr:sub B 0 (0+2+c1)=DI r:=by
     rw [cut_head B 0 c1 (by omega), ← ex2,rx]
     unfold DI
     rw [n8 _ 2 rt,n8 _ c1 e2,lx]
    have ds:sub B a (a+2+c2)=DI s:=by
     rw [cut_head B a c2 (by omega), ← ey2,sx]
     unfold DI
     rw [n8 _ 2 st,n8 _ c2 e4,ly]
    have hBB:B=DI r++DI s:=by
     have j:=sub_join B 0 a B.length (by omega) hal (Nat.le_refl _)
     rw [sub_all] at j
     rw [← j, ← dr, ← ds]
     congr 2 <;> omega
    have hc70:c≤70:=by rw [← hBl,hBB]; exact SG_len r s
    obtain ⟨e5,e6⟩:=hsh (by omega)
    subst e5
    refine hS ⟨r,s,r0,r1,s0,s1',?_⟩
    have hw:sub sig 0 (0+2+c)=sig:=sub_all' sig _ (by omega)
    have hh:=cut_head sig 0 c (by omega)
    rw [hw] at hh
    rw [hh]
    have e48:sg sig ((0:Nat):Int)=48#8:=by
     have:=n8 (sg sig ((0:Nat):Int)) 48 (by omega)
     exact this
    have hBs:sub sig (0+2) (0+2+c)=B:=by rw [hB]
    rw [e48,n8 _ c e6,hBs,hBB]
    unfold SG
    rw [← hBB,hBl]
end Go.Kx
end

section
namespace Go.Proofs
open Go Go.Kx
open Vector (replicate)
open TryI Try
def halberdref9_taken.b0  (s0:Str):Option ((Str) ⊕ (Str)) :=
 if 32<((s0).length:Int) then (if 1≤(s0).length then (ltt (sub s0 1 ((s0).length)) fun (b3:Str)=>(some (.inl b3))) else none) else (some (.inr s0))
def halberdref9_taken (s_:Str) (at_:Int):Option (Vx 32 8 × Int × Bool) :=
 (if (w64 (((s_).length:Int) - 2))<at_ then (some true) else (if 0≤at_∧at_<((s_).length:Int) then (some (decide ((sg s_ at_) ≠ 2#8))) else none)).bind fun (j1:Bool)=>(if j1=true then (ltt ((replicate 8 0#32:Vx 32 8)) fun (m_1:Vx 32 8)=>(some (m_1,0,false))) else (if 0≤w64 (at_+1)∧w64 (at_+1)<((s_).length:Int) then (ltt (((sg s_ (w64 (at_+1))).toNat:Int)) fun (k_1:Int)=>((if k_1<1 then (some true) else (if 33<k_1 then (some true) else (some (decide (((s_).length:Int)<(w64 ((w64 (at_+2))+k_1))))))).bind fun (j2:Bool)=>(if j2=true then (ltt ((replicate 8 0#32:Vx 32 8)) fun (m_2:Vx 32 8)=>(some (m_2,0,false))) else (if 0≤w64 ((w64 (at_+2))+k_1) then (if 0≤w64 (at_+2) then (if (w64 ((w64 (at_+2))+k_1)).toNat≤(s_).length then (if (w64 (at_+2)).toNat≤(w64 ((w64 (at_+2))+k_1)).toNat then (ltt (sub s_ ((w64 (at_+2)).toNat) ((w64 ((w64 (at_+2))+k_1)).toNat)) fun (b2:Str)=>((loop (halberdref9_taken.b0) BIG b2).bind fun (t_1:Str)=>(if 0≤w64 (32 - ((t_1).length:Int))∧w64 (32 - ((t_1).length:Int))≤17592186044416 then (if (List.replicate ((w64 (32 - ((t_1).length:Int))).toNat) 0#8).length=(w64 (32 - ((t_1).length:Int))).toNat then (if (List.replicate ((w64 (32 - ((t_1).length:Int))).toNat) 0#8).length+(t_1).length≤4611686018427387904 then ((halberdref9_get ((List.replicate ((w64 (32 - ((t_1).length:Int))).toNat) 0#8)++t_1)).bind fun (r_1:Vx 32 8)=>((halberdref9_integer r_1).bind fun (r_2:Str)=>(if 0≤w64 ((w64 (at_+2))+k_1) then (if 0≤at_ then (if (w64 ((w64 (at_+2))+k_1)).toNat≤(s_).length then (if (at_).toNat≤(w64 ((w64 (at_+2))+k_1)).toNat then (if r_2=sub s_ ((at_).toNat) ((w64 ((w64 (at_+2))+k_1)).toNat) then (if r_1 ≠ (replicate 8 0#32:Vx 32 8) then ((halberdref9_modulus 1).bind fun (r_3:Vx 32 8)=>((halberdref9_less r_1 r_3).bind fun (r_4:Bool)=>(ltt (w64 ((w64 (at_+2))+k_1)) fun (x1:Int)=>(some (r_1,x1,r_4))))) else (ltt (w64 ((w64 (at_+2))+k_1)) fun (x2:Int)=>(some (r_1,x2,false)))) else (ltt (w64 ((w64 (at_+2))+k_1)) fun (x3:Int)=>(some (r_1,x3,false)))) else none) else none) else none) else none))) else none) else none) else none))) else none) else none) else none) else none)))) else none))
set_option maxHeartbeats 4000000 in
set_option maxRecDepth 20000 in
theorem F71_calls (s_:Str) (at_:Int) (r:Vx 32 8 × Int × Bool) (H:halberdref9_taken s_ at_=some r) :
  Does Try.prog 71 [vs s_,vi at_] [] [] (Γ:=Unit) (fun g=>Value.tuple [aG [(8,e32 r.1.toList)],vi r.2.1,vb r.2.2].toArray) (fun g=>[]):=by
 intro w hmem hro hd
 refine calls_of (N:=89) (m0:=[(0,vs s_),(1,vi at_)]) func71 rfl ntmps71 (argM_ok [vs s_,vi at_]) rfl hmem hro hd ?_
 unfold halberdref9_taken at H
 refine TC_seq (TC_region (TLe (E_al32 8 inf31 zer31) (fun b1=>?_)))
 refine TVa ?_
 refine TVa ?_
 refine TL_nil (TX_next (TC_seq (TC_seq (TC_region (TVm ?_)))))
 refine TVm ?_
 refine TLv (V_len_str rfl underlying9) ?_
 refine TLv (V_bin rfl rfl (fun w=>subI w ((s_).length:Int) 2)) ?_
 refine TLv (V_bin rfl rfl (fun w=>gtrI w at_ (w64 (((s_).length:Int) - 2)))) ?_
 refine TVm ?_
 obtain ⟨j1,Hj,H⟩:=bind_elim H
 refine TL_join (Γ:=Unit) (fun gj1=>[(0,vs s_),(1,vi at_),(4,ptr (some (b1,0)) 0),(20,vb j1)]) (fun gj1=>[⟨some (b1,0),e32 ((replicate 8 0#32).toList)⟩]) ?_ ?_
 ·intro gj1
  refine TX_next (TCb H (fun hc H=>?_) (fun hc H=>?_))
  ·refine TC_seq (TC_region (TLv (V_buildArr (pv:=[]) rfl rfl underlying31 inf31 inf29 rfl zer31 (cs:=e32 ((replicate 8 0#32:Vx 32 8).toList)) (by kernel_rfl)) ?_))
   refine TLn (E_sv 0 inf31) (fun _=>?_)
   obtain ⟨m_1,hm_1,H⟩:=ltt_elim H
   refine TL_reE (j:=0) (A:=some (b1,0)) (cs:=e32 ((replicate 8 0#32:Vx 32 8).toList)) (cs':=e32 m_1.toList) rfl (congrArg (fun z:Vx 32 8=>e32 (Vector.toList z)) hm_1) ?_
   refine TVa ?_
   refine TVa ?_
   refine TL_nil (TX_next (TC_ret (TX_then_ret ?_)))
   obtain rfl:=sj H
   exact TXr (vs:=[_,_,_]) rfl ⟨(Res_agg (n:=8) rfl (by simp) (.o 0) isAgg31 inf31 rfl (lenV (f:=v32) m_1)),rfl,rfl,trivial⟩
  ·refine TC_skip (TX_next (TC_seq (TC_region (TVm ?_))))
   refine TVm ?_
   refine TLv (V_bin rfl rfl (fun w=>addI w at_ 1)) ?_
   obtain ⟨h1,H⟩:=if_elim H
   refine TLv (V_idxStr rfl rfl (i:=w64 (at_+1)) underlying9 h1.1 h1.2) ?_
   refine TLv (V_conv rfl (fun w=>cv8toI w _ _ underlying3 (und5) (sg s_ (w64 (at_+1))))) ?_
   refine TVa ?_
   obtain ⟨k_1,hk_1,H⟩:=ltt_elim H
   refine TLr 7 (congrArg vi hk_1) ?_
   refine TL_nil (TX_next (TC_seq (TC_seq (TC_region (TVm ?_)))))
   refine TLv (V_bin rfl rfl (fun w=>lssI w k_1 1)) ?_
   refine TVm ?_
   obtain ⟨j2,Hj,H⟩:=bind_elim H
   refine TL_join (Γ:=Unit) (fun gj2=>[(0,vs s_),(1,vi at_),(4,ptr (some (b1,0)) 0),(7,vi k_1),(41,vb j2)]) (fun gj2=>[⟨some (b1,0),e32 ((replicate 8 0#32).toList)⟩]) ?_ ?_
   ·intro gj2
    refine TX_next (TCb H (fun hc H=>?_) (fun hc H=>?_))
    ·refine TC_seq (TC_region (TLv (V_buildArr (pv:=[]) rfl rfl underlying31 inf31 inf29 rfl zer31 (cs:=e32 ((replicate 8 0#32:Vx 32 8).toList)) (by kernel_rfl)) ?_))
     refine TLn (E_sv 0 inf31) (fun _=>?_)
     obtain ⟨m_2,hm_2,H⟩:=ltt_elim H
     refine TL_reE (j:=0) (A:=some (b1,0)) (cs:=e32 ((replicate 8 0#32:Vx 32 8).toList)) (cs':=e32 m_2.toList) rfl (congrArg (fun z:Vx 32 8=>e32 (Vector.toList z)) hm_2) ?_
     refine TVa ?_
     refine TVa ?_
     refine TL_nil (TX_next (TC_ret (TX_then_ret ?_)))
     obtain rfl:=sj H
     exact TXr (vs:=[_,_,_]) rfl ⟨(Res_agg (n:=8) rfl (by simp) (.o 0) isAgg31 inf31 rfl (lenV (f:=v32) m_2)),rfl,rfl,trivial⟩
    ·refine TC_skip (TX_next (TC_seq (TC_region (TVm ?_))))
     refine TVm ?_
     refine TLv (V_bin rfl rfl (fun w=>addI w at_ 2)) ?_
     refine TVm ?_
     refine TLv (V_bin rfl rfl (fun w=>addI w at_ 2)) ?_
     refine TVm ?_
     refine TLv (V_bin rfl rfl (fun w=>addI w (w64 (at_+2)) k_1)) ?_
     obtain ⟨h2,H⟩:=if_elim H
     obtain ⟨h3,H⟩:=if_elim H
     obtain ⟨h4,H⟩:=if_elim H
     obtain ⟨h5,H⟩:=if_elim H
     refine TLv (V_sliceStr (l:=(w64 (at_+2)).toNat) (h:=(w64 ((w64 (at_+2))+k_1)).toNat) rfl underlying9 (Bnd.some' (i:=w64 (at_+2)) rfl h3) (Bnd.some' (i:=w64 ((w64 (at_+2))+k_1)) rfl h2) h5 h4) ?_
     refine TVa ?_
     obtain ⟨b2,hb2,H⟩:=ltt_elim H
     refine TLr 8 (congrArg vs hb2) ?_
     refine TL_nil (TX_next (TC_seq (TC_block ?_)))
     obtain ⟨t_1,Hl,H⟩:=bind_elim H
     refine TC.sub (m':=[(0,_),(1,_),(4,_),(7,_),(8,_)]) ⟨rfl,rfl,rfl,rfl,rfl,trivial⟩ ?_
     refine TC.pull (is:=[0]) (L':=[_]) rfl ?_
     refine TC_loopL (id:=0) (body:=(halberdref9_taken.b0)) (σ:=Str) (Γ:=Unit) (Γx:=Unit) (fun s0 g0_=>[(0,vs s_),(1,vi at_),(4,ptr (some (b1,0)) 0),(7,vi k_1),(8,vs s0)]) (fun s0 g0_=>[⟨some (b1,0),e32 ((replicate 8 0#32).toList)⟩]) (fun t g=>[(0,vs s_),(1,vi at_),(4,ptr (some (b1,0)) 0),(7,vi k_1),(8,vs t)]) (fun t g=>[⟨some (b1,0),e32 ((replicate 8 0#32).toList)⟩]) ?_ BIG b2 () t_1 Hl ?_
     ·intro s0 g0_ r1 H K hK hE
      unfold halberdref9_taken.b0 at H
      refine TC_seq (TC_seq (TC_region (TVm ?_)))
      refine TLv (V_len_str rfl underlying9) ?_
      refine TLv (V_bin rfl rfl (fun w=>gtrI w ((s0).length:Int) 32)) ?_
      refine TL_nil (TX_next (TCd H (fun hc H=>?_) (fun hc H=>?_)))
      ·refine TC_skip (TX_next (TC_block (TC_region (TVm ?_))))
       obtain ⟨h6,H⟩:=if_elim H
       refine TLv (V_sliceStr (l:=1) (h:=(s0).length) rfl underlying9 (Bnd.some' (i:=1) rfl (by decide)) Bnd.none' h6 (Nat.le_refl _)) ?_
       refine TVa ?_
       obtain ⟨b3,hb3,H⟩:=ltt_elim H
       refine TLr 8 (congrArg vs hb3) ?_
       refine TL_nil (TX_block_normal ?_)
       obtain rfl:=sj H
       exact TXk [0] (hK b3 rfl ())
      ·refine TC_exit (TX_then_exit (TX_then_exit ?_))
       obtain rfl:=sj H
       exact TXj [0] (hE s0 rfl ())
     ·intro g
      refine TX_block_exit (TX_next (TC_seq (TC_region (TVm ?_))))
      refine TLv (V_len_str rfl underlying9) ?_
      refine TLv (V_bin rfl rfl (fun w=>subI w 32 ((t_1).length:Int))) ?_
      obtain ⟨h7,H⟩:=if_elim H
      refine TLe (E_mk1 rfl rfl underlying42 inf5 (z:=v8 0#8) rfl rfl rfl (B:=1) rfl h7.1 (Int.le_refl _) (by have:=h7; omega) (by have:=h7; omega) (n':=(w64 (32 - ((t_1).length:Int))).toNat) (c':=(w64 (32 - ((t_1).length:Int))).toNat) rfl rfl (cs:=e8 (List.replicate ((w64 (32 - ((t_1).length:Int))).toNat) 0#8)) (rep_map (f:=v8))) (fun b4=>?_)
      obtain ⟨h8,H⟩:=if_elim H
      refine TLv (V_b2s rfl underlying42 underlying5 underlying9 (.o 0) h8) ?_
      refine TVm ?_
      obtain ⟨h9,H⟩:=if_elim H
      refine TLv (V_bin rfl rfl (fun w=>addS w (List.replicate ((w64 (32 - ((t_1).length:Int))).toNat) 0#8) t_1 h9)) ?_
      obtain ⟨r_1,hr_1,H⟩:=bind_elim H
      refine TLe (E_c0 (F67_calls ((List.replicate ((w64 (32 - ((t_1).length:Int))).toNat) 0#8)++t_1) r_1 hr_1) call67 .z) (fun g_1=>?_)
      refine TLe (E_al32 8 inf31 zer31) (fun b5=>?_)
      refine TLn (E_sv (vs:=e32 r_1.toList) 0 inf31) (fun _=>?_)
      refine TL_nil (TX_next (TC_seq ?_))
      obtain ⟨r_2,hr_2,H⟩:=bind_elim H
      obtain ⟨h10,H⟩:=if_elim H
      obtain ⟨h11,H⟩:=if_elim H
      obtain ⟨h12,H⟩:=if_elim H
      obtain ⟨h13,H⟩:=if_elim H
      refine TC_em (decide (r_2=sub s_ ((at_).toNat) ((w64 ((w64 (at_+2))+k_1)).toNat))) (fun hg10_16=>?_) (fun hg10_16=>?_)
      ·replace H:=ite_t (of_decide_eq_true hg10_16) H
       refine TC_em (decide (r_1 ≠ (replicate 8 0#32:Vx 32 8))) (fun hg10_21=>?_) (fun hg10_21=>?_)
       ·replace H:=ite_t (of_decide_eq_true hg10_21) H
        obtain ⟨r_3,hr_3,H⟩:=bind_elim H
        obtain ⟨r_4,hr_4,H⟩:=bind_elim H
        obtain ⟨x1,hx1,H⟩:=ltt_elim H
        refine TA_begin [⟨some (b5,0),e32 r_1.toList⟩,⟨some (b4,0),e8 (List.replicate ((w64 (32 - ((t_1).length:Int))).toNat) 0#8)⟩] 27 (by kernel_rfl) (N:=28) rfl ?_
        refine TA_tk 0 [0,0] (dn 28 1) rfl rfl (V_lag (.o 0) isAgg31 inf31) ?_
        refine TA_tk 1 [0,0] (dn 28 3) rfl rfl (V_move rfl) ?_
        refine TA_tk 2 [0,0] (dn 28 7) rfl rfl (V_bin rfl rfl (fun w=>addI w at_ 2)) ?_
        refine TA_tk 3 [0,0] (dn 28 15) rfl rfl (V_move rfl) ?_
        refine TA_tk 4 [0,0] (dn 28 31) rfl rfl (V_bin rfl rfl (fun w=>addI w (w64 (at_+2)) k_1)) ?_
        refine TA_tk 5 [0,0] (dn 28 63) rfl rfl (V_lag (.o 0) isAgg31 inf31) ?_
        refine TA_tk 7 [0,0] (dn 28 191) rfl rfl (V_move rfl) ?_
        refine TA_tk 8 [0,0] (dn 28 447) rfl rfl (V_move rfl) ?_
        refine TA_tk 9 [0,0] (dn 28 959) rfl rfl (V_move rfl) ?_
        refine TA_tk 10 [0,0] (dn 28 1983) rfl rfl (V_bin rfl rfl (fun w=>addI w at_ 2)) ?_
        refine TA_tk 11 [0,0] (dn 28 4031) rfl rfl (V_move rfl) ?_
        refine TA_tk 12 [0,0] (dn 28 8127) rfl rfl (V_bin rfl rfl (fun w=>addI w (w64 (at_+2)) k_1)) ?_
        refine TA_tk 13 [0,0] (dn 28 16319) rfl rfl (V_sliceStr (l:=(at_).toNat) (h:=(w64 ((w64 (at_+2))+k_1)).toNat) rfl underlying9 (Bnd.some' (i:=at_) rfl h11) (Bnd.some' (i:=w64 ((w64 (at_+2))+k_1)) rfl h10) h13 h12) ?_
        refine TA_all (rs:=[6]) (by kernel_rfl) rfl ?_
        refine ⟨?_,trivial⟩
        refine TO_e (is:=[0,0]) (done':=dn 28 16383) rfl rfl rfl rfl (by kernel_rfl) (E_c0 (F68_calls r_1 r_2 hr_2) call68 .z) (fun _ _=>rfl) (fun g_2=>?_)
        refine TA_tk 14 [0,0] (dn 28 32767) rfl rfl (V_bin rfl rfl (fun w=>eqlS w r_2 (sub s_ ((at_).toNat) ((w64 ((w64 (at_+2))+k_1)).toNat)))) ?_
        refine TA_tk 15 [0,0] (dn 28 65535) rfl rfl (V_move rfl) ?_
        refine TA_re (d:=79) (v:=vb (decide (r_2=sub s_ ((at_).toNat) ((w64 ((w64 (at_+2))+k_1)).toNat)))) (v':=vb true) rfl (congrArg vb hg10_16) ?_
        refine TA_tw 16 [0,0] (dn 28 131071) rfl rfl (V_lag (.o 0) isAgg31 inf31) ?_
        refine TA_tw 17 [0,0] (dn 28 262143) rfl rfl (V_buildArr (pv:=[]) rfl rfl underlying31 inf31 inf29 rfl zer31 (cs:=e32 ((replicate 8 0#32:Vx 32 8).toList)) (by kernel_rfl)) ?_
        refine TA_tw 18 [0,0] (dn 28 524287) rfl rfl (V_bin rfl rfl (fun w=>neqA32 w underlying31 underlying29 (by kernel_rfl) (by kernel_rfl) r_1 (replicate 8 0#32:Vx 32 8))) ?_
        refine TA_tk 19 [0,0] (dn 28 1048575) rfl rfl (V_pick (b:=true) rfl rfl) ?_
        refine TA_tk 20 [0,0] (dn 28 2097151) rfl rfl (V_move rfl) ?_
        refine TA_re (d:=84) (v:=vb (decide (r_1 ≠ (replicate 8 0#32:Vx 32 8)))) (v':=vb true) rfl (congrArg vb hg10_21) ?_
        refine TA_tw 21 [0,0] (dn 28 4194303) rfl rfl (V_lag (.o 0) isAgg31 inf31) ?_
        refine TA_all (rs:=[22]) (by kernel_rfl) rfl ?_
        refine ⟨?_,trivial⟩
        refine TO_eW (is:=[0,0]) (done':=dn 28 8388607) rfl rfl rfl rfl rfl rfl rfl (by kernel_rfl) (E_c0 (F79_calls 1 r_3 hr_3) call79 .z) (fun _ _=>rfl) (fun g_3=>?_)
        refine TA_all (rs:=[23]) (by kernel_rfl) rfl ?_
        refine ⟨?_,trivial⟩
        refine TO_eW (is:=[0,0]) (done':=dn 28 16777215) rfl rfl rfl rfl rfl rfl rfl (by kernel_rfl) (E_c0 (F78_calls r_1 r_3 r_4 hr_4) call78 .z) (fun _ _=>rfl) (fun g_4=>?_)
        refine TA_tk 24 [0,0] (dn 28 33554431) rfl rfl (V_pick (b:=true) rfl rfl) ?_
        refine TA_all (rs:=[25]) (by kernel_rfl) rfl ?_
        refine ⟨?_,trivial⟩
        refine TO_n (is:=[0,0]) (done':=dn 28 67108863) rfl rfl rfl (by kernel_rfl) (E_sv (vs:=e32 r_1.toList) 2 inf31) (fun _ _=>rfl) (fun _=>?_)
        refine TA_tk 26 [0,0] (dn 28 134217727) rfl rfl (V_assign rfl) ?_
        refine TA_re (d:=5) (v:=vi (w64 ((w64 (at_+2))+k_1))) (v':=vi x1) rfl (congrArg vi hx1) ?_
        refine TA_all (rs:=[27]) (by kernel_rfl) rfl ?_
        refine ⟨?_,trivial⟩
        refine TO_v (is:=[]) (R:=[]) (done':=dn 28 268435455) rfl rfl rfl rfl (by kernel_rfl) (V_assign rfl) (fun h=>by cases h) ?_
        refine TA_done (by kernel_rfl) ?_ 0
        refine TX_next (TC.sub (m':=[(4,_),(5,_),(6,_)]) ⟨rfl,rfl,rfl,trivial⟩ ?_)
        refine TC.pull (is:=[2]) (L':=[_]) rfl ?_
        refine TC_ret ?_
        obtain rfl:=sj H
        exact TXr (vs:=[_,_,_]) rfl ⟨(Res_agg (n:=8) rfl (by simp) (.o 0) isAgg31 inf31 rfl (lenV (f:=v32) r_1)),rfl,rfl,trivial⟩
       ·replace H:=ite_f (of_decide_eq_false hg10_21) H
        obtain ⟨x2,hx2,H⟩:=ltt_elim H
        refine TA_begin [⟨some (b5,0),e32 r_1.toList⟩,⟨some (b4,0),e8 (List.replicate ((w64 (32 - ((t_1).length:Int))).toNat) 0#8)⟩] 27 (by kernel_rfl) (N:=28) rfl ?_
        refine TA_tk 0 [0,0] (dn 28 1) rfl rfl (V_lag (.o 0) isAgg31 inf31) ?_
        refine TA_tk 1 [0,0] (dn 28 3) rfl rfl (V_move rfl) ?_
        refine TA_tk 2 [0,0] (dn 28 7) rfl rfl (V_bin rfl rfl (fun w=>addI w at_ 2)) ?_
        refine TA_tk 3 [0,0] (dn 28 15) rfl rfl (V_move rfl) ?_
        refine TA_tk 4 [0,0] (dn 28 31) rfl rfl (V_bin rfl rfl (fun w=>addI w (w64 (at_+2)) k_1)) ?_
        refine TA_tk 5 [0,0] (dn 28 63) rfl rfl (V_lag (.o 0) isAgg31 inf31) ?_
        refine TA_tk 7 [0,0] (dn 28 191) rfl rfl (V_move rfl) ?_
        refine TA_tk 8 [0,0] (dn 28 447) rfl rfl (V_move rfl) ?_
        refine TA_tk 9 [0,0] (dn 28 959) rfl rfl (V_move rfl) ?_
        refine TA_tk 10 [0,0] (dn 28 1983) rfl rfl (V_bin rfl rfl (fun w=>addI w at_ 2)) ?_
        refine TA_tk 11 [0,0] (dn 28 4031) rfl rfl (V_move rfl) ?_
        refine TA_tk 12 [0,0] (dn 28 8127) rfl rfl (V_bin rfl rfl (fun w=>addI w (w64 (at_+2)) k_1)) ?_
        refine TA_tk 13 [0,0] (dn 28 16319) rfl rfl (V_sliceStr (l:=(at_).toNat) (h:=(w64 ((w64 (at_+2))+k_1)).toNat) rfl underlying9 (Bnd.some' (i:=at_) rfl h11) (Bnd.some' (i:=w64 ((w64 (at_+2))+k_1)) rfl h10) h13 h12) ?_
        refine TA_all (rs:=[6]) (by kernel_rfl) rfl ?_
        refine ⟨?_,trivial⟩
        refine TO_e (is:=[0,0]) (done':=dn 28 16383) rfl rfl rfl rfl (by kernel_rfl) (E_c0 (F68_calls r_1 r_2 hr_2) call68 .z) (fun _ _=>rfl) (fun g_2=>?_)
        refine TA_tk 14 [0,0] (dn 28 32767) rfl rfl (V_bin rfl rfl (fun w=>eqlS w r_2 (sub s_ ((at_).toNat) ((w64 ((w64 (at_+2))+k_1)).toNat)))) ?_
        refine TA_tk 15 [0,0] (dn 28 65535) rfl rfl (V_move rfl) ?_
        refine TA_re (d:=79) (v:=vb (decide (r_2=sub s_ ((at_).toNat) ((w64 ((w64 (at_+2))+k_1)).toNat)))) (v':=vb true) rfl (congrArg vb hg10_16) ?_
        refine TA_tw 16 [0,0] (dn 28 131071) rfl rfl (V_lag (.o 0) isAgg31 inf31) ?_
        refine TA_tw 17 [0,0] (dn 28 262143) rfl rfl (V_buildArr (pv:=[]) rfl rfl underlying31 inf31 inf29 rfl zer31 (cs:=e32 ((replicate 8 0#32:Vx 32 8).toList)) (by kernel_rfl)) ?_
        refine TA_tw 18 [0,0] (dn 28 524287) rfl rfl (V_bin rfl rfl (fun w=>neqA32 w underlying31 underlying29 (by kernel_rfl) (by kernel_rfl) r_1 (replicate 8 0#32:Vx 32 8))) ?_
        refine TA_tk 19 [0,0] (dn 28 1048575) rfl rfl (V_pick (b:=true) rfl rfl) ?_
        refine TA_tk 20 [0,0] (dn 28 2097151) rfl rfl (V_move rfl) ?_
        refine TA_re (d:=84) (v:=vb (decide (r_1 ≠ (replicate 8 0#32:Vx 32 8)))) (v':=vb false) rfl (congrArg vb hg10_21) ?_
        refine TA_ts 21 [0,0] (dn 28 4194303) rfl rfl ?_
        refine TA_ts 22 [0,0] (dn 28 8388607) rfl rfl ?_
        refine TA_ts 23 [0,0] (dn 28 16777215) rfl rfl ?_
        refine TA_tk 24 [0,0] (dn 28 33554431) rfl rfl (V_pick (b:=false) rfl rfl) ?_
        refine TA_all (rs:=[25]) (by kernel_rfl) rfl ?_
        refine ⟨?_,trivial⟩
        refine TO_n (is:=[0,0]) (done':=dn 28 67108863) rfl rfl rfl (by kernel_rfl) (E_sv (vs:=e32 r_1.toList) 2 inf31) (fun _ _=>rfl) (fun _=>?_)
        refine TA_tk 26 [0,0] (dn 28 134217727) rfl rfl (V_assign rfl) ?_
        refine TA_re (d:=5) (v:=vi (w64 ((w64 (at_+2))+k_1))) (v':=vi x2) rfl (congrArg vi hx2) ?_
        refine TA_all (rs:=[27]) (by kernel_rfl) rfl ?_
        refine ⟨?_,trivial⟩
        refine TO_v (is:=[]) (R:=[]) (done':=dn 28 268435455) rfl rfl rfl rfl (by kernel_rfl) (V_assign rfl) (fun h=>by cases h) ?_
        refine TA_done (by kernel_rfl) ?_ 0
        refine TX_next (TC.sub (m':=[(4,_),(5,_),(6,_)]) ⟨rfl,rfl,rfl,trivial⟩ ?_)
        refine TC.pull (is:=[2]) (L':=[_]) rfl ?_
        refine TC_ret ?_
        obtain rfl:=sj H
        exact TXr (vs:=[_,_,_]) rfl ⟨(Res_agg (n:=8) rfl (by simp) (.o 0) isAgg31 inf31 rfl (lenV (f:=v32) r_1)),rfl,rfl,trivial⟩
      ·replace H:=ite_f (of_decide_eq_false hg10_16) H
       obtain ⟨x3,hx3,H⟩:=ltt_elim H
       refine TA_begin [⟨some (b5,0),e32 r_1.toList⟩,⟨some (b4,0),e8 (List.replicate ((w64 (32 - ((t_1).length:Int))).toNat) 0#8)⟩] 27 (by kernel_rfl) (N:=28) rfl ?_
       refine TA_tk 0 [0,0] (dn 28 1) rfl rfl (V_lag (.o 0) isAgg31 inf31) ?_
       refine TA_tk 1 [0,0] (dn 28 3) rfl rfl (V_move rfl) ?_
       refine TA_tk 2 [0,0] (dn 28 7) rfl rfl (V_bin rfl rfl (fun w=>addI w at_ 2)) ?_
       refine TA_tk 3 [0,0] (dn 28 15) rfl rfl (V_move rfl) ?_
       refine TA_tk 4 [0,0] (dn 28 31) rfl rfl (V_bin rfl rfl (fun w=>addI w (w64 (at_+2)) k_1)) ?_
       refine TA_tk 5 [0,0] (dn 28 63) rfl rfl (V_lag (.o 0) isAgg31 inf31) ?_
       refine TA_tk 7 [0,0] (dn 28 191) rfl rfl (V_move rfl) ?_
       refine TA_tk 8 [0,0] (dn 28 447) rfl rfl (V_move rfl) ?_
       refine TA_tk 9 [0,0] (dn 28 959) rfl rfl (V_move rfl) ?_
       refine TA_tk 10 [0,0] (dn 28 1983) rfl rfl (V_bin rfl rfl (fun w=>addI w at_ 2)) ?_
       refine TA_tk 11 [0,0] (dn 28 4031) rfl rfl (V_move rfl) ?_
       refine TA_tk 12 [0,0] (dn 28 8127) rfl rfl (V_bin rfl rfl (fun w=>addI w (w64 (at_+2)) k_1)) ?_
       refine TA_tk 13 [0,0] (dn 28 16319) rfl rfl (V_sliceStr (l:=(at_).toNat) (h:=(w64 ((w64 (at_+2))+k_1)).toNat) rfl underlying9 (Bnd.some' (i:=at_) rfl h11) (Bnd.some' (i:=w64 ((w64 (at_+2))+k_1)) rfl h10) h13 h12) ?_
       refine TA_all (rs:=[6]) (by kernel_rfl) rfl ?_
       refine ⟨?_,trivial⟩
       refine TO_e (is:=[0,0]) (done':=dn 28 16383) rfl rfl rfl rfl (by kernel_rfl) (E_c0 (F68_calls r_1 r_2 hr_2) call68 .z) (fun _ _=>rfl) (fun g_2=>?_)
       refine TA_tk 14 [0,0] (dn 28 32767) rfl rfl (V_bin rfl rfl (fun w=>eqlS w r_2 (sub s_ ((at_).toNat) ((w64 ((w64 (at_+2))+k_1)).toNat)))) ?_
       refine TA_tk 15 [0,0] (dn 28 65535) rfl rfl (V_move rfl) ?_
       refine TA_re (d:=79) (v:=vb (decide (r_2=sub s_ ((at_).toNat) ((w64 ((w64 (at_+2))+k_1)).toNat)))) (v':=vb false) rfl (congrArg vb hg10_16) ?_
       refine TA_ts 16 [0,0] (dn 28 131071) rfl rfl ?_
       refine TA_ts 17 [0,0] (dn 28 262143) rfl rfl ?_
       refine TA_ts 18 [0,0] (dn 28 524287) rfl rfl ?_
       refine TA_tk 19 [0,0] (dn 28 1048575) rfl rfl (V_pick (b:=false) rfl rfl) ?_
       refine TA_tk 20 [0,0] (dn 28 2097151) rfl rfl (V_move rfl) ?_
       refine TA_ts 21 [0,0] (dn 28 4194303) rfl rfl ?_
       refine TA_ts 22 [0,0] (dn 28 8388607) rfl rfl ?_
       refine TA_ts 23 [0,0] (dn 28 16777215) rfl rfl ?_
       refine TA_tk 24 [0,0] (dn 28 33554431) rfl rfl (V_pick (b:=false) rfl rfl) ?_
       refine TA_all (rs:=[25]) (by kernel_rfl) rfl ?_
       refine ⟨?_,trivial⟩
       refine TO_n (is:=[0,0]) (done':=dn 28 67108863) rfl rfl rfl (by kernel_rfl) (E_sv (vs:=e32 r_1.toList) 2 inf31) (fun _ _=>rfl) (fun _=>?_)
       refine TA_tk 26 [0,0] (dn 28 134217727) rfl rfl (V_assign rfl) ?_
       refine TA_re (d:=5) (v:=vi (w64 ((w64 (at_+2))+k_1))) (v':=vi x3) rfl (congrArg vi hx3) ?_
       refine TA_all (rs:=[27]) (by kernel_rfl) rfl ?_
       refine ⟨?_,trivial⟩
       refine TO_v (is:=[]) (R:=[]) (done':=dn 28 268435455) rfl rfl rfl rfl (by kernel_rfl) (V_assign rfl) (fun h=>by cases h) ?_
       refine TA_done (by kernel_rfl) ?_ 0
       refine TX_next (TC.sub (m':=[(4,_),(5,_),(6,_)]) ⟨rfl,rfl,rfl,trivial⟩ ?_)
       refine TC.pull (is:=[2]) (L':=[_]) rfl ?_
       refine TC_ret ?_
       obtain rfl:=sj H
       exact TXr (vs:=[_,_,_]) rfl ⟨(Res_agg (n:=8) rfl (by simp) (.o 0) isAgg31 inf31 rfl (lenV (f:=v32) r_1)),rfl,rfl,trivial⟩
   ·intro hJ
    replace H:=Hj
    refine TFd (d:=29) H (fun hc H=>?_) (fun hc H=>?_)
    ·refine TLs ?_
     refine TLs ?_
     refine TVt ?_
     refine TVm ?_
     refine TLs ?_
     refine TLs ?_
     refine TLs ?_
     refine TLs ?_
     refine TLs ?_
     refine TLs ?_
     refine TLs ?_
     refine TVt ?_
     refine TL_nil ?_
     obtain rfl:=sj H
     exact TXj [0] (hJ ())
    ·refine TLw (V_move rfl) ?_
     refine TLw (V_bin rfl rfl (fun w=>gtrI w k_1 33)) ?_
     refine TVf ?_
     refine TVm ?_
     refine TFd (d:=33) H (fun hc H=>?_) (fun hc H=>?_)
     ·refine TLs ?_
      refine TLs ?_
      refine TLs ?_
      refine TLs ?_
      refine TLs ?_
      refine TLs ?_
      refine TLs ?_
      refine TVt ?_
      refine TL_nil ?_
      obtain rfl:=sj H
      exact TXj [0] (hJ ())
     ·refine TLw (V_move rfl) ?_
      refine TLw (V_bin rfl rfl (fun w=>addI w at_ 2)) ?_
      refine TLw (V_move rfl) ?_
      refine TLw (V_bin rfl rfl (fun w=>addI w (w64 (at_+2)) k_1)) ?_
      refine TLw (V_move rfl) ?_
      refine TLw (V_len_str rfl underlying9) ?_
      refine TLw (V_bin rfl rfl (fun w=>gtrI w (w64 ((w64 (at_+2))+k_1)) ((s_).length:Int))) ?_
      refine TVf ?_
      refine TL_nil ?_
      obtain rfl:=sj H
      exact TXj [0] (hJ ())
 ·intro hJ
  replace H:=Hj
  refine TFd (d:=15) H (fun hc H=>?_) (fun hc H=>?_)
  ·refine TLs ?_
   refine TLs ?_
   refine TLs ?_
   refine TLs ?_
   refine TVt ?_
   refine TL_nil ?_
   obtain rfl:=sj H
   exact TXj [0] (hJ ())
  ·refine TLw (V_move rfl) ?_
   refine TLw (V_move rfl) ?_
   obtain ⟨h14,H⟩:=if_elim H
   refine TLw (V_idxStr rfl rfl (i:=at_) underlying9 h14.1 h14.2) ?_
   refine TLw (V_bin rfl rfl (fun w=>neq8 w (sg s_ at_) 2#8)) ?_
   refine TVf ?_
   refine TL_nil ?_
   obtain rfl:=sj H
   exact TXj [0] (hJ ())
end Go.Proofs
end

section
namespace Go.Proofs
open Go Go.Kx
open Vector (replicate)
open TryI Try
def halberdref9_small (a_:Vx 32 8):Option (Vx 32 8) :=
 (halberdref9_modulus 1).bind fun (r_1:Vx 32 8)=>((halberdref9_less a_ r_1).bind fun (r_2:Bool)=>(if (!r_2)=true then ((halberdref9_modulus 1).bind fun (r_3:Vx 32 8)=>((halberdref9_minus a_ r_3).bind fun (r_4:Vx 32 8)=>(some r_4))) else (some a_)))
set_option maxHeartbeats 4000000 in
set_option maxRecDepth 20000 in
theorem F65_calls (a_:Vx 32 8) (r:Vx 32 8) (H:halberdref9_small a_=some r) :
  Does Try.prog 65 [aG [(8,e32 a_.toList)]] [] [] (Γ:=Unit) (fun g=>aG [(8,e32 r.toList)]) (fun g=>[]):=by
 intro w hmem hro hd
 refine calls_of (N:=11) (m0:=[(0,aG [(8,e32 a_.toList)])]) func65 rfl ntmps65 (argM_ok [aG [(8,e32 a_.toList)]]) rfl hmem hro hd ?_
 unfold halberdref9_small at H
 refine TC_seq (TC_region (TLe (E_boxP [(8,e32 a_.toList)] rfl rfl ⟨(lenV (f:=v32) a_),trivial⟩) (fun b1=>?_)))
 refine TLe (E_al32 8 inf31 zer31) (fun b2=>?_)
 refine TL_nil (TX_next (TC_seq (TC_seq ?_)))
 obtain ⟨r_1,hr_1,H⟩:=bind_elim H
 obtain ⟨r_2,hr_2,H⟩:=bind_elim H
 refine TA_begin [] 4 (by kernel_rfl) (N:=4) rfl ?_
 refine TA_mix (is:=[]) (done':=dn 4 15) [itV 0 3 (aG [(8,e32 a_.toList)]) [],itV 1 4 (aG [(8,e32 r_1.toList)]) [],itV 2 5 (vb r_2) [0,1],itV 3 6 (vb (!r_2)) [2]] [] 0 (by kernel_rfl) (QP.then (QP.then QP.body)) (by kernel_rfl) rfl (.v rfl (V_lag (.o 1) isAgg31 inf31) (.e rfl (E_cu (F79_calls 1 r_1 hr_1) call79 .z) (.e rfl (E_cu (F78_calls a_ r_1 r_2 hr_2) call78 .z) (.v rfl (V_un rfl (fun w=>notB w r_2)) .nil)))) .nil (by kernel_rfl) rfl (fun γ=>?_)
 refine TA_cut [(6,vb (!r_2)),(2,ptr (some (b2,0)) 0),(1,ptr (some (b1,0)) 0)] [⟨some (b2,0),e32 ((replicate 8 0#32).toList)⟩,⟨some (b1,0),e32 a_.toList⟩] ⟨rfl,rfl,rfl,trivial⟩ rfl ?_
 refine TA_done (by kernel_rfl) ?_ 0
 refine TX_next (TCb H (fun hc H=>?_) (fun hc H=>?_))
 ·obtain ⟨r_3,hr_3,H⟩:=bind_elim H
  obtain ⟨r_4,hr_4,H⟩:=bind_elim H
  refine TA_begin [] 4 (by kernel_rfl) (N:=4) rfl ?_
  refine TA_mix (is:=[]) (done':=dn 4 7) [itV 0 7 (aG [(8,e32 a_.toList)]) [],itV 1 8 (aG [(8,e32 r_3.toList)]) [],itV 2 9 (aG [(8,e32 r_4.toList)]) [1,0]] [] 1 (by kernel_rfl) (QP.then QP.body) (by kernel_rfl) rfl (.v rfl (V_lag (.o 1) isAgg31 inf31) (.e rfl (E_cu (F79_calls 1 r_3 hr_3) call79 .z) (.e rfl (E_cu (F82_calls a_ r_3 r_4 hr_4) call82 .z) .nil))) .nil (by kernel_rfl) rfl (fun γ=>?_)
  refine TA_cut [(9,aG [(8,e32 r_4.toList)]),(2,ptr (some (b2,0)) 0),(1,ptr (some (b1,0)) 0)] [⟨some (b2,0),e32 ((replicate 8 0#32).toList)⟩,⟨some (b1,0),e32 a_.toList⟩] ⟨rfl,rfl,rfl,trivial⟩ rfl ?_
  refine TA_all (rs:=[3]) (by kernel_rfl) rfl ?_
  refine ⟨?_,trivial⟩
  refine TO_n (is:=[]) (done':=dn 4 15) rfl rfl rfl (by kernel_rfl) (E_sv (vs:=e32 r_4.toList) 1 inf31) (fun _ _=>rfl) (fun _=>?_)
  refine TA_done (by kernel_rfl) ?_ 0
  refine TX_next (TC_seq (TC_region (TLv (V_lag (.o 1) isAgg31 inf31) ?_)))
  refine TLn (E_sv (vs:=e32 r_4.toList) 0 inf31) (fun _=>?_)
  refine TL_nil (TX_next (TC_ret ?_))
  obtain rfl:=sj H
  exact TXr (vs:=[_]) rfl ⟨(Res_agg (n:=8) rfl (by simp) (.o 0) isAgg31 inf31 rfl (lenV (f:=v32) r_4)),trivial⟩
 ·refine TC_skip (TX_next (TC_seq (TC_region (TLv (V_lag (.o 1) isAgg31 inf31) ?_))))
  refine TLn (E_sv (vs:=e32 a_.toList) 0 inf31) (fun _=>?_)
  refine TL_nil (TX_next (TC_ret ?_))
  obtain rfl:=sj H
  exact TXr (vs:=[_]) rfl ⟨(Res_agg (n:=8) rfl (by simp) (.o 0) isAgg31 inf31 rfl (lenV (f:=v32) a_)),trivial⟩
end Go.Proofs
end

section
namespace Go.Kx
open Go Go.Proofs
open Vector (replicate)
open Go.Nt hiding n4
theorem sub_tail (x:BitVec 8) (r:Str):sub (x :: r) 1 (x :: r).length=r:=by
 simp only [sub,List.drop_succ_cons,List.drop_zero]
 exact List.take_of_length_le (by simp)
theorem rInteger_loop : ∀ (b:Str) (fuel:Nat),b ≠ [] → b.length<fuel → loop halberdref9_integer.b0 fuel b=some (if strip b=[] then [0#8] else strip b)
 | [],_,h,_=>absurd rfl h
 | x :: r,0,_,h=>by simp at h
 | x :: r,f+1,_,h=>by
  have hs:sg (x :: r) 0=x:=rfl
  have hgo:r ≠ [] → x=0#8 → halberdref9_integer.b0 (x :: r)=some (.inl r):=fun hr hx=>by
   have hrl:0<r.length:=List.length_pos_iff.2 hr
   unfold halberdref9_integer.b0
   rw [hs]
   refine bind_i (v:=true) (if_i (by rw [List.length_cons]; omega) (if_i (by rw [List.length_cons]; omega) (by simp [hx]))) (if_i rfl (if_i (by simp) ?_))
   unfold ltt; rw [sub_tail]
  have hstop:(r=[] ∨ x ≠ 0#8) → halberdref9_integer.b0 (x :: r)=some (.inr (x :: r)):=fun h=>by
   unfold halberdref9_integer.b0
   rw [hs]
   by_cases hr:r=[]
   ·subst hr
    exact bind_i (v:=false) (if_n (by simp) rfl) (if_n Bool.false_ne_true rfl)
   ·have hrl:0<r.length:=List.length_pos_iff.2 hr
    have hx:x ≠ 0#8:=h.resolve_left hr
    exact bind_i (v:=false) (if_i (by rw [List.length_cons]; omega) (if_i (by rw [List.length_cons]; omega) (by simp [hx]))) (if_n Bool.false_ne_true rfl)
  by_cases hx:x=0#8
  ·by_cases hr:r=[]
   ·have h1:=hstop (.inl hr)
    subst hr; subst hx
    simp only [loop,h1]
    rfl
   ·have h1:=hgo hr hx
    simp only [loop,h1]
    have ih:=rInteger_loop r f hr (by simp at h; omega)
    have e:strip (x :: r)=strip r:=by subst hx; exact if_pos rfl
    rw [e]; exact ih
  ·have h1:=hstop (.inr hx)
   simp only [loop,h1]
   have e:strip (x :: r)=x :: r:=if_neg hx
   rw [e,if_neg (by simp)]
theorem rInteger_t (n:Nat) : ∃ t:Str,loop halberdref9_integer.b0 BIG (nb32 n)=some t∧t ≠ []∧t.length≤33∧(if (127#8).toNat<(sg t 0).toNat then 0#8 :: t else t)=DB n:=by
 have hl:=nb32_len n
 have hsl:=strip_len (nb32 n)
 refine ⟨_,rInteger_loop (nb32 n) BIG (fun h=>by rw [h] at hl; simp at hl) (by rw [hl]; unfold BIG; omega),?_⟩
 unfold DB derB
 cases hs:strip (nb32 n) with
 | nil=>rw [if_pos rfl]; exact ⟨by simp,by simp,rfl⟩
 | cons x r =>
  rw [hs] at hsl
  rw [if_neg (by simp)]
  refine ⟨by simp,by omega,?_⟩
  have e:(sg (x :: r) 0).toNat=x.toNat:=rfl
  have e7:(127#8).toNat=127:=rfl
  rw [e,e7]
  by_cases h8:127<x.toNat
  ·rw [if_pos h8]; show _=if 128≤x.toNat then _ else _; rw [if_pos (by omega)]
  ·rw [if_neg h8]; show _=if 128≤x.toNat then _ else _; rw [if_neg (by omega)]
theorem rInteger_eq (a:Vx 32 8):halberdref9_integer a=some (DI (n8 a)):=by
 obtain ⟨t,h1,ht,hl,hD⟩:=rInteger_t (n8 a)
 have hdl:=DB_len (n8 a)
 have htl:0<t.length:=List.length_pos_iff.2 ht
 have b1:0≤(0:Int)∧(0:Int)<(t.length:Int):=by omega
 have b2:([0#8]:Str).length+t.length≤4611686018427387904:=by rw [List.length_singleton]; omega
 generalize hDD:DB (n8 a)=D at *
 have b3:([2#8]:Str).length+([BitVec.ofInt 8 (D.length:Int)]:List (BitVec 8)).length≤4611686018427387904:=by rw [List.length_singleton,List.length_singleton]; omega
 have b4:(([2#8]:Str)++([BitVec.ofInt 8 (D.length:Int)]:List (BitVec 8))).length+D.length≤4611686018427387904:=by rw [List.length_append,List.length_singleton,List.length_singleton]; omega
 have hDI:DI (n8 a)=([2#8]++[BitVec.ofInt 8 (D.length:Int)])++D:=by unfold DI; rw [hDD,BitVec.ofInt_natCast]; rfl
 rw [hDI]
 unfold halberdref9_integer
 refine bind_i (put_eq a) (bind_i h1 (if_i b1 (bind_i (v:=D) ?_ (if_i rfl (if_i b3 (if_i b4 (ltt_i fun x hx=>?_)))))))
 ·by_cases h8:(127#8).toNat<(sg t 0).toNat
  ·rw [if_pos h8] at hD
   refine if_i h8 (if_i b2 (ltt_i fun x hx=>?_))
   rw [hx, ← hD]; rfl
  ·rw [if_neg h8] at hD
   exact if_n h8 (congrArg some hD)
 ·rw [hx]
theorem small_eq (x:Vx 32 8) : ∃ r,halberdref9_small x=some r∧n8 r=n8 x % N256:=by
 obtain ⟨M,h0,hM, -⟩:=Rd_N.mod
 have hls:=ref_less_eq x M
 rw [hM] at hls
 have hN2:2 ^ 256<2 * N256:=by decide
 have hx:=n8_lt x
 unfold halberdref9_small
 by_cases hlt:n8 x<N256
 ·exact ⟨x,bind_i h0 (bind_i hls (if_n (by simp [hlt]) rfl)),(Nat.mod_eq_of_lt hlt).symm⟩
 ·obtain ⟨d,h2,b,lb,e2⟩:=ref_minus_ex x M
  rw [hM] at e2
  have:=n8_lt d
  have:=md_N.lt
  refine ⟨d,bind_i h0 (bind_i hls (if_i (by simp [hlt]) (bind_i h0 (bind_i h2 rfl)))),?_⟩
  rw [show n8 x=n8 d+N256 by omega,Nat.add_mod_right,Nat.mod_eq_of_lt (by omega)]
def standsAt (s:Str) (at_ n:Nat):Prop:=0<n∧n<N256∧at_+(DI n).length≤s.length∧sub s at_ (at_+(DI n).length)=DI n
theorem taken_loop (b:Str) (h:b.length≤33):loop halberdref9_taken.b0 BIG b=some (if 32<b.length then sub b 1 b.length else b):=by
 have stop : ∀ c:Str,c.length≤32 → halberdref9_taken.b0 c=some (.inr c):=fun c hc=>by unfold halberdref9_taken.b0; exact if_n (by omega) rfl
 by_cases h32:32<b.length
 ·rw [if_pos h32]
  have h1:halberdref9_taken.b0 b=some (.inl (sub b 1 b.length)):=by unfold halberdref9_taken.b0; exact if_i (by omega) (if_i (by omega) rfl)
  have hl:(sub b 1 b.length).length≤32:=by rw [sub_length (by omega)]; omega
  refine loop_fn (s0:=b) (fun k=>match k with | 0=>b | _=>sub b 1 b.length) 1 _ (by decide) rfl (fun k hk=>?_) (stop _ hl)
  have:k=0:=by omega
  subst this
  exact h1
 ·rw [if_neg h32]
  exact loop_fn (s0:=b) (fun _=>b) 0 _ (by decide) rfl (fun k hk=>by omega) (stop b (by omega))
theorem taken_ex (s:Str) (at_:Nat) (hs:s.length<4611686018427387904) (ha:at_≤s.length) :
  ∃ v:Vx 32 8, ∃ (x:Int) (b:Bool),halberdref9_taken s (at_:Int)=some (v,x,b)∧(b=true ↔ ∃ n,standsAt s at_ n)∧(∀ n,standsAt s at_ n → n8 v=n∧x=((at_+(DI n).length:Nat):Int)):=by
 have N256lt:N256<2 ^ 256:=md_N.lt
 have w2:w64 ((s.length:Int) - 2)=(s.length:Int) - 2:=w64_id (by omega) (by omega)
 have fail:(¬ ∃ n,standsAt s at_ n) → (∃ v x,halberdref9_taken s (at_:Int)=some (v,x,false)) → ∃ v:Vx 32 8, ∃ (x:Int) (b:Bool),halberdref9_taken s (at_:Int)=some (v,x,b)∧(b=true ↔ ∃ n,standsAt s at_ n)∧(∀ n,standsAt s at_ n → n8 v=n∧x=((at_+(DI n).length:Nat):Int)):=fun hno ⟨v,x,h⟩ =>
  ⟨v,x,false,h,⟨fun c=>(Bool.false_ne_true c).elim,fun c=>absurd c hno⟩,fun n c=>absurd ⟨n,c⟩ hno⟩
 have heads : ∀ n,standsAt s at_ n → at_+2≤s.length∧sg s (at_:Int)=2#8∧(sg s ((at_+1:Nat):Int)).toNat=(DB n).length∧at_+2+(DB n).length≤s.length∧sub s (at_+2) (at_+2+(DB n).length)=DB n:=fun n h=>by
  obtain ⟨h0,h1,h2,h3⟩:=h
  have hD:=DI_len n
  have hb:=DB_len n
  have hle:at_+2+(DB n).length≤s.length:=by omega
  have hc:=cut_head s at_ (DB n).length hle
  rw [show at_+(DI n).length=at_+2+(DB n).length by omega] at h3
  rw [h3] at hc
  have hc:2#8 :: BitVec.ofNat 8 (DB n).length :: DB n=sg s (at_:Int) :: sg s ((at_+1:Nat):Int) :: sub s (at_+2) (at_+2+(DB n).length):=hc
  have c1:=(List.cons.inj hc).1
  have c2:=(List.cons.inj (List.cons.inj hc).2).1
  have c3:=(List.cons.inj (List.cons.inj hc).2).2
  exact ⟨by omega,c1.symm,by rw [← c2,ofNat8 _ (by omega)],hle,c3.symm⟩
 by_cases h1:s.length<at_+2
 ·refine fail (fun ⟨n,h⟩=>by have:=(heads n h).1; omega) ⟨replicate 8 0#32,0,?_⟩
  unfold halberdref9_taken
  exact bind_i (v:=true) (if_i (by rw [w2]; omega) rfl) (if_i rfl rfl)
 by_cases h2:sg s (at_:Int)=2#8
 case neg =>
  refine fail (fun ⟨n,h⟩=>h2 (heads n h).2.1) ⟨replicate 8 0#32,0,?_⟩
  unfold halberdref9_taken
  exact bind_i (v:=true) (if_n (by rw [w2]; omega) (if_i (by omega) (by simp [h2]))) (if_i rfl rfl)
 have f1:(if (w64 (((s).length:Int) - 2))<(at_:Int) then some true else if 0≤(at_:Int)∧(at_:Int)<((s).length:Int) then some (decide ((sg s (at_:Int)) ≠ 2#8)) else none)=some false:=if_n (by rw [w2]; omega) (if_i (by omega) (by simp [h2]))
 have w1:w64 ((at_:Int)+1)=((at_+1:Nat):Int):=w64_add (b:=1) (by omega)
 have w22:w64 ((at_:Int)+2)=((at_+2:Nat):Int):=w64_add (b:=2) (by omega)
 have hk:=sg_lt s ((at_+1:Nat):Int)
 obtain ⟨k,ek⟩ : ∃ k,k=(sg s ((at_+1:Nat):Int)).toNat:=⟨_,rfl⟩
 rw [← ek] at hk heads
 have w3:w64 (((at_+2:Nat):Int)+(k:Int))=((at_+2+k:Nat):Int):=w64_add (by omega)
 by_cases h3:k<1 ∨ 33<k ∨ s.length<at_+2+k
 ·refine fail (fun ⟨n,h⟩=>by
   obtain ⟨_,_,e,l,_⟩:=heads n h
   have:=DB_len n
   omega) ⟨replicate 8 0#32,0,?_⟩
  unfold halberdref9_taken
  refine bind_i f1 (if_n Bool.false_ne_true (if_i (by rw [w1]; omega) (ltt_i fun kk hkk=>?_)))
  rw [w1, ← ek] at hkk
  subst hkk
  rw [w22,w3]
  refine bind_i (v:=true) ?_ (if_i rfl rfl)
  by_cases a1:k<1
  ·exact if_i (by omega) rfl
  ·by_cases a2:33<k
   ·exact if_n (by omega) (if_i (by omega) rfl)
   ·refine if_n (by omega) (if_n (by omega) ?_)
    exact congrArg some (decide_eq_true (by omega))
 have hk1:1≤k:=by omega
 have hk33:k≤33:=by omega
 have hkl:at_+2+k≤s.length:=by omega
 obtain ⟨x,hx⟩ : ∃ x,x=sub s (at_+2) (at_+2+k):=⟨_,rfl⟩
 have hxl:x.length=k:=by rw [hx,sub_length (by omega)]; omega
 obtain ⟨b,hb⟩ : ∃ b,b=(if 32<x.length then sub x 1 x.length else x):=⟨_,rfl⟩
 have hbl:b.length≤32:=by
  rw [hb]; split
  ·rw [sub_length (by omega)]; omega
  ·omega
 have hbn : ∀ n,x=DB n → bnum b=bnum x:=fun n h=>by
  rw [hb]
  split
  ·rename_i h32
   obtain ⟨c,hc,hcl⟩:=DB_33 n (by rw [← h]; omega)
   rw [h,hc,sub_tail,bnum_cons0]
  ·rfl
 obtain ⟨v,hv,ev⟩:=ref_get_ex (List.replicate (32 - b.length) 0#8++b) (by simp; omega)
 rw [bnum_pad] at ev
 have hI:=rInteger_eq v
 rw [ev] at hI
 have wb:w64 (32 - (b.length:Int))=((32 - b.length:Nat):Int):=by rw [w64_id (by omega) (by omega)]; omega
 have hwhole:sub s at_ (at_+2+k)=[2#8,BitVec.ofNat 8 k]++x:=by
  have e1:sg s ((at_+1:Nat):Int)=BitVec.ofNat 8 k:=by rw [ek]; simp
  rw [cut_head s at_ k hkl,h2,e1, ← hx]
 have hst:(DI (bnum b)=sub s at_ (at_+2+k)∧bnum b ≠ 0∧bnum b<N256) ↔ ∃ n,standsAt s at_ n:=by
  constructor
  ·rintro ⟨e,n0,n1⟩
   have hl:=congrArg List.length e
   rw [sub_length (by omega)] at hl
   refine ⟨bnum b,by omega,n1,by omega,?_⟩
   rw [e,show at_+(sub s at_ (at_+2+k)).length=at_+2+k by rw [sub_length (by omega)]; omega]
  ·rintro ⟨n,h⟩
   obtain ⟨_,_,e1,e2,e3⟩:=heads n h
   rw [← e1, ← hx] at e3
   have hn:bnum b=n:=by rw [hbn n e3,e3]; exact bnum_DB n (by have:=h.2.1; omega)
   rw [hn,hwhole,e3]
   refine ⟨?_,by have:=h.1; omega,h.2.1⟩
   unfold DI
   rw [← e1]
 have hval : ∀ n,standsAt s at_ n → n8 v=n∧((at_+2+k:Nat):Int)=((at_+(DI n).length:Nat):Int):=fun n h=>by
  obtain ⟨_,_,e1,e2,e3⟩:=heads n h
  have e1':=e1
  rw [← e1, ← hx] at e3
  refine ⟨?_,?_⟩
  ·rw [ev,hbn n e3,e3]; exact bnum_DB n (by have:=h.2.1; omega)
  ·rw [DI_len]; omega
 obtain ⟨M,m0,hM, -⟩:=Rd_N.mod
 have hls:=ref_less_eq v M
 rw [hM,ev] at hls
 have hv0:v=replicate 8 0#32 ↔ bnum b=0:=by
  rw [← ev]
  exact ⟨fun h=>by rw [h,n8_zero],fun h=>n8_ext (by rw [h,n8_zero])⟩
 have common : ∀ r,(if DI (bnum b)=sub s at_ (at_+2+k) then (if v ≠ (replicate 8 0#32:Vx 32 8) then ((halberdref9_modulus 1).bind fun (r_3:Vx 32 8)=>((halberdref9_less v r_3).bind fun (r_4:Bool)=>(some (v,((at_+2+k:Nat):Int),r_4)))) else (some (v,((at_+2+k:Nat):Int),false))) else (some (v,((at_+2+k:Nat):Int),false)))=r → halberdref9_taken s (at_:Int)=r:=fun r hr=>by
  unfold halberdref9_taken
  refine bind_i f1 (if_n Bool.false_ne_true (if_i (by rw [w1]; omega) (ltt_i fun kk hkk=>?_)))
  rw [w1, ← ek] at hkk
  subst hkk
  rw [w22,w3]
  refine bind_i (v:=false) (if_n (by omega) (if_n (by omega) (congrArg some (decide_eq_false (by omega))))) (if_n Bool.false_ne_true (if_i (by omega) (if_i (by omega) (if_i (by omega) (if_i (by omega) (ltt_i fun b2 hb2=>?_))))))
  simp only [Int.toNat_natCast] at hb2 ⊢
  rw [← hx] at hb2
  subst hb2
  refine bind_i (v:=b) (by rw [hb]; exact taken_loop _ (by omega)) ?_
  rw [wb]
  simp only [Int.toNat_natCast]
  refine if_i (by omega) (if_i (by simp) (if_i (by simp; omega) (bind_i hv (bind_i hI (if_i (by omega) (if_i (by omega) (if_i (by omega) (if_i (by omega) ?_))))))))
  exact hr
 by_cases e1:DI (bnum b)=sub s at_ (at_+2+k)
 case neg=>exact ⟨v,_,false,common _ (if_n e1 rfl),⟨fun c=>(Bool.false_ne_true c).elim,fun c=>absurd (hst.2 c).1 e1⟩,hval⟩
 by_cases e2:bnum b=0
 ·exact ⟨v,_,false,common _ (if_i e1 (if_n (fun c=>c (hv0.2 e2)) rfl)),⟨fun c=>(Bool.false_ne_true c).elim,fun c=>absurd e2 (hst.2 c).2.1⟩,hval⟩
 refine ⟨v,_,decide (bnum b<N256),common _ (if_i e1 (if_i (fun c=>e2 (hv0.1 c)) (bind_i m0 (bind_i hls rfl)))),?_,hval⟩
 rw [← hst,decide_eq_true_iff]
 exact ⟨fun c=>⟨e1,e2,c⟩,fun c=>c.2.2⟩
end Go.Kx
end

/-
  Part 24 of the proof of what several laws share.
-/
import Derived.Test.YtiofnmmggblcgaaEsC1
import Derived.Test.YtiofnmmggblcgaaEsC2
import Derived.Test.YtiofnmmggblcgaaEsC3
import Derived.Test.YtiofnmmggblcgaaEsC4
import Derived.Test.YtiofnmmggblcgaaEsC5
import Derived.Test.YtiofnmmggblcgaaEsC6
import Derived.Test.YtiofnmmggblcgaaEsC7
import Derived.Test.YtiofnmmggblcgaaEsC8
import Derived.Test.YtiofnmmggblcgaaEsC9
import Derived.Test.YtiofnmmggblcgaaEsC10
import Derived.Test.YtiofnmmggblcgaaEsC11
import Derived.Test.YtiofnmmggblcgaaEsC12
import Derived.Test.YtiofnmmggblcgaaEsC13
import Derived.Test.YtiofnmmggblcgaaEsC14
import Derived.Test.YtiofnmmggblcgaaEsC15
import Derived.Test.YtiofnmmggblcgaaEsC16
import Derived.Test.YtiofnmmggblcgaaEsC17
import Derived.Test.YtiofnmmggblcgaaEsC18
import Derived.Test.YtiofnmmggblcgaaEsC19
import Derived.Test.YtiofnmmggblcgaaEsC20
import Derived.Test.YtiofnmmggblcgaaEsC21
import Derived.Test.YtiofnmmggblcgaaEsC22
import Derived.Test.YtiofnmmggblcgaaEsC23
set_option linter.unusedVariables false
set_option linter.unusedSimpArgs false
section
namespace Go.Proofs
open Go Go.Kx
open Vector (replicate)
open TryI Try
def halberdref9_G:Option (Vx 32 8 × Vx 32 8 × Vx 32 8) :=
 (halberdref9_into 0 (#v[3633889942#32,4104206661#32,770388896#32,1996717441#32,1671708914#32,4173129445#32,3777774151#32,1796723186#32]:Vx 32 8)).bind fun (r_1:Vx 32 8)=>((halberdref9_into 0 (#v[935285237#32,3417718888#32,1798397646#32,734933847#32,2081398294#32,2397563722#32,4263149467#32,1340293858#32]:Vx 32 8)).bind fun (r_2:Vx 32 8)=>((halberdref9_into 0 (vp (replicate 8 0#32) 0 1#32:Vx 32 8)).bind fun (r_3:Vx 32 8)=>(some (r_1,r_2,r_3))))
set_option maxHeartbeats 4000000 in
set_option maxRecDepth 20000 in
theorem F40_calls (r:Vx 32 8 × Vx 32 8 × Vx 32 8) (H:halberdref9_G=some r) :
  Does Try.prog 40 [] [] [] (Γ:=Unit) (fun g=>aG [(8,e32 r.1.toList),(8,e32 r.2.1.toList),(8,e32 r.2.2.toList)]) (fun g=>[]):=by
 intro w hmem hro hd
 refine calls_of (N:=8) (m0:=[]) func40 rfl ntmps40 (argM_ok []) rfl hmem hro hd ?_
 unfold halberdref9_G at H
 refine TC_seq (TC_region (TLe (E_allocP [(8,e32 ((replicate 8 0#32).toList)),(8,e32 ((replicate 8 0#32).toList)),(8,e32 ((replicate 8 0#32).toList))] inf33 zer33 ⟨(lenV (f:=v32) (replicate 8 0#32)),(lenV (f:=v32) (replicate 8 0#32)),(lenV (f:=v32) (replicate 8 0#32)),trivial⟩) (fun b1=>?_)))
 refine TL_nil (TX_next (TC_seq (TC_region (TLv (V_buildArr (pv:=[(0,v32 3633889942#32),(1,v32 4104206661#32),(2,v32 770388896#32),(3,v32 1996717441#32),(4,v32 1671708914#32),(5,v32 4173129445#32),(6,v32 3777774151#32),(7,v32 1796723186#32)]) rfl rfl underlying31 inf31 inf29 rfl zer31 (cs:=e32 ((#v[3633889942#32,4104206661#32,770388896#32,1996717441#32,1671708914#32,4173129445#32,3777774151#32,1796723186#32]:Vx 32 8).toList)) (by kernel_rfl)) ?_))))
 obtain ⟨r_1,hr_1,H⟩:=bind_elim H
 refine TLe (E_c0 (F46_calls 0 (#v[3633889942#32,4104206661#32,770388896#32,1996717441#32,1671708914#32,4173129445#32,3777774151#32,1796723186#32]:Vx 32 8) r_1 hr_1) call46 .z) (fun g_1=>?_)
 refine TLv (V_buildArr (pv:=[(0,v32 935285237#32),(1,v32 3417718888#32),(2,v32 1798397646#32),(3,v32 734933847#32),(4,v32 2081398294#32),(5,v32 2397563722#32),(6,v32 4263149467#32),(7,v32 1340293858#32)]) rfl rfl underlying31 inf31 inf29 rfl zer31 (cs:=e32 ((#v[935285237#32,3417718888#32,1798397646#32,734933847#32,2081398294#32,2397563722#32,4263149467#32,1340293858#32]:Vx 32 8).toList)) (by kernel_rfl)) ?_
 obtain ⟨r_2,hr_2,H⟩:=bind_elim H
 refine TLe (E_c0 (F46_calls 0 (#v[935285237#32,3417718888#32,1798397646#32,734933847#32,2081398294#32,2397563722#32,4263149467#32,1340293858#32]:Vx 32 8) r_2 hr_2) call46 .z) (fun g_2=>?_)
 refine TLv (V_buildArr (pv:=[(0,v32 1#32)]) rfl rfl underlying31 inf31 inf29 rfl zer31 (cs:=e32 ((vp (replicate 8 0#32) 0 1#32:Vx 32 8).toList)) (by kernel_rfl)) ?_
 obtain ⟨r_3,hr_3,H⟩:=bind_elim H
 refine TLe (E_c0 (F46_calls 0 (vp (replicate 8 0#32) 0 1#32:Vx 32 8) r_3 hr_3) call46 .z) (fun g_3=>?_)
 refine TLv (V_buildStruct (pv:=[(0,aG [(8,e32 r_1.toList)]),(1,aG [(8,e32 r_2.toList)]),(2,aG [(8,e32 r_3.toList)])]) (pl:=[(0,8),(8,8),(16,8)]) rfl rfl underlying33 inf33 places33 zer33 (cs:=flat [(8,e32 r_1.toList),(8,e32 r_2.toList),(8,e32 r_3.toList)]) (fill_part [] [(8,e32 ((replicate 8 0#32).toList)),(8,e32 ((replicate 8 0#32).toList))] rfl rfl trivial rfl (lenV (f:=v32) (replicate 8 0#32)) (lenV (f:=v32) r_1) (fill_part [(8,e32 r_1.toList)] [(8,e32 ((replicate 8 0#32).toList))] rfl rfl ⟨(lenV (f:=v32) r_1),trivial⟩ rfl (lenV (f:=v32) (replicate 8 0#32)) (lenV (f:=v32) r_2) (fill_part [(8,e32 r_1.toList),(8,e32 r_2.toList)] [] rfl rfl ⟨(lenV (f:=v32) r_1),(lenV (f:=v32) r_2),trivial⟩ rfl (lenV (f:=v32) (replicate 8 0#32)) (lenV (f:=v32) r_3) fill_end)))) ?_
 refine TLn (E_sp (b:=b1) (o:=0) [0,0,0] [(8,e32 ((replicate 8 0#32).toList)),(8,e32 ((replicate 8 0#32).toList)),(8,e32 ((replicate 8 0#32).toList))] [(8,e32 r_1.toList),(8,e32 r_2.toList),(8,e32 r_3.toList)] rfl inf33 ⟨(lenV (f:=v32) (replicate 8 0#32)),(lenV (f:=v32) (replicate 8 0#32)),(lenV (f:=v32) (replicate 8 0#32)),trivial⟩ ⟨(lenV (f:=v32) r_1),(lenV (f:=v32) r_2),(lenV (f:=v32) r_3),trivial⟩ ⟨(OneC.map (fun _=>rfl) _),(OneC.map (fun _=>rfl) _),(OneC.map (fun _=>rfl) _),trivial⟩) (fun _=>?_)
 refine TL_nil (TX_next (TC_ret ?_))
 obtain rfl:=sj H
 exact TXr (vs:=[_]) rfl ⟨(Res_agg (n:=24) (cs:=flat [(8,e32 r_1.toList),(8,e32 r_2.toList),(8,e32 r_3.toList)]) rfl (by simp) (SrcEnts (b:=b1) [(8,e32 r_1.toList),(8,e32 r_2.toList),(8,e32 r_3.toList)] 0 ⟨(lenV (f:=v32) r_1),(lenV (f:=v32) r_2),(lenV (f:=v32) r_3),trivial⟩ (AllSrc.all (M:=ents b1 0 [(8,e32 r_1.toList),(8,e32 r_2.toList),(8,e32 r_3.toList)]) ⟨Src.own (j:=0) rfl,Src.own (j:=1) rfl,Src.own (j:=2) rfl,trivial⟩)) isAgg33 inf33 rfl (by simp [flat])),trivial⟩
end Go.Proofs
end

section
namespace Go.Proofs
open Go Go.Kx
open TryI Try
def halberdref9_Public (k:Str):Option (Str × Int) :=
 (halberdref9_scalar k).bind fun (r_1:Vx 32 8 × Bool)=>(if (!r_1.2)=true then (some (([]:Str),1100)) else ((halberdref9_G).bind fun (r_2:Vx 32 8 × Vx 32 8 × Vx 32 8)=>((halberdref9_product r_1.1 r_2.1 r_2.2.1 r_2.2.2).bind fun (r_3:Vx 32 8 × Vx 32 8 × Vx 32 8)=>((halberdref9_encode r_3.1 r_3.2.1 r_3.2.2).bind fun (r_4:Str × Bool)=>(some (r_4.1,0))))))
set_option maxHeartbeats 4000000 in
set_option maxRecDepth 20000 in
theorem F14_calls (k:Str) (r:Str × Int) (H:halberdref9_Public k=some r) :
  Does Try.prog 14 [vs k] [] [] (Γ:=Unit) (fun g=>Value.tuple [vs r.1,vi r.2].toArray) (fun g=>[]):=by
 intro w hmem hro hd
 refine calls_of (N:=23) (m0:=[(0,vs k)]) func14 rfl ntmps14 (argM_ok [vs k]) rfl hmem hro hd ?_
 unfold halberdref9_Public at H
 refine TC_seq (TC_region (TVa ?_))
 refine TVa ?_
 refine TL_nil (TX_next (TC_seq (TC_region (TVm ?_))))
 obtain ⟨r_1,hr_1,H⟩:=bind_elim H
 refine TLe (E_c0 (F37_calls k r_1 hr_1) call37 .z) (fun g_1=>?_)
 refine TVm ?_
 refine TLv V_ex ?_
 refine TLv V_ex ?_
 refine TLe (E_al32 8 inf31 zer31) (fun b1=>?_)
 refine TLn (E_sv (vs:=e32 r_1.1.toList) 0 inf31) (fun _=>?_)
 refine TVa ?_
 refine TL_nil (TX_next (TC_seq (TC_seq (TC_region (TVm ?_)))))
 refine TLv (V_un rfl (fun w=>notB w r_1.2)) ?_
 refine TL_nil (TX_next (TCb H (fun hc H=>?_) (fun hc H=>?_)))
 ·refine TC_seq (TC_region (TVa ?_))
  refine TVa ?_
  refine TL_nil (TX_next (TC_ret (TX_then_ret ?_)))
  obtain rfl:=sj H
  exact TX2
 ·refine TC_skip (TX_next (TC_seq ?_))
  obtain ⟨r_2,hr_2,H⟩:=bind_elim H
  obtain ⟨r_3,hr_3,H⟩:=bind_elim H
  obtain ⟨r_4,hr_4,H⟩:=bind_elim H
  refine TA_begin [] 9 (by kernel_rfl) (N:=9) rfl ?_
  refine TA_mix (is:=[]) (done':=dn 9 511) [itV 0 16 (aG [(8,e32 r_1.1.toList)]) [],itV 1 17 (aG [(8,e32 r_2.1.toList),(8,e32 r_2.2.1.toList),(8,e32 r_2.2.2.toList)]) [],itV 2 18 (aG [(8,e32 r_3.1.toList),(8,e32 r_3.2.1.toList),(8,e32 r_3.2.2.toList)]) [0,1],itV 3 19 (Value.tuple [vs r_4.1,vb r_4.2].toArray) [2],itV 4 15 (Value.tuple [vs r_4.1,vb r_4.2].toArray) [3],itV 5 20 (vs r_4.1) [4],itV 6 21 (vb r_4.2) [4],itV 7 6 (vs r_4.1) [5],itV 8 7 (vb r_4.2) [6]] [] 0 (by kernel_rfl) (QP.then QP.body) (by kernel_rfl) rfl (.v rfl (V_lag (.o 0) isAgg31 inf31) (.e rfl (E_cu (F40_calls r_2 hr_2) call40 .z) (.e rfl (E_cu (F39_calls r_1.1 r_2.1 r_2.2.1 r_2.2.2 r_3 hr_3) call39 .z) (.e rfl (E_cu (F38_calls r_3.1 r_3.2.1 r_3.2.2 r_4 hr_4) call38 .z) (.v rfl (V_move rfl) (.v rfl V_ex (.v rfl V_ex (.v rfl (V_assign rfl) (.v rfl (V_assign rfl) .nil))))))))) .nil (by kernel_rfl) rfl (fun γ=>?_)
  refine TA_cut [(6,vs r_4.1)] [⟨some (b1,0),e32 r_1.1.toList⟩] ⟨rfl,trivial⟩ rfl ?_
  refine TA_done (by kernel_rfl) ?_ 0
  refine TX_next (TC_seq (TC_region (TVm ?_)))
  refine TVa ?_
  refine TVa ?_
  refine TL_nil (TX_next (TC_ret ?_))
  obtain rfl:=sj H
  exact TX2
end Go.Proofs
end

section
namespace Go.Kx
open Go Go.Proofs
open Vector (replicate)
open Go.Nt hiding n4
def P8 (v:Vx 32 8 × Vx 32 8 × Vx 32 8) (p:Pt):Prop:=okP p ∧ ∃ t,T8 v t∧isJ t p
theorem twice_pt {x y z:Vx 32 8} {p:Pt} (h:P8 (x,y,z) p) : ∃ r,halberdref9_twice x y z=some r∧P8 r (sumF p p):=by
 obtain ⟨hp,t,h1,h2⟩:=h
 obtain ⟨r,h3,h4⟩:=twice_ex h1
 refine ⟨r,h3,sum_ok hp hp,_,h4,?_⟩
 by_cases hz:t.2.2=0
 ·rw [show jDbl' t=t from if_pos hz]
  cases p with
  | none=>exact h2
  | some q=>exact absurd hz h2.1
 ·rw [show jDbl' t=jDbl t from if_neg hz]
  exact isJ_dbl hp h2
theorem together_pt {x y z x' y' z':Vx 32 8} {p q:Pt} (h:P8 (x,y,z) p) (k:P8 (x',y',z') q) : ∃ r,halberdref9_together x y z x' y' z'=some r∧P8 r (sumF p q):=by
 obtain ⟨hp,t,h1,h2⟩:=h
 obtain ⟨hq,u,k1,k2⟩:=k
 obtain ⟨r,h3,h4⟩:=together_ex h1 k1
 exact ⟨r,h3,sum_ok hp hq,_,h4,isJ_add hp hq h2 k2⟩
theorem zero_pt8:P8 (replicate 8 0#32,replicate 8 0#32,replicate 8 0#32) none:=⟨trivial,(0,0,0),⟨F8_0,F8_0,F8_0⟩,rfl⟩
theorem product_pt {k x y z:Vx 32 8} {a:Nat} (h:P8 (x,y,z) (sG a)) : ∃ r,halberdref9_product k x y z=some r∧P8 r (sG (n8 k * a)):=by
 have hk:=n8_lt k
 have key : ∃ r,loop (halberdref9_product.b0 k x y z) BIG (255,replicate 8 0#32,replicate 8 0#32,replicate 8 0#32)=some r∧P8 r (sG (n8 k * a)):=by
  refine loop_inv 256 (fun i s=>s.1=255 - (i:Int)∧P8 s.2 (sG (n8 k / 2 ^ (256 - i) * a))) _ (by decide) ⟨rfl,?_⟩ ?_ ?_
  ·dsimp only
   rw [Nat.sub_zero,Nat.div_eq_of_lt hk,Nat.zero_mul]
   exact zero_pt8
  ·rintro i ⟨i',o⟩ hi ⟨hi',ho⟩
   dsimp only at hi' ho
   obtain ⟨j,hj⟩ : ∃ j,j=255 - i:=⟨_,rfl⟩
   have hij:i'=(j:Int):=by omega
   rw [show 256 - i=j+1 by omega] at ho
   obtain ⟨r,hr,hR⟩:=twice_pt ho
   rw [sG_add] at hR
   have hbit:=bit8 k j (by omega)
   have hh:=half_eq (n8 k) j
   subst hij
   have w1:w64 ((j:Int) - 1)=255 - ((i+1:Nat):Int):=by rw [w64_id (by omega) (by omega)]; omega
   have w2:w64 ((j:Int).tdiv 32)=((j / 32:Nat):Int):=w64_div (b:=32) (by omega)
   have w3:(j:Int).tmod 32=((j % 32:Nat):Int):=tmodN' j 32
   unfold halberdref9_product.b0
   dsimp only
   rw [w2,w3]
   simp only [Int.toNat_natCast]
   clear w2 w3
   generalize hc:n8 k / 2 ^ (j+1)=c at *
   by_cases hb:(vg k (j / 32) >>> (j % 32)) &&& 1#32=1#32
   ·obtain ⟨r2,hr2,hR2⟩:=together_pt hR h
    rw [sG_add] at hR2
    refine ⟨(255 - ((i+1:Nat):Int),r2),if_i (by omega) (bind_i hr (if_i (by omega) (if_i (by omega) (if_i hb (bind_i hr2 (ltt_i fun v hv=>by rw [hv,w1])))))),rfl,?_⟩
    dsimp only
    rw [show 256 - (i+1)=j by omega,hh,hbit.1 hb,show (2 * c+1) * a=c * a+c * a+a by rw [Nat.add_mul,Nat.mul_assoc,Nat.one_mul,Nat.two_mul]]
    exact hR2
   ·refine ⟨(255 - ((i+1:Nat):Int),r),if_i (by omega) (bind_i hr (if_i (by omega) (if_i (by omega) (if_n hb (ltt_i fun v hv=>by rw [hv,w1]))))),rfl,?_⟩
    dsimp only
    have h0:n8 k / 2 ^ j % 2=0:=by
     have : ¬ (n8 k / 2 ^ j % 2=1):=fun h=>hb (hbit.2 h)
     omega
    rw [show 256 - (i+1)=j by omega,hh,h0,Nat.add_zero,show 2 * c * a=c * a+c * a by rw [Nat.mul_assoc,Nat.two_mul]]
    exact hR
  ·rintro ⟨i',o⟩ ⟨hi',ho⟩
   dsimp only at hi' ho
   subst hi'
   refine ⟨o,by unfold halberdref9_product.b0; exact if_n (by dsimp only; omega) rfl,?_⟩
   rw [Nat.sub_self,Nat.pow_zero,Nat.div_one] at ho
   exact ho
 obtain ⟨r,h2,hR⟩:=key
 refine ⟨r,?_,hR⟩
 unfold halberdref9_product
 exact bind_i h2 rfl
theorem intoF {x:Vx 32 8} (hx:n8 x<P256) : ∃ r,halberdref9_into 0 x=some r∧F8 r (mk (n8 x:Int)):=by
 obtain ⟨r,h1,h2⟩:=Rd_P.into hx
 exact ⟨r,h1,by unfold F8; rw [toN_id hx]; exact h2⟩
theorem unitF : ∃ r,halberdref9_into 0 (vp (replicate 8 0#32) 0 1#32)=some r∧F8 r 1:=by
 obtain ⟨r,h1,h2⟩:=Rd_P.unit
 rw [show 1 % P256=1 by decide] at h2
 exact ⟨r,h1,h2⟩
theorem outF {x:Vx 32 8} {f:Fp} (hx:F8 x f) : ∃ r,halberdref9_out 0 x=some r∧n8 r=toN f:=Rd_P.out hx
theorem powerF {x:Vx 32 8} {f:Fp} (hx:F8 x f) : ∃ r,halberdref9_power 0 x=some r ∧ ∃ i,F8 r i∧(f ≠ 0 → i * f=1):=by
 obtain ⟨r,h1,h2⟩:=Rd_P.power hx
 refine ⟨r,h1,mk ((toN f ^ (P256 - 2) % P256:Nat):Int),?_,pow_inv⟩
 unfold F8
 rw [toN_id (Nat.mod_lt _ (by decide))]
 exact h2
theorem unit_pt8 {x y one:Vx 32 8} {q:Fp × Fp} (hq:okP (some q)) (f3:F8 x q.1) (f4:F8 y q.2) (h1:F8 one 1):P8 (x,y,one) (some q):=by
 refine ⟨hq,(q.1,q.2,1),⟨f3,f4,h1⟩,F_10,?_,?_⟩
 ·show q.1=q.1 * (1 * 1); grind
 ·show q.2=q.2 * (1 * (1 * 1)); grind
theorem G_pt : ∃ r,halberdref9_G=some r∧P8 r (sG 1):=by
 have ex:n8 (#v[3633889942#32,4104206661#32,770388896#32,1996717441#32,1671708914#32,4173129445#32,3777774151#32,1796723186#32]:Vx 32 8)=GX:=by decide
 have ey:n8 (#v[935285237#32,3417718888#32,1798397646#32,734933847#32,2081398294#32,2397563722#32,4263149467#32,1340293858#32]:Vx 32 8)=GY:=by decide
 obtain ⟨r1,h1,f1⟩:=intoF (x := #v[3633889942#32,4104206661#32,770388896#32,1996717441#32,1671708914#32,4173129445#32,3777774151#32,1796723186#32]) (by rw [ex]; decide)
 obtain ⟨r2,h2,f2⟩:=intoF (x := #v[935285237#32,3417718888#32,1798397646#32,734933847#32,2081398294#32,2397563722#32,4263149467#32,1340293858#32]) (by rw [ey]; decide)
 rw [ex] at f1
 rw [ey] at f2
 obtain ⟨r3,h3,f3⟩:=unitF
 refine ⟨(r1,r2,r3),?_,unit_pt8 (q:=(mk (GX:Int),mk (GY:Int))) gP_ok f1 f2 f3⟩
 unfold halberdref9_G
 exact bind_i h1 (bind_i h2 (bind_i h3 rfl))
theorem curveB_eq:halberdref9_curveB=some #v[668098635#32,1003371582#32,3428036854#32,1696401072#32,1989707452#32,3018571093#32,2855965671#32,1522939352#32]:=rfl
open Classical in
theorem Decode_ex (s:Str) : ∃ X Y Z,halberdref9_Decode s=some (X,Y,Z,decide (isPt s)) ∧ ∀ q,okP (some q) → s=encQ q → P8 (X,Y,Z) (some q):=by
 have F:=Rd_P
 unfold halberdref9_Decode
 by_cases hl:s.length=65
 case neg =>
  have hno : ¬ isPt s:=fun h=>hl ((isPt_iff s).1 h).1
  exact ⟨replicate 8 0#32,replicate 8 0#32,replicate 8 0#32,bind_i (v:=true) (if_i (by omega) rfl) (if_i rfl (by simp [hno])),fun q hq he=>absurd ⟨q,hq,he⟩ hno⟩
 by_cases h4:sg s 0=4#8
 case neg =>
  have hno : ¬ isPt s:=fun h=>h4 ((isPt_iff s).1 h).2.1
  exact ⟨replicate 8 0#32,replicate 8 0#32,replicate 8 0#32,bind_i (v:=true) (if_n (by omega) (if_i (by omega) (by simp [h4]))) (if_i rfl (by simp [hno])),fun q hq he=>absurd ⟨q,hq,he⟩ hno⟩
 obtain ⟨x,hx,ex⟩:=F.number (by decide) (sub s 1 33) (by rw [sub_length (by omega)])
 obtain ⟨y,hy,ey⟩:=F.number (by decide) (sub s 33 s.length) (by rw [sub_length (by omega),hl])
 have e65:sub s 33 s.length=sub s 33 65:=by rw [hl]
 rw [e65] at hy ey
 by_cases hxl:bnum (sub s 1 33)<P256
 case neg =>
  have hno : ¬ isPt s:=fun h=>hxl ((isPt_iff s).1 h).2.2.1
  refine ⟨replicate 8 0#32,replicate 8 0#32,replicate 8 0#32,bind_i (v:=false) (if_n (by omega) (if_i (by omega) (by simp [h4]))) (if_n (by decide) (if_i (by omega) (bind_i hx (if_i (by omega) (bind_i (by rw [e65]; exact hy) (bind_i (v:=true) (if_i (by simp [hxl]) rfl) (if_i rfl (by simp [hno])))))))),fun q hq he=>absurd ⟨q,hq,he⟩ hno⟩
 by_cases hyl:bnum (sub s 33 65)<P256
 case neg =>
  have hno : ¬ isPt s:=fun h=>hyl ((isPt_iff s).1 h).2.2.2.1
  refine ⟨replicate 8 0#32,replicate 8 0#32,replicate 8 0#32,bind_i (v:=false) (if_n (by omega) (if_i (by omega) (by simp [h4]))) (if_n (by decide) (if_i (by omega) (bind_i hx (if_i (by omega) (bind_i (by rw [e65]; exact hy) (bind_i (v:=true) (if_n (by simp [hxl]) (by simp [hyl])) (if_i rfl (by simp [hno])))))))),fun q hq he=>absurd ⟨q,hq,he⟩ hno⟩
 have eb:n8 (#v[668098635#32,1003371582#32,3428036854#32,1696401072#32,1989707452#32,3018571093#32,2855965671#32,1522939352#32]:Vx 32 8)=B256:=by decide
 obtain ⟨r3,e3,f3⟩:=intoF (x:=x) (by rw [ex]; exact hxl)
 obtain ⟨r4,e4,f4⟩:=intoF (x:=y) (by rw [ey]; exact hyl)
 obtain ⟨r11,e11,f11⟩:=intoF (x := #v[668098635#32,1003371582#32,3428036854#32,1696401072#32,1989707452#32,3018571093#32,2855965671#32,1522939352#32]) (by rw [eb]; decide)
 rw [ex] at f3
 rw [ey] at f4
 rw [eb] at f11
 obtain ⟨r5,e5,f5⟩:=F.mulF f3 f3
 obtain ⟨r6,e6,f6⟩:=F.mulF f3 f5
 obtain ⟨r7,e7,f7⟩:=F.addF f3 f3
 obtain ⟨r8,e8,f8⟩:=F.addF f3 f7
 obtain ⟨r9,e9,f9⟩:=F.subF f6 f8
 obtain ⟨r12,e12,f12⟩:=F.addF f9 f11
 obtain ⟨r13,e13,f13⟩:=unitF
 obtain ⟨r14,e14,f14⟩:=F.mulF f4 f4
 have hfB:mk (B256:Int)=fB:=rfl
 have heq:r14=r12 ↔ isPt s:=by
  rw [R8.inj md_P f14 f12,isPt_iff,hfB]
  constructor
  ·intro h
   refine ⟨hl,h4,hxl,hyl,?_⟩
   have:=toN_inj h
   unfold onF
   rw [this]; grind
  ·rintro ⟨-, -, -, -,h⟩
   unfold onF at h
   refine congrArg toN ?_
   rw [h]; grind
 refine ⟨r3,r4,r13,bind_i (v:=false) (if_n (by omega) (if_i (by omega) (by simp [h4]))) (if_n (by decide) (if_i (by omega) (bind_i hx (if_i (by omega) (bind_i (by rw [e65]; exact hy) (bind_i (v:=false) (if_n (by simp [hxl]) (by simp [hyl])) (if_n (by decide) ?_))))))),?_⟩
 ·refine bind_i e3 (bind_i e4 (bind_i e5 (bind_i e6 (bind_i e7 (bind_i e8 (bind_i e9 (bind_i curveB_eq (bind_i e11 (bind_i e12 (bind_i e13 (bind_i e14 (ltt_i fun v hv=>?_))))))))))))
  rw [hv,decide_eq_decide.2 heq]
 ·rintro q hq rfl
  have lt : ∀ f:Fp,toN f<2 ^ 256:=fun f=>Nat.lt_trans (toN_lt f) P_lt256
  rw [encQ_x,bnum_nb32 _ (lt _),mk_toN] at f3
  rw [encQ_y,bnum_nb32 _ (lt _),mk_toN] at f4
  exact unit_pt8 hq f3 f4 f13
theorem plain_ex {x y z:Vx 32 8} {p:Pt} (h:P8 (x,y,z) p):(p=none → halberdref9_plain x y z=some (replicate 8 0#32,replicate 8 0#32,false)) ∧
  ∀ q,p=some q → ∃ X Y,halberdref9_plain x y z=some (X,Y,true)∧n8 X=toN q.1∧n8 Y=toN q.2:=by
 have F:=Rd_P
 obtain ⟨hp,⟨X,Y,Z⟩,⟨hX,hY,hZ⟩,hj⟩:=h
 dsimp only at hX hY hZ
 constructor
 ·rintro rfl
  have hz:Z=0:=hj
  unfold halberdref9_plain
  exact if_i (hZ.zero.2 hz) rfl
 ·rintro q rfl
  obtain ⟨hz,eX,eY⟩:=hj
  dsimp only at hz eX eY
  obtain ⟨r1,e1,i,f1,hi⟩:=powerF hZ
  have hi:=hi hz
  obtain ⟨r2,e2,f2⟩:=F.mulF f1 f1
  obtain ⟨r3,e3,f3⟩:=F.mulF hX f2
  obtain ⟨r4,e4,n4'⟩:=outF f3
  obtain ⟨r5,e5,f5⟩:=F.mulF f1 f2
  obtain ⟨r6,e6,f6⟩:=F.mulF hY f5
  obtain ⟨r7,e7,n7'⟩:=outF f6
  have x1:X * (i * i)=q.1:=by
   rw [eX]
   have:q.1 * (Z * Z) * (i * i)=q.1 * ((i * Z) * (i * Z)):=by grind
   rw [this,hi]; grind
  have y1:Y * (i * (i * i))=q.2:=by
   rw [eY]
   have:q.2 * (Z * (Z * Z)) * (i * (i * i))=q.2 * ((i * Z) * ((i * Z) * (i * Z))):=by grind
   rw [this,hi]; grind
  rw [x1] at n4'
  rw [y1] at n7'
  refine ⟨r4,r7,?_,n4',n7'⟩
  unfold halberdref9_plain
  exact if_n (fun c=>hz (hZ.zero.1 c)) (bind_i e1 (bind_i e2 (bind_i e3 (bind_i e4 (bind_i e5 (bind_i e6 (bind_i e7 rfl)))))))
def encR:Pt → Str × Bool
 | none=>([],false)
 | some q=>(encQ q,true)
theorem encode_ex {x y z:Vx 32 8} {p:Pt} (h:P8 (x,y,z) p):halberdref9_encode x y z=some (encR p):=by
 obtain ⟨h0,h1⟩:=plain_ex h
 unfold halberdref9_encode
 cases p with
 | none=>exact bind_i (h0 rfl) (if_i rfl rfl)
 | some q =>
  obtain ⟨X,Y,e,eX,eY⟩:=h1 q rfl
  refine bind_i e (if_n (by simp) (bind_i (put_eq X) (if_i ?_ (bind_i (put_eq Y) (if_i ?_ (ltt_i fun v hv=>?_))))))
  ·simp [nb32_len]
  ·simp [nb32_len]
  ·rw [hv,eX,eY]; rfl
open Classical in
theorem scalar_ex (k:Str) : ∃ x,halberdref9_scalar k=some (x,decide (isSc k))∧(k.length=32 → n8 x=bnum k):=by
 unfold halberdref9_scalar
 by_cases hl:k.length=32
 ·obtain ⟨x,h2,e2⟩:=Rd_N.number (by decide) k hl
  refine ⟨x,bind_i h2 ?_,fun _=>e2⟩
  dsimp only
  by_cases hlt:bnum k<N256
  ·rw [if_pos (by simp [hlt])]
   refine ltt_i fun v hv=>?_
   have hx:x=replicate 8 0#32 ↔ bnum k=0:=by
    rw [← e2]
    exact ⟨fun h=>by rw [h,n8_zero],fun h=>n8_ext (by rw [h,n8_zero])⟩
   have e:v=decide (isSc k):=by
    rw [hv]
    refine decide_eq_decide.2 ⟨fun h=>⟨hl,hlt,fun c=>h (hx.2 c)⟩,fun h c=>h.2.2 (hx.1 c)⟩
   rw [e]
  ·rw [if_neg (by simp [hlt])]
   have : ¬ isSc k:=fun h=>hlt h.2.1
   simp [this]
 ·have hno : ¬ isSc k:=fun h=>hl h.1
  refine ⟨replicate 8 0#32,bind_i (Number_bad 1 k (by decide) hl) ?_,fun h=>absurd h hl⟩
  dsimp only
  rw [if_neg (by decide)]
  simp [hno]
theorem rPublic_is (k:Str) (h:isSc k):halberdref9_Public k=some (encP (sG (bnum k)),0):=by
 obtain ⟨x,h1,e1⟩:=scalar_ex k
 obtain ⟨g,h3,f3⟩:=G_pt
 obtain ⟨r,h4,f4⟩:=product_pt (k:=x) f3
 rw [e1 h.1,Nat.mul_one] at f4
 unfold halberdref9_Public
 refine bind_i h1 (if_n (by simp [h]) (bind_i h3 (bind_i h4 (bind_i (encode_ex f4) ?_))))
 generalize sG (bnum k)=p; cases p <;> rfl
end Go.Kx
end

section
namespace Go.Proofs
open Go Go.Kx
open TryI Try
def der_tag (t_:Int):Option (Bool) :=
 if 0≤t_ then (if t_≤255 then (ltt (decide ((iop (· &&& ·) t_ 31) ≠ 31)) fun (x1:Bool)=>(some x1)) else (some false)) else (some false)
set_option maxHeartbeats 4000000 in
set_option maxRecDepth 20000 in
theorem F89_calls (t_:Int) (r:Bool) (H:der_tag t_=some r) :
  Does Try.prog 89 [vi t_] [] [] (Γ:=Unit) (fun g=>vb r) (fun g=>[]):=by
 intro w hmem hro hd
 refine calls_of (N:=14) (m0:=[(0,vi t_)]) func89 rfl ntmps89 (argM_ok [vi t_]) rfl hmem hro hd ?_
 unfold der_tag at H
 refine TC_seq (TC_region (TVa ?_))
 refine TL_nil (TX_next (TC_seq (TC_region (TVm ?_))))
 refine TLv (V_bin rfl rfl (fun w=>geqI w t_ 0)) ?_
 refine TVm ?_
 refine TFd (d:=5) H (fun hc H=>?_) (fun hc H=>?_)
 ·refine TLw (V_move rfl) ?_
  refine TLw (V_bin rfl rfl (fun w=>leqI w t_ 255)) ?_
  refine TVt ?_
  refine TVm ?_
  refine TFd (d:=9) H (fun hc H=>?_) (fun hc H=>?_)
  ·refine TLw (V_move rfl) ?_
   refine TLw (V_bin rfl rfl (fun w=>andI w t_ 31)) ?_
   refine TLw (V_bin rfl rfl (fun w=>neqI w (iop (· &&& ·) t_ 31) 31)) ?_
   refine TVt ?_
   refine TVa ?_
   obtain ⟨x1,hx1,H⟩:=ltt_elim H
   refine TLr 2 (congrArg vb hx1) ?_
   refine TL_nil (TX_next (TC_ret ?_))
   obtain rfl:=sj H
   exact TX1
  ·refine TLs ?_
   refine TLs ?_
   refine TLs ?_
   refine TVf ?_
   refine TVa ?_
   refine TL_nil (TX_next (TC_ret ?_))
   obtain rfl:=sj H
   exact TX1
 ·refine TLs ?_
  refine TLs ?_
  refine TVf ?_
  refine TVm ?_
  refine TLs ?_
  refine TLs ?_
  refine TLs ?_
  refine TVf ?_
  refine TVa ?_
  refine TL_nil (TX_next (TC_ret ?_))
  obtain rfl:=sj H
  exact TX1
end Go.Proofs
end

section
namespace Go.Proofs
open Go Go.Kx
open TryI Try
def der_head (t_:Int) (n:Int):Option (Str) :=
 ltt (decide (n<128)) fun (x1:Bool)=>(if x1=true then (if (([BitVec.ofInt 8 t_,BitVec.ofInt 8 n]:List (BitVec 8))).length=2 then (ltt (([BitVec.ofInt 8 t_,BitVec.ofInt 8 n]:List (BitVec 8))) fun (x2:Str)=>(some x2)) else none) else (ltt (decide (n<256)) fun (x3:Bool)=>(if x3=true then (if (([BitVec.ofInt 8 t_,129#8,BitVec.ofInt 8 n]:List (BitVec 8))).length=3 then (ltt (([BitVec.ofInt 8 t_,129#8,BitVec.ofInt 8 n]:List (BitVec 8))) fun (x4:Str)=>(some x4)) else none) else (if (([BitVec.ofInt 8 t_,130#8,BitVec.ofInt 8 (shrI' n 8),BitVec.ofInt 8 n]:List (BitVec 8))).length=4 then (ltt (([BitVec.ofInt 8 t_,130#8,BitVec.ofInt 8 (shrI' n 8),BitVec.ofInt 8 n]:List (BitVec 8))) fun (x5:Str)=>(some x5)) else none))))
set_option maxHeartbeats 4000000 in
set_option maxRecDepth 20000 in
theorem F90_calls (t_:Int) (n:Int) (r:Str) (H:der_head t_ n=some r) :
  Does Try.prog 90 [vi t_,vi n] [] [] (Γ:=Unit) (fun g=>vs r) (fun g=>[]):=by
 intro w hmem hro hd
 refine calls_of (N:=32) (m0:=[(0,vi t_),(1,vi n)]) func90 rfl ntmps90 (argM_ok [vi t_,vi n]) rfl hmem hro hd ?_
 unfold der_head at H
 refine TC_seq (TC_region (TVa ?_))
 refine TL_nil (TX_next (TC_seq (TC_block (TC_seq (TC_region (TVm ?_))))))
 refine TLv (V_bin rfl rfl (fun w=>lssI w n 128)) ?_
 refine TVa ?_
 obtain ⟨x1,hx1,H⟩:=ltt_elim H
 refine TLr 5 (congrArg vb hx1) ?_
 refine TL_nil (TX_next (TCb H (fun hc H=>?_) (fun hc H=>?_)))
 ·refine TC_seq (TC_region (TVm ?_))
  refine TLv (V_conv rfl (fun w=>cvI8 w _ _ underlying5 (und3) .i64 t_)) ?_
  refine TVm ?_
  refine TLv (V_conv rfl (fun w=>cvI8 w _ _ underlying5 (und3) .i64 n)) ?_
  refine TLe (E_buildSlice (pv:=[(0,v8 (BitVec.ofInt 8 t_)),(1,v8 (BitVec.ofInt 8 n))]) rfl rfl underlying42 inf5 (s:=1) rfl zer5 rfl rfl rfl (cs:=e8 ([BitVec.ofInt 8 t_,BitVec.ofInt 8 n]:List (BitVec 8))) (by kernel_rfl)) (fun b1=>?_)
  obtain ⟨h1,H⟩:=if_elim H
  refine TLv (V_b2s rfl underlying42 underlying5 underlying9 (.o 0) h1) ?_
  refine TVa ?_
  obtain ⟨x2,hx2,H⟩:=ltt_elim H
  refine TLr 4 (congrArg vs hx2) ?_
  refine TL_nil (TX_next (TC_ret (TX_block_ret (TX_then_ret ?_))))
  obtain rfl:=sj H
  exact TX1
 ·refine TC_seq (TC_region (TVm ?_))
  refine TLv (V_bin rfl rfl (fun w=>lssI w n 256)) ?_
  refine TVa ?_
  obtain ⟨x3,hx3,H⟩:=ltt_elim H
  refine TLr 14 (congrArg vb hx3) ?_
  refine TL_nil (TX_next (TCb H (fun hc H=>?_) (fun hc H=>?_)))
  ·refine TC_seq (TC_region (TVm ?_))
   refine TLv (V_conv rfl (fun w=>cvI8 w _ _ underlying5 (und3) .i64 t_)) ?_
   refine TVm ?_
   refine TLv (V_conv rfl (fun w=>cvI8 w _ _ underlying5 (und3) .i64 n)) ?_
   refine TLe (E_buildSlice (pv:=[(0,v8 (BitVec.ofInt 8 t_)),(1,v8 129#8),(2,v8 (BitVec.ofInt 8 n))]) rfl rfl underlying42 inf5 (s:=1) rfl zer5 rfl rfl rfl (cs:=e8 ([BitVec.ofInt 8 t_,129#8,BitVec.ofInt 8 n]:List (BitVec 8))) (by kernel_rfl)) (fun b2=>?_)
   obtain ⟨h2,H⟩:=if_elim H
   refine TLv (V_b2s rfl underlying42 underlying5 underlying9 (.o 0) h2) ?_
   refine TVa ?_
   obtain ⟨x4,hx4,H⟩:=ltt_elim H
   refine TLr 4 (congrArg vs hx4) ?_
   refine TL_nil (TX_next (TC_ret (TX_block_ret (TX_then_ret ?_))))
   obtain rfl:=sj H
   exact TX1
  ·refine TC_skip (TX_block_normal (TX_next (TC_seq (TC_region (TVm ?_)))))
   refine TLv (V_conv rfl (fun w=>cvI8 w _ _ underlying5 (und3) .i64 t_)) ?_
   refine TVm ?_
   refine TLv (V_bin rfl rfl (fun w=>shrI w n .u64 8 (by decide))) ?_
   refine TLv (V_conv rfl (fun w=>cvI8 w _ _ underlying5 (und3) .i64 (shrI' n 8))) ?_
   refine TVm ?_
   refine TLv (V_conv rfl (fun w=>cvI8 w _ _ underlying5 (und3) .i64 n)) ?_
   refine TLe (E_buildSlice (pv:=[(0,v8 (BitVec.ofInt 8 t_)),(1,v8 130#8),(2,v8 (BitVec.ofInt 8 (shrI' n 8))),(3,v8 (BitVec.ofInt 8 n))]) rfl rfl underlying42 inf5 (s:=1) rfl zer5 rfl rfl rfl (cs:=e8 ([BitVec.ofInt 8 t_,130#8,BitVec.ofInt 8 (shrI' n 8),BitVec.ofInt 8 n]:List (BitVec 8))) (by kernel_rfl)) (fun b3=>?_)
   obtain ⟨h3,H⟩:=if_elim H
   refine TLv (V_b2s rfl underlying42 underlying5 underlying9 (.o 0) h3) ?_
   refine TVa ?_
   obtain ⟨x5,hx5,H⟩:=ltt_elim H
   refine TLr 4 (congrArg vs hx5) ?_
   refine TL_nil (TX_next (TC_ret ?_))
   obtain rfl:=sj H
   exact TX1
end Go.Proofs
end

section
namespace Go.Proofs
open Go Go.Kx
open TryI Try
def der_Put.b0 (parts:List (Str)) (s0:Int × Int):Option ((Int × Int) ⊕ ((Int) ⊕ (Str × Int))) :=
 if s0.2<((parts).length:Int) then (if 0≤s0.2∧s0.2<((parts).length:Int) then (ltt (lg parts ((s0.2).toNat)) fun (p1:Str)=>(ltt (w64 (s0.1+((p1).length:Int))) fun (n1:Int)=>(if 65535<n1 then (some (.inr (.inr (([]:Str),1300)))) else (some (.inl (n1,w64 (s0.2+1))))))) else none) else (some (.inr (.inl s0.1)))
def der_Put.b1 (parts:List (Str)) (s1:Int × List (BitVec 8)):Option ((Int × List (BitVec 8)) ⊕ (List (BitVec 8))) :=
 if s1.1<((parts).length:Int) then (if 0≤s1.1∧s1.1<((parts).length:Int) then (ltt (lg parts ((s1.1).toNat)) fun (p2:Str)=>(if (s1.2).length+(p2).length≤140737488355328 then (ltt (s1.2++p2) fun (l1:List (BitVec 8))=>(some (.inl (w64 (s1.1+1),l1)))) else none)) else none) else (some (.inr s1.2))
def der_Put (t_:Int) (parts:List (Str)):Option (Str × Int) :=
 (loop (der_Put.b0 parts) BIG (0,0)).bind fun (t_1:(Int) ⊕ (Str × Int))=>(match t_1 with | .inl t_1=>((der_tag t_).bind fun (r_1:Bool)=>(if (!r_1)=true then (some (([]:Str),1300)) else ((der_head t_ t_1).bind fun (r_2:Str)=>((loop (der_Put.b1 parts) BIG (0,r_2)).bind fun (t_2:List (BitVec 8))=>(some (t_2,0)))))) | .inr rv=>some rv)
set_option maxHeartbeats 4000000 in
set_option maxRecDepth 20000 in
theorem F63_calls (Aparts:Adr) (cparts:Nat) (t_:Int) (parts:List (Str)) (hcparts:(parts).length≤cparts) (r:Str × Int) (H:der_Put t_ parts=some r) :
  Does Try.prog 63 [vi t_,sl Aparts ((parts).length) cparts] [] [⟨Aparts,eS parts⟩] (Γ:=Unit) (fun g=>Value.tuple [vs r.1,vi r.2].toArray) (fun g=>[]):=by
 intro w hmem hro hd
 refine calls_of (N:=44) (m0:=[(0,vi t_),(1,sl Aparts ((parts).length) cparts)]) func63 rfl ntmps63 (argM_ok [vi t_,sl Aparts ((parts).length) cparts]) rfl hmem hro hd ?_
 unfold der_Put at H
 refine TC_seq (TC_region (TVa ?_))
 refine TVa ?_
 refine TL_nil (TX_next (TC_seq (TC_region (TVa ?_))))
 refine TL_nil (TX_next (TC_seq (TC_seq (TC_region (TVm ?_)))))
 refine TLv (V_len_slice rfl underlying46) ?_
 refine TVm ?_
 refine TL_nil (TX_next (TC_block ?_))
 obtain ⟨t_1,Hl,H⟩:=bind_elim H
 refine TC.sub (m':=[(0,_),(1,_),(6,_),(12,_),(13,_),(14,_)]) ⟨rfl,rfl,rfl,rfl,rfl,rfl,trivial⟩ ?_
 refine TC.pull (is:=[]) (L':=[]) rfl ?_
 refine TC_loopR (id:=0) (body:=(der_Put.b0 parts)) (σ:=Int × Int) (Γ:=Unit) (Γx:=Unit) (fun s0 g0_=>[(0,vi t_),(1,sl Aparts ((parts).length) cparts),(6,vi s0.1),(12,sl Aparts ((parts).length) cparts),(13,vi ((parts).length:Int)),(14,vi s0.2)]) (fun s0 g0_=>[]) (fun t g=>[(0,vi t_),(1,sl Aparts ((parts).length) cparts),(6,vi t)]) (fun t g=>[]) r ?_ BIG (0,0) () t_1 Hl ?_
 ·intro s0 g0_ r1 H K hK hE hR1
  unfold der_Put.b0 at H
  refine TC_seq (TC_region (TLv (V_bin rfl rfl (fun w=>lssI w s0.2 ((parts).length:Int))) ?_))
  refine TL_nil (TX_next (TC_seq (TCd H (fun hc H=>?_) (fun hc H=>?_))))
  ·refine TC_skip (TX_next (TC_seq (TC_block (TC_seq (TC_region ?_)))))
   obtain ⟨h1,H⟩:=if_elim H
   refine TLv (V_idxSlS (i:=s0.2) rfl rfl underlying46 inf9 rfl (.r 0) (map_ne (toNat_lt h1.1 h1.2)) h1.1 h1.2 (k:=(s0.2).toNat) (km1 _)) ?_
   refine TLv (V_load rfl (.r 0) (get_map (f:=vs) (l:=parts) (toNat_lt h1.1 h1.2)) isAgg9) ?_
   refine TVa ?_
   obtain ⟨p1,hp1,H⟩:=ltt_elim H
   refine TLr 8 (congrArg vs hp1) ?_
   refine TL_nil (TX_next (TC_seq (TC_region (TVm ?_))))
   refine TVm ?_
   refine TLv (V_len_str rfl underlying9) ?_
   refine TLv (V_bin rfl rfl (fun w=>addI w s0.1 ((p1).length:Int))) ?_
   refine TVa ?_
   obtain ⟨n1,hn1,H⟩:=ltt_elim H
   refine TLr 6 (congrArg vi hn1) ?_
   refine TL_nil (TX_next (TC_seq (TC_region (TVm ?_))))
   refine TLv (V_bin rfl rfl (fun w=>gtrI w n1 65535)) ?_
   refine TL_nil (TX_next (TCd H (fun hc H=>?_) (fun hc H=>?_)))
   ·refine TC_seq (TC_region (TVa ?_))
    refine TVa ?_
    refine TL_nil (TX_next (TC_ret (TX_block_ret (TX_then_ret (TX_then_ret (TX_block_ret (TX_then_ret ?_)))))))
    have hrv:=(hR1 _ (Option.some.inj H).symm)
    subst hrv
    exact TX2
   ·refine TC_skip (TX_block_normal (TX_next (TC_region (TLv (V_bin rfl rfl (fun w=>addI w s0.2 1)) ?_))))
    refine TVm ?_
    refine TL_nil ?_
    obtain rfl:=sj H
    exact TXk [] (hK (n1,w64 (s0.2+1)) rfl ())
  ·refine TC_exit (TX_then_exit (TX_then_exit ?_))
   obtain rfl:=sj H
   exact TXj [] (hE s0.1 rfl ())
 ·rcases t_1 with t_1 | rv
  ·intro gx1
   dsimp only at H
   refine TX_block_exit (TX_next (TC_seq (TC_seq (TC_region (TVm ?_)))))
   obtain ⟨r_1,hr_1,H⟩:=bind_elim H
   refine TLe (E_c0 (F89_calls t_ r_1 hr_1) call89 .z) (fun g_1=>?_)
   refine TLv (V_un rfl (fun w=>notB w r_1)) ?_
   refine TL_nil (TX_next (TCb H (fun hc H=>?_) (fun hc H=>?_)))
   ·refine TC_seq (TC_region (TVa ?_))
    refine TVa ?_
    refine TL_nil (TX_next (TC_ret (TX_then_ret ?_)))
    obtain rfl:=sj H
    exact TX2
   ·refine TC_skip (TX_next (TC_seq (TC_region (TVm ?_))))
    refine TVm ?_
    obtain ⟨r_2,hr_2,H⟩:=bind_elim H
    refine TLe (E_c0 (F90_calls t_ t_1 r_2 hr_2) call90 .z) (fun g_2=>?_)
    refine TLe (E_s2bR rfl underlying9 underlying42 underlying5) (fun g_3=>?_)
    refine TVa ?_
    refine TL_nil (TX_next (TC_seq (TC_seq (TC_region (TVm ?_)))))
    refine TLv (V_len_slice rfl underlying46) ?_
    refine TVm ?_
    refine TL_nil (TX_next (TC_block ?_))
    obtain ⟨t_2,Hl,H⟩:=bind_elim H
    refine TC.sub (m':=[(9,_),(32,_),(33,_),(34,_)]) ⟨rfl,rfl,rfl,rfl,trivial⟩ ?_
    refine TC.pull (is:=[0]) (L':=[_]) rfl ?_
    refine TC_loopL (id:=2) (body:=(der_Put.b1 parts)) (σ:=Int × List (BitVec 8)) (Γ:=Adr × List (BitVec 8)) (Γx:=Adr × List (BitVec 8)) (fun s1 g1_=>[(9,sl g1_.1 ((s1.2).length) ((s1.2++g1_.2).length)),(32,sl Aparts ((parts).length) cparts),(33,vi ((parts).length:Int)),(34,vi s1.1)]) (fun s1 g1_=>[⟨g1_.1,e8 (s1.2++g1_.2)⟩]) (fun t g=>[(9,sl g.1 ((t).length) ((t++g.2).length))]) (fun t g=>[⟨g.1,e8 (t++g.2)⟩]) ?_ BIG (0,r_2) (some (g_3.1,0),g_3.2) t_2 Hl ?_
    ·intro s1 g1_ r1 H K hK hE
     unfold der_Put.b1 at H
     refine TC_seq (TC_region (TLv (V_bin rfl rfl (fun w=>lssI w s1.1 ((parts).length:Int))) ?_))
     refine TL_nil (TX_next (TC_seq (TCd H (fun hc H=>?_) (fun hc H=>?_))))
     ·refine TC_skip (TX_next (TC_seq (TC_block (TC_seq (TC_region ?_)))))
      obtain ⟨h2,H⟩:=if_elim H
      refine TLv (V_idxSlS (i:=s1.1) rfl rfl underlying46 inf9 rfl (.r 0) (map_ne (toNat_lt h2.1 h2.2)) h2.1 h2.2 (k:=(s1.1).toNat) (km1 _)) ?_
      refine TLv (V_load rfl (.r 0) (get_map (f:=vs) (l:=parts) (toNat_lt h2.1 h2.2)) isAgg9) ?_
      refine TVa ?_
      obtain ⟨p2,hp2,H⟩:=ltt_elim H
      refine TLr 11 (congrArg vs hp2) ?_
      refine TL_nil (TX_next (TC_region (TVm ?_)))
      refine TVm ?_
      obtain ⟨h3,H⟩:=if_elim H
      obtain ⟨l1,hl1,H⟩:=ltt_elim H
      refine TLe (E_appStr (j:=0) (l:=s1.2) (sp:=g1_.2) (st:=p2) rfl rfl rfl underlying42 underlying9 inf5 rfl zer5 (B:=1) rfl (by have:=h3; omega) (by have:=h3; omega) hl1) (fun q1=>?_)
      refine TVa ?_
      refine TL_nil (TX_block_normal (TX_next (TC_region (TLv (V_bin rfl rfl (fun w=>addI w s1.1 1)) ?_))))
      refine TVm ?_
      refine TL_nil ?_
      obtain rfl:=sj H
      exact TXk [0] (hK (w64 (s1.1+1),l1) rfl (q1.1,q1.2))
     ·refine TC_exit (TX_then_exit (TX_then_exit ?_))
      obtain rfl:=sj H
      exact TXj [0] (hE s1.2 rfl (g1_.1,g1_.2))
    ·intro g
     obtain ⟨gx2,hgx⟩ : ∃ z,z=g:=⟨g,rfl⟩; subst hgx
     refine TX_block_exit (TX_next (TC_seq (TC_region (TVm ?_))))
     refine TLv (V_b2s rfl underlying42 underlying5 underlying9 (srcRow (.o 0)) rfl) ?_
     refine TVa ?_
     refine TVa ?_
     refine TL_nil (TX_next (TC_ret ?_))
     obtain rfl:=sj H
     exact TX2
  ·exact (Option.some.inj H)
end Go.Proofs
end

section
namespace Go.Proofs
open Go Go.Kx
open TryI Try
def der_Integer.b0  (s0:Str):Option ((Str) ⊕ (Str)) :=
 (if 0<((s0).length:Int) then (if 0≤(0:Int)∧(0:Int)<((s0).length:Int) then (some (decide ((sg s0 0)=0#8))) else none) else (some false)).bind fun (j1:Bool)=>(if j1=true then (if 1≤(s0).length then (ltt (sub s0 1 ((s0).length)) fun (x1:Str)=>(some (.inl x1))) else none) else (some (.inr s0)))
def der_Integer (x:Str):Option (Str × Int) :=
 if 64<((x).length:Int) then (some (([]:Str),1300)) else ((loop (der_Integer.b0) BIG x).bind fun (t_1:Str)=>((if t_1=([]:Str) then (some true) else (if 0≤(0:Int)∧(0:Int)<((t_1).length:Int) then (some (decide ((128#8).toNat≤((sg t_1 0)).toNat))) else none)).bind fun (j2:Bool)=>((if j2=true then (if (([0#8]:Str)).length+(t_1).length≤4611686018427387904 then (ltt (([0#8]:Str)++t_1) fun (x2:Str)=>(some x2)) else none) else (some t_1)).bind fun (j3:Str)=>(if (([j3]:List (Str))).length=1 then ((der_Put 2 ([j3]:List (Str))).bind fun (r_1:Str × Int)=>(some (r_1.1,r_1.2))) else none))))
set_option maxHeartbeats 4000000 in
set_option maxRecDepth 20000 in
theorem F61_calls (x:Str) (r:Str × Int) (H:der_Integer x=some r) :
  Does Try.prog 61 [vs x] [] [] (Γ:=Unit) (fun g=>Value.tuple [vs r.1,vi r.2].toArray) (fun g=>[]):=by
 intro w hmem hro hd
 refine calls_of (N:=31) (m0:=[(0,vs x)]) func61 rfl ntmps61 (argM_ok [vs x]) rfl hmem hro hd ?_
 unfold der_Integer at H
 refine TC_seq (TC_region (TVa ?_))
 refine TVa ?_
 refine TL_nil (TX_next (TC_seq (TC_seq (TC_region (TVm ?_)))))
 refine TLv (V_len_str rfl underlying9) ?_
 refine TLv (V_bin rfl rfl (fun w=>gtrI w ((x).length:Int) 64)) ?_
 refine TL_nil (TX_next (TCd H (fun hc H=>?_) (fun hc H=>?_)))
 ·refine TC_seq (TC_region (TVa ?_))
  refine TVa ?_
  refine TL_nil (TX_next (TC_ret (TX_then_ret ?_)))
  obtain rfl:=sj H
  exact TX2
 ·refine TC_skip (TX_next (TC_seq (TC_block ?_)))
  obtain ⟨t_1,Hl,H⟩:=bind_elim H
  refine TC.sub (m':=[(0,_)]) ⟨rfl,trivial⟩ ?_
  refine TC.pull (is:=[]) (L':=[]) rfl ?_
  refine TC_loopL (id:=0) (body:=(der_Integer.b0)) (σ:=Str) (Γ:=Unit) (Γx:=Unit) (fun s0 g0_=>[(0,vs s0)]) (fun s0 g0_=>[]) (fun t g=>[(0,vs t)]) (fun t g=>[]) ?_ BIG x () t_1 Hl ?_
  ·intro s0 g0_ r1 H K hK hE
   unfold der_Integer.b0 at H
   refine TC_seq (TC_seq (TC_region (TVm ?_)))
   refine TLv (V_len_str rfl underlying9) ?_
   refine TLv (V_bin rfl rfl (fun w=>gtrI w ((s0).length:Int) 0)) ?_
   refine TVm ?_
   obtain ⟨j1,Hj,H⟩:=bind_elim H
   refine TL_join (Γ:=Unit) (fun gj1=>[(0,vs s0),(14,vb j1)]) (fun gj1=>[]) ?_ ?_
   ·intro gj1
    refine TX_next (TCb H (fun hc H=>?_) (fun hc H=>?_))
    ·refine TC_skip (TX_next (TC_block (TC_region (TVm ?_))))
     obtain ⟨h1,H⟩:=if_elim H
     refine TLv (V_sliceStr (l:=1) (h:=(s0).length) rfl underlying9 (Bnd.some' (i:=1) rfl (by decide)) Bnd.none' h1 (Nat.le_refl _)) ?_
     refine TVa ?_
     obtain ⟨x1,hx1,H⟩:=ltt_elim H
     refine TLr 0 (congrArg vs hx1) ?_
     refine TL_nil (TX_block_normal ?_)
     obtain rfl:=sj H
     exact TXk [] (hK x1 rfl ())
    ·refine TC_exit (TX_then_exit (TX_then_exit ?_))
     obtain rfl:=sj H
     exact TXj [] (hE s0 rfl ())
   ·intro hJ
    replace H:=Hj
    refine TFd (d:=10) H (fun hc H=>?_) (fun hc H=>?_)
    ·refine TLw (V_move rfl) ?_
     obtain ⟨h2,H⟩:=if_elim H
     refine TLw (V_idxStr rfl rfl (i:=0) underlying9 h2.1 h2.2) ?_
     refine TLw (V_bin rfl rfl (fun w=>eql8 w (sg s0 0) 0#8)) ?_
     refine TVt ?_
     refine TL_nil ?_
     obtain rfl:=sj H
     exact TXj [] (hJ ())
    ·refine TLs ?_
     refine TLs ?_
     refine TLs ?_
     refine TVf ?_
     refine TL_nil ?_
     obtain rfl:=sj H
     exact TXj [] (hJ ())
  ·intro g
   refine TX_block_exit (TX_next (TC_seq (TC_seq (TC_region (TVm ?_)))))
   refine TLv (V_bin rfl rfl (fun w=>eqlS w t_1 ([]:Str))) ?_
   refine TVm ?_
   obtain ⟨j2,Hj,H⟩:=bind_elim H
   refine TL_join (Γ:=Unit) (fun gj2=>[(0,vs t_1),(23,vb j2)]) (fun gj2=>[]) ?_ ?_
   ·intro gj2
    refine TX_next ?_
    obtain ⟨j3,Hj,H⟩:=bind_elim H
    refine TC_join (Γ:=Unit) (fun gj3=>[(0,vs j3)]) (fun gj3=>[]) ?_ ?_
    ·intro gj3
     refine TX_next (TC_seq (TC_region (TVm ?_)))
     refine TLe (E_buildSlice (pv:=[(0,vs j3)]) rfl rfl underlying46 inf9 (s:=1) rfl zer9 rfl rfl rfl (cs:=eS ([j3]:List (Str))) (by kernel_rfl)) (fun b1=>?_)
     obtain ⟨h3,H⟩:=if_elim H
     refine TL_re (d:=27) (v:=sl (some (b1,0)) 1 1) (v':=sl (some (b1,0)) ((([j3]:List (Str))).length) ((([j3]:List (Str))).length)) rfl (congrArg (fun n=>sl (some (b1,0)) n n) h3.symm) ?_
     obtain ⟨r_1,hr_1,H⟩:=bind_elim H
     refine TLe (E_c0 (F63_calls (some (b1,0)) ((([j3]:List (Str))).length) 2 ([j3]:List (Str)) (Nat.le_refl _) r_1 hr_1) call63 ⟨.o 0,trivial⟩) (fun g_1=>?_)
     refine TLv V_ex ?_
     refine TLv V_ex ?_
     refine TVa ?_
     refine TVa ?_
     refine TL_nil (TX_next (TC_ret ?_))
     obtain rfl:=sj H
     exact TX2
    ·intro hJ
     replace H:=Hj
     refine TCb H (fun hc H=>?_) (fun hc H=>?_)
     ·refine TC_region (TVm ?_)
      obtain ⟨h4,H⟩:=if_elim H
      refine TLv (V_bin rfl rfl (fun w=>addS w ([0#8]:Str) t_1 h4)) ?_
      refine TVa ?_
      obtain ⟨x2,hx2,H⟩:=ltt_elim H
      refine TLr 0 (congrArg vs hx2) ?_
      refine TL_nil ?_
      obtain rfl:=sj H
      exact TXj [] (hJ ())
     ·refine TC_skip ?_
      obtain rfl:=sj H
      exact TXj [] (hJ ())
   ·intro hJ
    replace H:=Hj
    refine TFd (d:=19) H (fun hc H=>?_) (fun hc H=>?_)
    ·refine TLs ?_
     refine TLs ?_
     refine TLs ?_
     refine TVt ?_
     refine TL_nil ?_
     obtain rfl:=sj H
     exact TXj [] (hJ ())
    ·refine TLw (V_move rfl) ?_
     obtain ⟨h5,H⟩:=if_elim H
     refine TLw (V_idxStr rfl rfl (i:=0) underlying9 h5.1 h5.2) ?_
     refine TLw (V_bin rfl rfl (fun w=>geq8 w (sg t_1 0) 128#8)) ?_
     refine TVf ?_
     refine TL_nil ?_
     obtain rfl:=sj H
     exact TXj [] (hJ ())
end Go.Proofs
end

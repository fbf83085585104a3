/-
  Part 37 of the proof of what several laws share.
-/
import Derived.Test.YtkgeoekcnlgfnaaGreatDoorKh32
import Derived.Test.YtkgeoekcnlgfnaaGreatDoorKh36
set_option maxHeartbeats 4000000
set_option maxRecDepth 20000
set_option linter.unusedVariables false
set_option linter.unusedSimpArgs false
section
namespace Go.Proofs
open Go Go.Kx
theorem acw {s:List (Int × Str)} (g:Int) (key:Str) (hl:s.length<1152921504606846976) : ∃ b,Yg s g key=some b∧(b=true ↔ ∃ j,j<s.length∧(lg s j).1=g):=by
 have hb : ∀ j,j<s.length → Zl.b0 s g key (j:Int)=some (if decide ((lg s j).1=g)=true then .inr (.inr (j:Int)) else .inl ((j+1:Nat):Int)):=fun j hj=>by
  have e:=QW hj hl
  unfold Zl.b0
  rw [e,if_pos (by omega),if_pos (by omega),Int.toNat_natCast]
  clear e
  refine Z5 (v:=decide ((lg s j).1=g)) (by unfold Sa; exact Ze fun x hx=>by rw [hx]) ?_
  by_cases c:(lg s j).1=g
  ·rw [decide_eq_true c]; rfl
  ·rw [decide_eq_false c]; rfl
 have he:Zl.b0 s g key (s.length:Int)=some (.inr (.inl ())):=by
  unfold Zl.b0
  exact if_neg (by omega)
 unfold Yg
 have hx:(∃ k:Nat,k<s.length∧(lg s k).1=g∧Zl s g key=some (k:Int)) ∨ ((∀ j,j<s.length → (lg s j).1 ≠ g)∧Zl s g key=some (-1)):=by
  unfold Zl
  rcases KS (fun j=>decide ((lg s j).1=g)) (fun j=>Sum.inr (j:Int)) (Sum.inl ()) hl hb he with ⟨k,h1,h2,_,h3⟩ | ⟨h1,h3⟩
  ·exact .inl ⟨k,h1,of_decide_eq_true h2,by rw [h3]; rfl⟩
  ·exact .inr ⟨fun j hj=>of_decide_eq_false (h1 j hj),by rw [h3]; rfl⟩
 rcases hx with ⟨k,h1,h2,h3⟩ | ⟨h1,h3⟩
 ·exact ⟨true,Z5 h3 (Ze fun b hb=>by rw [hb,decide_eq_true (by omega)]),⟨fun _=>⟨k,h1,h2⟩,fun _=>rfl⟩⟩
 ·exact ⟨false,Z5 h3 rfl,⟨fun h=>(nomatch h),fun ⟨j,hj,e⟩=>absurd e (h1 j hj)⟩⟩
theorem uS {s:List (Int × Str)} {k j:Nat} (h:j<k) (hk:k≤s.length):lg (PH s 0 k) j=lg s j:=by
 unfold lg PH
 rw [List.getD_eq_getElem?_getD,List.getD_eq_getElem?_getD,List.drop_zero,List.getElem?_take,if_pos (by omega)]
def sO (Vr:List (Int × Str)) (g:Int) (j:Nat) (x:Str × Nat):Str × Nat:=if (lg Vr j).1=g then ((lg Vr j).2,x.2+1) else x
def Iz (Vr:List (Int × Str)) (g:Int) (n:Nat):Str × Nat:=iter (sO Vr g) n ([],0)
theorem kC (Vr:List (Int × Str)) (g:Int) : ∀ n,(Iz Vr g n).2≤n
 | 0=>Nat.le_refl _
 | n+1=>by
  have:=kC Vr g n
  show (sO Vr g n (Iz Vr g n)).2≤_
  unfold sO
  split
  ·show (Iz Vr g n).2+1≤_; omega
  ·omega
theorem vH (Vr:List (Int × Str)) (g:Int) : ∀ n,(∀ j,j<n → (lg Vr j).1 ≠ g) → Iz Vr g n=([],0)
 | 0,_=>rfl
 | n+1,h=>by
  show sO Vr g n (Iz Vr g n)=_
  rw [vH Vr g n fun j hj=>h j (by omega)]
  unfold sO
  rw [if_neg (h n (by omega))]
theorem tF (Vr:List (Int × Str)) (g:Int) : ∀ n k,k<n → (lg Vr k).1=g → (∀ j,j<n → j ≠ k → (lg Vr j).1 ≠ g) → Iz Vr g n=((lg Vr k).2,1)
 | n+1,k,hk,e,h=>by
  show sO Vr g n (Iz Vr g n)=_
  by_cases c:n=k
  ·subst c
   rw [vH Vr g n fun j hj=>h j (by omega) (by omega)]
   unfold sO
   rw [if_pos e]
  ·rw [tF Vr g n k (by omega) e fun j hj hjk=>h j (by omega) hjk]
   unfold sO
   rw [if_neg (h n (by omega) c)]
theorem vB (Vr:List (Int × Str)) (g:Int) : ∀ n,0<(Iz Vr g n).2 ↔ ∃ j,j<n∧(lg Vr j).1=g
 | 0=>⟨fun h=>absurd h (by simp [Iz,iter]),fun ⟨j,h,_⟩=>by omega⟩
 | n+1=>by
  have ih:=vB Vr g n
  show 0<(sO Vr g n (Iz Vr g n)).2 ↔ _
  unfold sO
  by_cases c:(lg Vr n).1=g
  ·rw [if_pos c]; exact ⟨fun _=>⟨n,by omega,c⟩,fun _=>by simp⟩
  ·rw [if_neg c,ih]
   exact ⟨fun ⟨j,h,e⟩=>⟨j,by omega,e⟩,fun ⟨j,h,e⟩=>⟨j,by have:j ≠ n:=fun q=>c (q ▸ e); omega,e⟩⟩
theorem Be (Vr:List (Int × Str)) (g:Int) : ∀ n,1<(Iz Vr g n).2 ↔ ∃ j,j<n∧(lg Vr j).1=g ∧ ∃ i,i<j∧(lg Vr i).1=g
 | 0=>⟨fun h=>absurd h (by simp [Iz,iter]),fun ⟨j,h,_⟩=>by omega⟩
 | n+1=>by
  have ih:=Be Vr g n
  have ip:=vB Vr g n
  show 1<(sO Vr g n (Iz Vr g n)).2 ↔ _
  unfold sO
  by_cases c:(lg Vr n).1=g
  ·rw [if_pos c]
   constructor
   ·intro h
    obtain ⟨i,hi,e⟩:=ip.1 (by have:1<(Iz Vr g n).2+1:=h; omega)
    exact ⟨n,by omega,c,i,hi,e⟩
   ·rintro ⟨j,hj,_,i,hi,e⟩
    have:=ip.2 ⟨i,by omega,e⟩
    show 1<(Iz Vr g n).2+1
    omega
  ·rw [if_neg c,ih]
   exact ⟨fun ⟨j,h,e⟩=>⟨j,by omega,e⟩,fun ⟨j,h,e⟩=>⟨j,by have:j ≠ n:=fun q=>c (q ▸ e.1); omega,e⟩⟩
section
variable {s:Bool} {S G:List Int} {ch:List Str} {key:Str} {ro:List Str} {nm:Str} {tk:Int} {sl:Str} {U4:List (Str × Str × Int × Int × Int × Int)} {tape:Str} {clock pad limit ring:Int} {mK:Int} {mR mS:Str} {LP:List Int} {mN:Str} {mV mG Mk mM:List Int} {Vr:List (Int × Str)} {mI:List (Str × Int)} {mB:List Str} {mP:Int} {mO:List Int} {mC:List Str} {Pn:Int} {mD:Str} {mL mA:Int} {IB:Str} {mU:Int} {again:Bool} {group:Int}
theorem BK (g:Int) (hl:Vr.length<1152921504606846976):Xh mK mR mS LP mN mV mG Mk mM Vr mI mB mP mO mC Pn mD mL mA IB mU g=some ((Iz Vr g Vr.length).1,(((Iz Vr g Vr.length).2:Nat):Int)):=by
 unfold Xh
 refine Z5 (v:=((Iz Vr g Vr.length).1,(((Iz Vr g Vr.length).2:Nat):Int))) (Vw (fun j=>((Iz Vr g j).1,(((Iz Vr g j).2:Nat):Int),(j:Int))) Vr.length _ hl rfl (fun j hj=>?_) ?_) rfl
 ·have e:=QW hj hl
  have hle:=kC Vr g j
  have e2:ZJ ((((Iz Vr g j).2:Nat):Int)+1)=(((Iz Vr g j).2+1:Nat):Int):=Vj (b:=1) (by omega)
  have hs:Iz Vr g (j+1)=sO Vr g j (Iz Vr g j):=rfl
  unfold Xh.b0
  rw [hs]
  unfold sO
  dsimp only
  rw [if_pos (by omega),if_pos (by omega),Int.toNat_natCast,e]
  by_cases c:(lg Vr j).1=g
  ·rw [if_pos c,if_pos c]
   exact ZM (by omega) (Ze fun a ha=>Ze fun k hk=>Ze fun i hi=>by rw [ha,hk,hi,e2])
  ·rw [if_neg c,if_neg c]
   exact Ze fun i hi=>by rw [hi]
 ·unfold Xh.b0
  exact if_neg (by dsimp only; omega)
def iI (mG:List Int) (Vr:List (Int × Str)):Prop := ∀ j,j<Vr.length → (lg Vr j).1 ∈ mG ∧ ∀ i,i<j → (lg Vr i).1 ≠ (lg Vr j).1
theorem dR (hl:Vr.length<1152921504606846976) (hG:mG.length<1152921504606846976) : ∃ b,XG mK mR mS LP mN mV mG Mk mM Vr mI mB mP mO mC Pn mD mL mA IB mU=some b∧(b=true ↔ ¬ iI mG Vr):=by
 unfold XG
 refine Or.elim (Og (body:=XG.b0 mK mR mS LP mN mV mG Mk mM Vr mI mB mP mO mC Pn mD mL mA IB mU) (fun _=>true) (fun j => ¬ 1<(Iz Vr (lg Vr j).1 Vr.length).2∧(lg Vr j).1 ∈ mG) hl (fun j hj=>?_) ?_) (fun hx=>?_) (fun hx=>?_)
 ·have e:=QW hj hl
  unfold XG.b0
  rw [e,if_pos (by omega),if_pos (by omega),Int.toNat_natCast,BK _ hl,Nt _ hG]
  clear e
  by_cases c:1<(Iz Vr (lg Vr j).1 Vr.length).2
  ·exact ⟨true,Z5 rfl (ZM (by dsimp only; omega) rfl),⟨fun _ h=>h.1 c,fun _=>rfl⟩⟩
  ·refine ⟨!decide ((lg Vr j).1 ∈ mG),Z5 rfl (Zi (by dsimp only; omega) (ZM (by omega) (Z5 rfl ?_))),?_⟩
   ·cases decide ((lg Vr j).1 ∈ mG) <;> rfl
   ·rw [Bool.not_eq_true',decide_eq_false_iff_not]
    exact ⟨fun h q=>h q.2,fun h q=>h ⟨c,q⟩⟩
 ·unfold XG.b0
  exact if_neg (by omega)
 ·obtain ⟨h1,h2⟩:=hx
  refine ⟨false,Z5 h1 rfl,⟨fun h=>(nomatch h),fun h=>absurd (fun j hj=>⟨(h2 j hj).2,fun i hi q=>(h2 j hj).1 ((Be _ _ _).2 ⟨j,hj,rfl,i,hi,q⟩)⟩) h⟩⟩
 ·obtain ⟨k,h1,h2,h3⟩:=hx
  refine ⟨true,Z5 h3 rfl,⟨fun _ h=>h2 ⟨fun c=>?_,(h k h1).1⟩,fun _=>rfl⟩⟩
  obtain ⟨j,hj,e1,i,hi,e2⟩:=(Be _ _ _).1 c
  exact (h j hj).2 i hi (e2.trans e1.symm)
theorem jP {G:List Int} {s:List (Int × Str)} {sh:Str} {re:Bool} {r1:Int × Bool} (hl:s.length<1152921504606846976) (hG:G.length<1152921504606846976) :
  (¬ iI G s∧loop (X3.b0 G s sh re r1) BIG 0=some (.inr (47,r1.1,sh,re))) ∨ (iI G s∧loop (X3.b0 G s sh re r1) BIG 0=some (.inl ())):=by
 have hp : ∀ j, ∃ b:Bool,j<s.length → Yg (PH s 0 j) (lg s j).1 (lg s j).2=some b∧(b=true ↔ ∃ i,i<j∧(lg s i).1=(lg s j).1):=fun j=>by
  by_cases c:j<s.length
  ·have hsl:(PH s 0 j).length=j:=by rw [TP (by omega)]; omega
   obtain ⟨b,h1,h2⟩:=acw (s:=PH s 0 j) (lg s j).1 (lg s j).2 (by omega)
   refine ⟨b,fun _=>⟨h1,h2.trans ⟨fun ⟨i,hi,e⟩=>⟨i,by omega,?_⟩,fun ⟨i,hi,e⟩=>⟨i,by omega,?_⟩⟩⟩⟩
   ·rwa [uS (by omega) (by omega)] at e
   ·rwa [uS hi (by omega)]
  ·exact ⟨false,fun h=>absurd h c⟩
 obtain ⟨f,hf⟩:=Classical.axiomOfChoice hp
 have hb : ∀ j,j<s.length → X3.b0 G s sh re r1 (j:Int)=some (if (f j || !decide ((lg s j).1 ∈ G))=true then .inr (.inr (47,r1.1,sh,re)) else .inl ((j+1:Nat):Int)):=fun j hj=>by
  have e:=QW hj hl
  unfold X3.b0
  rw [e,if_pos (by omega),if_pos (by omega),if_pos (by omega),Int.toNat_natCast,if_pos (by omega),if_pos (by omega),if_pos (by omega)]
  clear e
  refine Z5 (hf j hj).1 ?_
  cases f j with
  | true=>rfl
  | false =>
   refine Zi (by decide) (Z5 (Uz _ hG) ?_)
   cases decide ((lg s j).1 ∈ G) <;> rfl
 have he:X3.b0 G s sh re r1 (s.length:Int)=some (.inr (.inl ())):=by
  unfold X3.b0
  exact if_neg (by omega)
 rcases KS (fun j=>f j || !decide ((lg s j).1 ∈ G)) (fun _=>Sum.inr (47,r1.1,sh,re)) (Sum.inl ()) hl hb he with ⟨k,h1,h2,_,h3⟩ | ⟨h1,h3⟩
 ·refine .inl ⟨fun h=>?_,h3⟩
  rcases Bool.or_eq_true_iff.1 h2 with q | q
  ·obtain ⟨i,hi,e⟩:=(hf k h1).2.1 q
   exact (h k h1).2 i hi e
  ·have:=(h k h1).1
   simp [this] at q
 ·refine .inr ⟨fun j hj=>?_,h3⟩
  have h4:=h1 j hj
  simp only [Bool.or_eq_false_iff,Bool.not_eq_false',decide_eq_true_eq] at h4
  exact ⟨h4.2,fun i hi e=>by rw [(hf j hj).2.2 ⟨i,hi,e⟩] at h4; cases h4.1⟩
theorem acY {su og:Int} (hl:Vr.length<1152921504606846976) (h:iI mG Vr) :
  (∃ k:Nat,k<Vr.length∧Iz Vr og Vr.length=((lg Vr k).2,1)∧Zo Vr s S G ch key ro nm tk sl U4 tape clock pad limit ring mK mR mS LP mN mV mG Mk mM Vr mI mB mP mO mC Pn mD mL mA IB mU again group su og ([]:Str) false false 0=some (k:Int)) ∨ (Iz Vr og Vr.length=([],0)∧Zo Vr s S G ch key ro nm tk sl U4 tape clock pad limit ring mK mR mS LP mN mV mG Mk mM Vr mI mB mP mO mC Pn mD mL mA IB mU again group su og ([]:Str) false false 0=some (-1)):=by
 unfold Zo
 refine Or.elim (Og (body:=Zo.b0 Vr s S G ch key ro nm tk sl U4 tape clock pad limit ring mK mR mS LP mN mV mG Mk mM Vr mI mB mP mO mC Pn mD mL mA IB mU again group su og ([]:Str) false false 0) (fun j=>(j:Int)) (fun j=>(lg Vr j).1 ≠ og) hl (fun j hj=>?_) ?_) (fun hx=>?_) (fun hx=>?_)
 ·have e:=QW hj hl
  unfold Zo.b0
  rw [e,if_pos (by omega),if_pos (by omega),Int.toNat_natCast]
  clear e
  refine ⟨decide ((lg Vr j).1=og),Z5 (v:=decide ((lg Vr j).1=og)) (by unfold R_; exact Ze fun x hx=>by rw [hx]) ?_,?_⟩
  ·cases decide ((lg Vr j).1=og) <;> rfl
  ·rw [decide_eq_true_iff]; exact ⟨fun c q=>q c,fun c=>Classical.byContradiction c⟩
 ·unfold Zo.b0
  exact if_neg (by omega)
 ·obtain ⟨h1,h2⟩:=hx
  exact .inr ⟨vH _ _ _ h2,Z5 h1 rfl⟩
 ·obtain ⟨k,h1,h2,h3⟩:=hx
  have h2:=Classical.byContradiction h2
  refine .inl ⟨k,h1,tF _ _ _ k h1 h2 fun j hj hjk q=>?_,Z5 h3 rfl⟩
  rcases Nat.lt_or_gt_of_ne hjk with c | c
  ·exact (h k h1).2 j c (q.trans h2.symm)
  ·exact (h j hj).2 k c (h2.trans q.symm)
theorem nQ (hM:mM.length<1152921504606846976) (su:Int) :
  ∃ a1 a2 a3 a4 b,Oq s S G ch key ro nm tk sl U4 tape clock pad limit ring mK mR mS LP mN mV mG Mk mM Vr mI mB mP mO mC Pn mD mL mA IB mU su=some (a1,a2,a3,a4,b)∧Uw s S G ch key ro nm tk sl U4 tape clock pad limit ring mK mR mS LP mN mV mG Mk mM Vr mI mB mP mO mC Pn mD mL mA IB mU su=some b:=by
 unfold Oq Uw
 by_cases c:(mI.length:Int)=0
 ·exact ⟨_,_,_,_,false,Z5 (v:=true) (ZM c rfl) (ZM rfl rfl),Z5 (v:=true) (ZM c rfl) (ZM rfl rfl)⟩
 ·by_cases d:(1:Int) ∈ mM
  ·have h1:(if ((mI).length:Int)=0 then (some true) else ((Yi mM 1).bind fun YJ=>(some (!YJ))))=some false:=Zi c (Z5 (Uz 1 hM) (by rw [decide_eq_true d]; rfl))
   by_cases q:sl.length=32
   ·have h2:(if ((mI).length:Int)=0 then (some true) else ((Yh mM 1).bind fun YJ=>(if (!YJ)=true then (some true) else (some (decide (((sl).length:Int) ≠ 32))))))=some false:=Zi c (Z5 (Nt 1 hM) (by rw [decide_eq_true d]; exact Zi (by decide) (by rw [decide_eq_false (by omega)])))
    rw [h1,h2,zF,qF]
    generalize DU sl (lg mI 0).1=p
    by_cases x1:p.2.2.2.2=0
    ·by_cases x2:p.1=su
     ·by_cases x3:p.2.2.1≤clock
      ·exact ⟨_,_,_,_,_,Z5 rfl (Zi (by decide) (ZM (by omega) (Z5 rfl (ZM x1 (ZM x2 (ZM x3 rfl)))))),Z5 rfl (Zi (by decide) (ZM (by omega) (Z5 rfl (ZM x1 (ZM x2 (ZM x3 rfl))))))⟩
      ·exact ⟨_,_,_,_,_,Z5 rfl (Zi (by decide) (ZM (by omega) (Z5 rfl (ZM x1 (ZM x2 (Zi x3 rfl)))))),Z5 rfl (Zi (by decide) (ZM (by omega) (Z5 rfl (ZM x1 (ZM x2 (Zi x3 rfl))))))⟩
     ·exact ⟨_,_,_,_,_,Z5 rfl (Zi (by decide) (ZM (by omega) (Z5 rfl (ZM x1 (Zi x2 rfl))))),Z5 rfl (Zi (by decide) (ZM (by omega) (Z5 rfl (ZM x1 (Zi x2 rfl)))))⟩
    ·exact ⟨_,_,_,_,_,Z5 rfl (Zi (by decide) (ZM (by omega) (Z5 rfl (Zi x1 rfl)))),Z5 rfl (Zi (by decide) (ZM (by omega) (Z5 rfl (Zi x1 rfl))))⟩
   ·have h2:(if ((mI).length:Int)=0 then (some true) else ((Yh mM 1).bind fun YJ=>(if (!YJ)=true then (some true) else (some (decide (((sl).length:Int) ≠ 32))))))=some true:=Zi c (Z5 (Nt 1 hM) (by rw [decide_eq_true d]; exact Zi (by decide) (by rw [decide_eq_true (by omega)])))
    rw [h1,h2,zF]
    have x1:(DU sl (lg mI 0).1).2.2.2.2 ≠ 0:=by unfold DU; rw [if_pos q]; decide
    exact ⟨_,_,_,_,_,Z5 rfl (Zi (by decide) (ZM (by omega) (Z5 rfl (Zi x1 rfl)))),rfl⟩
  ·exact ⟨_,_,_,_,false,Z5 (v:=true) (Zi c (Z5 (Uz 1 hM) (by rw [decide_eq_false d]; rfl))) (ZM rfl rfl),Z5 (v:=true) (Zi c (Z5 (Nt 1 hM) (by rw [decide_eq_false d]; exact ZM rfl rfl))) (ZM rfl rfl)⟩
theorem zq (hS:S.length<1152921504606846976) (hG:G.length<1152921504606846976) (hc:ch.length<1152921504606846976) (hr:ro.length<1152921504606846976) (hp:U4.length<1152921504606846976) (hSu:LP.length<1152921504606846976) (hV:mV.length<1152921504606846976) (hmG:mG.length<1152921504606846976) (hSc:Mk.length<1152921504606846976) (hM:mM.length<1152921504606846976) (hSh:Vr.length<1152921504606846976) :
  ∃ r,PD s S G ch key ro nm tk sl U4 tape clock pad limit ring mK mR mS LP mN mV mG Mk mM Vr mI mB mP mO mC Pn mD mL mA IB mU again group=some r∧SQ s S G ch key ro nm tk sl U4 tape clock pad limit ring mK mR mS LP mN mV mG Mk mM Vr mI mB mP mO mC Pn mD mL mA IB mU again group=some r:=by
 obtain ⟨b,hb,gV,hb3⟩:=wI (s:=s) (S:=S) (G:=G) (ch:=ch) (key:=key) (ro:=ro) (nm:=nm) (tk:=tk) (sl:=sl) (U4:=U4) (tape:=tape) (clock:=clock) (pad:=pad) (limit:=limit) (ring:=ring) hS hG hc hr hp
 unfold PD SQ
 rw [hb,gV]
 have lJ : ∀ a:Int,(XQ a).bind (fun r=>some ((0:Int),(0:Int),([]:Str),false,false,r))=some (0,0,[],false,false,a):=fun a=>rfl
 obtain ⟨x1,f1⟩ : ∃ x,X0 S LP=some x:=by rcases Me hS hSu with ⟨k,_,_,_,h⟩ | ⟨_,h⟩ <;> exact ⟨_,h⟩
 obtain ⟨x2,f2⟩ : ∃ x,X0 G mG=some x:=by rcases Me hG hmG with ⟨k,_,_,_,h⟩ | ⟨_,h⟩ <;> exact ⟨_,h⟩
 cases b with
 | false=>exact ⟨_,Z5 rfl (Z5 (v:=true) (ZM rfl rfl) (ZM rfl rfl)),Z5 f1 (Z5 f2 (Z5 rfl (Z5 (v:=true) (ZM rfl rfl) (ZM rfl (lJ 40)))))⟩
 | true =>
  obtain ⟨hk,hG1,iC,hG0, -, -⟩:=hb3 rfl
  cases s with
  | false=>exact ⟨_,Z5 rfl (Z5 (v:=true) (Zi (by decide) (ZM rfl rfl)) (ZM rfl rfl)),Z5 f1 (Z5 f2 (Z5 rfl (Z5 (v:=true) (Zi (by decide) (ZM rfl rfl)) (ZM rfl (lJ 40)))))⟩
  | true =>
   by_cases k1:mK=1
   ·have j1:(if (!true)=true then (some true) else (if (!true)=true then (some true) else (some (decide (mK ≠ 1)))))=some false:=Zi (by decide) (Zi (by decide) (by rw [decide_eq_false (fun h=>h k1)]))
    have j2:(if (!true)=true then (some true) else (if (!true)=true then (some true) else (X5 (decide (mK ≠ 1)) fun x6=>(some x6))))=some false:=Zi (by decide) (Zi (by decide) (Ze fun z hz=>by rw [hz,decide_eq_false (fun h=>h k1)]))
    rw [f1,f2]
    simp only [Option.bind_some]
    rw [j1,j2]
    simp only [Option.bind_some]
    rw [if_neg (by decide),if_neg (by decide),Nt 772 hV]
    by_cases v1:(772:Int) ∈ mV
    ·rw [decide_eq_true v1]
     rcases Me hS hSu with ⟨k,hk1,fu,g1,g2⟩ | ⟨g1,g2⟩
     ·have e1:x1=lg S k:=Option.some.inj (f1.symm.trans g2)
      have n1 : ¬ x1<0:=by rw [e1]; have:=iC _ (Jh.2 ⟨k,hk1,rfl⟩); omega
      by_cases l1:mG.length=0 ∨ Vr.length=0
      ·have o1:(if ((mG).length:Int)=0 then (some true) else (X5 (decide (((Vr).length:Int)=0)) fun x=>(some x)))=some true:=by
        rcases l1 with l | l
        ·exact ZM (by omega) rfl
        ·by_cases c:((mG).length:Int)=0
         ·exact ZM c rfl
         ·exact Zi c (Ze fun z hz=>by rw [hz,decide_eq_true (by omega)])
       refine ⟨_,Z5 (v:=(109,x1)) (by unfold VF; exact Z5 g1 (Z5 (Uz 772 hV) (by rw [decide_eq_true v1]; exact Zi (by decide) (Zi (fun h=>nomatch h) (Z5 o1 (ZM rfl (by rw [e1]))))))) (ZM (show (109:Int) ≠ -1 by decide) rfl),Z5 rfl (Zi (by decide) (Ze fun z hz=>Zi (by rw [hz,decide_eq_false n1]; decide) (Z5 o1 (ZM rfl (lJ 109)))))⟩
      ·have o1:(if ((mG).length:Int)=0 then (some true) else (X5 (decide (((Vr).length:Int)=0)) fun x=>(some x)))=some false:=Zi (by omega) (Ze fun z hz=>by rw [hz,decide_eq_false (by omega)])
       have off:VF true S G ch key ro nm tk sl U4 tape clock pad limit ring mK mR mS LP mN mV mG Mk mM Vr mI mB mP mO mC Pn mD mL mA IB mU again group 0 0 ([]:Str) false false 0=some (-1,x1):=by
        unfold VF; exact Z5 g1 (Z5 (Uz 772 hV) (by rw [decide_eq_true v1]; exact Zi (by decide) (Zi (fun h=>nomatch h) (Z5 o1 (Zi (by decide) (by rw [e1]))))))
       rw [off]
       simp only [Option.bind_some]
       rw [if_neg (by decide),if_neg (by decide)]
       rw [show (∀ f:Bool → Option (Int × Int × Str × Bool × Bool × Int),X5 (decide (x1<0)) f=f false) from fun f=>Ze fun z hz=>by rw [hz,decide_eq_false n1]]
       rw [if_neg (by decide),o1]
       simp only [Option.bind_some]
       rw [if_neg (by decide)]
       rcases Me hG hmG with ⟨k2,hk3,hk4,g3,g4⟩ | ⟨g3,g4⟩
       ·have e2:x2=lg G k2:=Option.some.inj (f2.symm.trans g4)
        have n2 : ¬ x2<0:=by rw [e2]; have:=hG0 _ (Jh.2 ⟨k2,hk3,rfl⟩); omega
        rw [show (∀ f:Bool → Option (Int × Int × Str × Bool × Bool × Int),X5 (decide (x2<0)) f=f false) from fun f=>Ze fun z hz=>by rw [hz,decide_eq_false n2]]
        rw [if_neg (by decide)]
        obtain ⟨bd,bd1,bd2⟩:=dR (mK:=mK) (mR:=mR) (mS:=mS) (LP:=LP) (mN:=mN) (mV:=mV) (mG:=mG) (Mk:=Mk) (mM:=mM) (Vr:=Vr) (mI:=mI) (mB:=mB) (mP:=mP) (mO:=mO) (mC:=mC) (Pn:=Pn) (mD:=mD) (mL:=mL) (mA:=mA) (IB:=IB) (mU:=mU) hSh hmG
        rw [bd1]
        simp only [Option.bind_some]
        rcases jP (G:=mG) (s:=Vr) (sh:=[]) (re:=false) (r1:=(lg G k2,true)) hSh hmG with ⟨w1,w2⟩ | ⟨w1,w2⟩
        ·have:bd=true:=bd2.2 w1
         subst this
         exact ⟨_,Z5 (v:=(47,lg G k2,[],false)) (by unfold X3; exact Z5 g3 (Zi (fun h=>nomatch h) (Z5 w2 rfl))) (ZM (show (47:Int) ≠ -1 by decide) rfl),Z5 (v:=true) (ZM rfl rfl) (ZM rfl (lJ 47))⟩
        ·have:bd=false:=by cases bd; rfl; exact absurd w1 (bd2.1 rfl)
         subst this
         rw [if_neg (by decide)]
         have tail : ∀ (og:Int) (r:Int),((∃ k:Nat,k<Vr.length∧Iz Vr og Vr.length=((lg Vr k).2,1)∧r=(k:Int)) ∨ (Iz Vr og Vr.length=([],0)∧r = -1)) → ∃ q:Int × Int × Str × Bool × Bool × Int,
           ((if (!(decide (r<0)))=true then (if 0≤r∧r<((Vr).length:Int) then (some ((-1:Int),og,(lg Vr ((r).toNat)).2,decide (r<0))) else none) else (some ((-1:Int),og,([]:Str),decide (r<0)))).bind fun X7=>(if X7.1 ≠ (-1) then (some ((0:Int),(0:Int),([]:Str),false,false,X7.1)) else ((Su true S G ch key ro nm tk sl U4 tape clock pad limit ring mK mR mS LP mN mV mG Mk mM Vr mI mB mP mO mC Pn mD mL mA IB mU again group x1 X7.2.1 X7.2.2.1 X7.2.2.2 false 0).bind fun Xu=>(if Xu.1 ≠ (-1) then (some ((0:Int),(0:Int),([]:Str),false,false,Xu.1)) else (some (x1,X7.2.1,X7.2.2.1,X7.2.2.2,Xu.2,(-1:Int)))))))=some q ∧
           ((Xh mK mR mS LP mN mV mG Mk mM Vr mI mB mP mO mC Pn mD mL mA IB mU og).bind fun FU=>(if FU.2=0 then (some (x1,og,([]:Str),true,false,(-1:Int))) else ((if 0<((mI).length:Int) then (some (decide (((mM).length:Int)=0))) else (some false)).bind fun j5=>(if j5=true then ((XQ 109).bind fun IG=>(some ((0:Int),(0:Int),([]:Str),false,false,IG))) else ((Uw true S G ch key ro nm tk sl U4 tape clock pad limit ring mK mR mS LP mN mV mG Mk mM Vr mI mB mP mO mC Pn mD mL mA IB mU x1).bind fun Ff=>(if Ff=true then (some (x1,og,FU.1,false,Ff,(-1:Int))) else (X5 (decide (((Mk).length:Int)=0)) fun x3=>(if x3=true then ((XQ 109).bind fun vI=>(some ((0:Int),(0:Int),([]:Str),false,false,vI))) else ((Yh Mk 1027).bind fun gH=>(if (!gH)=true then ((XQ 40).bind fun jk=>(some ((0:Int),(0:Int),([]:Str),false,false,jk))) else (some (x1,og,FU.1,false,Ff,(-1:Int)))))))))))))=some q:=fun og r hr2=>by
          rw [BK og hSh,Nt 1027 hSc]
          rcases hr2 with ⟨k3,z1,z2,rfl⟩ | ⟨z2,rfl⟩
          ·rw [z2,decide_eq_false (show ¬ ((k3:Nat):Int)<0 by omega),if_pos (show (!false)=true from rfl),if_pos (by omega),Int.toNat_natCast]
           simp only [Option.bind_some]
           rw [if_neg (by decide),if_neg (by decide)]
           unfold Su
           rw [if_neg (by decide)]
           obtain ⟨j,hj⟩ : ∃ j:Bool,(if 0<((mI).length:Int) then (some (decide (((mM).length:Int)=0))) else (some false))=some j:=by
            by_cases c:0<(mI.length:Int)
            ·exact ⟨_,if_pos c⟩
            ·exact ⟨_,if_neg c⟩
           rw [hj]
           simp only [Option.bind_some]
           cases j with
           | true=>exact ⟨_,rfl,rfl⟩
           | false =>
            rw [if_neg (by decide),if_neg (by decide)]
            obtain ⟨a1,a2,a3,a4,p,p1,p2⟩:=nQ (s:=true) (S:=S) (G:=G) (ch:=ch) (key:=key) (ro:=ro) (nm:=nm) (tk:=tk) (sl:=sl) (U4:=U4) (tape:=tape) (clock:=clock) (pad:=pad) (limit:=limit) (ring:=ring) (mK:=mK) (mR:=mR) (mS:=mS) (LP:=LP) (mN:=mN) (mV:=mV) (mG:=mG) (Mk:=Mk) (mM:=mM) (Vr:=Vr) (mI:=mI) (mB:=mB) (mP:=mP) (mO:=mO) (mC:=mC) (Pn:=Pn) (mD:=mD) (mL:=mL) (mA:=mA) (IB:=IB) (mU:=mU) hM x1
            rw [p1,p2,Uz 1027 hSc]
            simp only [Option.bind_some]
            cases p with
            | true=>exact ⟨_,rfl,rfl⟩
            | false =>
             by_cases c:(Mk.length:Int)=0
             ·rw [decide_eq_true c]; exact ⟨_,rfl,rfl⟩
             ·rw [decide_eq_false c]
              by_cases d:(1027:Int) ∈ Mk
              ·rw [decide_eq_true d]; exact ⟨_,rfl,rfl⟩
              ·rw [decide_eq_false d]; exact ⟨_,rfl,rfl⟩
          ·rw [z2]
           exact ⟨_,rfl,rfl⟩
         have idx : ∀ og, ∃ r:Int,Zo Vr true S G ch key ro nm tk sl U4 tape clock pad limit ring mK mR mS LP mN mV mG Mk mM Vr mI mB mP mO mC Pn mD mL mA IB mU again group x1 og ([]:Str) false false 0=some r∧((∃ k:Nat,k<Vr.length∧Iz Vr og Vr.length=((lg Vr k).2,1)∧r=(k:Int)) ∨ (Iz Vr og Vr.length=([],0)∧r = -1)):=fun og=>by
          rcases acY (s:=true) (S:=S) (G:=G) (ch:=ch) (key:=key) (ro:=ro) (nm:=nm) (tk:=tk) (sl:=sl) (U4:=U4) (tape:=tape) (clock:=clock) (pad:=pad) (limit:=limit) (ring:=ring) (mK:=mK) (mR:=mR) (mS:=mS) (LP:=LP) (mN:=mN) (mV:=mV) (mG:=mG) (Mk:=Mk) (mM:=mM) (Vr:=Vr) (mI:=mI) (mB:=mB) (mP:=mP) (mO:=mO) (mC:=mC) (Pn:=Pn) (mD:=mD) (mL:=mL) (mA:=mA) (IB:=IB) (mU:=mU) (again:=again) (group:=group) (su:=x1) (og:=og) hSh w1 with ⟨k,y1,y2,y3⟩ | ⟨y2,y3⟩
          ·exact ⟨_,y3, .inl ⟨k,y1,y2,rfl⟩⟩
          ·exact ⟨_,y3, .inr ⟨y2,rfl⟩⟩
         unfold X3
         rw [g3]
         simp only [Option.bind_some]
         rw [if_neg (by decide),w2]
         simp only [Option.bind_some]
         cases again with
         | false =>
          obtain ⟨r,i1,i2⟩:=idx (lg G k2)
          obtain ⟨q,t1,t2⟩:=tail (lg G k2) r i2
          refine ⟨q,?_,?_⟩
          ·rw [if_neg (by decide),i1]; exact t1
          ·rw [if_neg (by decide)]
           simp only [Option.bind_some]
           rw [if_neg (by decide),if_neg (by decide),e2]
           exact t2
         | true =>
          by_cases m1:((Vr).length:Int) ≠ 1
          ·exact ⟨_,Z5 (v:=(47,lg G k2,[],false)) (ZM rfl (ZM m1 rfl)) (ZM (show (47:Int) ≠ -1 by decide) rfl),Z5 (v:=true) (ZM rfl (ZM m1 rfl)) (ZM rfl (lJ 47))⟩
          ·by_cases m2:(lg Vr 0).1 ≠ group
           ·exact ⟨_,Z5 (v:=(47,lg G k2,[],false)) (ZM rfl (Zi m1 (ZM (by omega) (ZM m2 rfl)))) (ZM (show (47:Int) ≠ -1 by decide) rfl),Z5 (v:=true) (ZM rfl (Zi m1 (ZM (by omega) (Ze fun z hz=>by rw [hz,decide_eq_true m2])))) (ZM rfl (lJ 47))⟩
           ·obtain ⟨r,i1,i2⟩:=idx group
            obtain ⟨q,t1,t2⟩:=tail group r i2
            exact ⟨q,(congrArg (fun o=>Option.bind o _) (ZM rfl (Zi m1 (ZM (by omega) (Zi m2 (Z5 i1 rfl)))))).trans t1,Z5 (v:=false) (ZM rfl (Zi m1 (ZM (by omega) (Ze fun z hz=>by rw [hz,decide_eq_false m2])))) (Zi (by decide) (Z5 (v:=group) (ZM rfl rfl) t2))⟩
       ·have e2:x2 = -1:=Option.some.inj (f2.symm.trans g4)
        exact ⟨_,Z5 (v:=(40,0,[],false)) (by unfold X3; exact Z5 g3 (ZM rfl rfl)) (ZM (show (40:Int) ≠ -1 by decide) rfl),Ze fun z hz=>ZM (by rw [hz,e2]; rfl) (lJ 40)⟩
     ·have e1:x1 = -1:=Option.some.inj (f1.symm.trans g2)
      exact ⟨_,Z5 (v:=(40,0)) (by unfold VF; exact Z5 g1 (Z5 (Uz 772 hV) (by rw [decide_eq_true v1]; exact Zi (by decide) (ZM rfl rfl)))) (ZM (fun h=>by cases h) rfl),Z5 rfl (Zi (by decide) (Ze fun z hz=>ZM (by rw [hz,e1]; rfl) (lJ 40)))⟩
    ·rw [decide_eq_false v1]
     rcases Me hS hSu with ⟨k,_,_,g1,_⟩ | ⟨g1,_⟩
     ·exact ⟨_,Z5 (v:=(70,lg S k)) (by unfold VF; exact Z5 g1 (Z5 (Uz 772 hV) (by rw [decide_eq_false v1]; exact ZM rfl rfl))) (ZM (fun h=>by cases h) rfl),Z5 rfl (ZM rfl (lJ 70))⟩
     ·exact ⟨_,Z5 (v:=(70,0)) (by unfold VF; exact Z5 g1 (Z5 (Uz 772 hV) (by rw [decide_eq_false v1]; exact ZM rfl rfl))) (ZM (fun h=>by cases h) rfl),Z5 rfl (ZM rfl (lJ 70))⟩
   ·exact ⟨_,Z5 rfl (Z5 (v:=true) (Zi (by decide) (Zi (by decide) (by rw [decide_eq_true k1]))) (ZM rfl rfl)),Z5 f1 (Z5 f2 (Z5 rfl (Z5 (v:=true) (Zi (by decide) (Zi (by decide) (Ze fun z hz=>by rw [hz,decide_eq_true k1]))) (ZM rfl (lJ 40)))))⟩
end
end Go.Proofs
end

section
namespace Go.Proofs
open Go Go.Kx
theorem zo (l:List Int) (h:l.length≤17592186044416):Vg l=some l:=by
 unfold Vg
 simp only [List.length_nil,Nat.zero_add,List.nil_append,if_true,if_pos h,X5]
theorem aL {c g a:Int} (h:0≤c - g) (h2:c - g≤4294967295) (a0:0≤a) (a1:a≤4294967295) :
  HZ (· &&& ·) (ZJ ((ZJ (1000 * (ZJ (c - g))))+a)) 4294967295=(ZJ ((ZJ (1000 * (ZJ (c - g))))+a)).tmod 4294967296:=by
 rw [Yr (x:=c - g) (by omega) (by omega),Yr (x:=1000 * (c - g)) (by omega) (by omega),Yr (by omega) (by omega)]
 rw [show HZ (· &&& ·) (1000 * (c - g)+a) 4294967295=(1000 * (c - g)+a) % 4294967296 from yQ _ 32 (by decide)]
 rw [Int.tmod_eq_emod_of_nonneg (by omega)]
section
variable {s:Bool} {S G:List Int} {ch:List Str} {key:Str} {ro:List Str} {nm:Str} {tk:Int} {sl:Str} {U4:List (Str × Str × Int × Int × Int × Int)} {tape:Str} {clock pad limit ring:Int} {mK:Int} {mR mS:Str} {LP:List Int} {mN:Str} {mV mG Mk mM:List Int} {Vr:List (Int × Str)} {mI:List (Str × Int)} {mB:List Str} {mP:Int} {mO:List Int} {mC:List Str} {Pn:Int} {mD:Str} {mL mA:Int} {IB:Str} {mU:Int} {again:Bool} {group:Int}
theorem vQ (hS:S.length≤17592186044416) (hG:G.length≤17592186044416) (hc:ch.length<1152921504606846976) (hr:ro.length<1152921504606846976) (hp:U4.length<1152921504606846976) (bv dx sh:Str) :
  ∃ k r1 r2 r3 e l1 l2 l3 l4 l5 l6 l7 l8 l9 pG,P5 s S G ch key ro nm tk sl U4 tape clock pad limit ring bv dx sh=some (k,r1,r2,r3,e,l1,l2,l3,l4,l5,l6,l7,l8,l9,pG)∧Sd s S G ch key ro nm tk sl U4 tape clock pad limit ring bv dx sh=some (k,r1,r2,r3,e,l1,l2,l3,l4,l5,l6,l7,l8,l9,pG) ∧
   l1.length<1152921504606846976∧l2.length<1152921504606846976∧l3.length<1152921504606846976∧l4.length<1152921504606846976∧l5.length<1152921504606846976∧l6.length<1152921504606846976∧l7.length<1152921504606846976∧l8.length<1152921504606846976∧l9.length<1152921504606846976∧pG.length<1152921504606846976∧(∀ j,j<l8.length → (lg l8 j).length≤1000000)∧pG=[]:=by
 obtain ⟨b,hb,gV,hb3⟩:=wI (s:=s) (S:=S) (G:=G) (ch:=ch) (key:=key) (ro:=ro) (nm:=nm) (tk:=tk) (sl:=sl) (U4:=U4) (tape:=tape) (clock:=clock) (pad:=pad) (limit:=limit) (ring:=ring) (show S.length<1152921504606846976 by omega) (show G.length<1152921504606846976 by omega) hc hr hp
 unfold P5 Sd
 rw [hb,gV]
 simp only [Option.bind_some]
 have hj : ∃ j:Bool,(if (!b)=true then (some true) else (if s=true then (some true) else (if ((bv).length:Int) ≠ 32 then (some true) else (if ((dx).length:Int) ≠ 32 then (some true) else (some (decide (sh=([]:Str))))))))=some j∧(j=false → b=true∧s=false):=by
  cases b with
  | false=>exact ⟨true,rfl,fun h=>nomatch h⟩
  | true =>
   cases s with
   | true=>exact ⟨true,rfl,fun h=>nomatch h⟩
   | false =>
    by_cases c1:((bv).length:Int) ≠ 32
    ·exact ⟨true,Zi (by decide) (Zi (by decide) (ZM c1 rfl)),fun _=>⟨rfl,rfl⟩⟩
    ·by_cases c2:((dx).length:Int) ≠ 32
     ·exact ⟨true,Zi (by decide) (Zi (by decide) (Zi c1 (ZM c2 rfl))),fun _=>⟨rfl,rfl⟩⟩
     ·exact ⟨_,Zi (by decide) (Zi (by decide) (Zi c1 (Zi c2 rfl))),fun _=>⟨rfl,rfl⟩⟩
 obtain ⟨j,j1,j2⟩:=hj
 rw [j1]
 simp only [Option.bind_some]
 cases j with
 | true=>exact ⟨_,_,_,_,_,_,_,_,_,_,_,_,_,_,_,rfl,rfl,by simp,by simp,by simp,by simp,by simp,by simp,by simp,by simp,by simp,by simp,by simp,rfl⟩
 | false =>
  obtain ⟨rfl,rfl⟩:=j2 rfl
  obtain ⟨hk,hG1, -, -,⟨aev, -⟩,hC⟩:=hb3 rfl
  obtain ⟨-, -, -, -,hp1, -, -,hP⟩:=hC rfl
  rw [if_neg (by decide),if_neg (by decide),zo S hS,zo G hG]
  simp only [Option.bind_some]
  rw [if_pos (by omega),if_pos hS,if_pos hG,if_pos (by omega)]
  by_cases p0:U4.length=0
  ·have q1:Um false S G ch key ro nm tk sl U4 tape clock pad limit ring=some ([],[],0,0,0,0,false):=by unfold Um; exact ZM (by omega) rfl
   have q2:Wu false S G ch key ro nm tk sl U4 tape clock pad limit ring=some false:=by unfold Wu; exact Zi (by omega) rfl
   rw [q1,q2]
   exact ⟨_,_,_,_,_,_,_,_,_,_,_,_,_,_,_,rfl,rfl,by omega,by simp,by omega,by simp,by simp,by simp,by simp,by simp,by simp,by simp,by simp,rfl⟩
  ·have p1:U4.length=1:=by omega
   obtain ⟨o1,o2,o3,o4,o5,o6⟩:=hP 0 (by omega)
   have aet:=nE (lg U4 0).2.2.1
   by_cases g1:(lg U4 0).2.2.2.2.1≤clock
   ·have ed:ZJ (clock - (lg U4 0).2.2.2.2.1)=clock - (lg U4 0).2.2.2.2.1:=Yr (by omega) (by omega)
    by_cases g2:(lg U4 0).2.2.2.2.2<ZJ (clock - (lg U4 0).2.2.2.2.1)
    ·have q1:Um false S G ch key ro nm tk sl U4 tape clock pad limit ring=some ([],[],0,0,0,0,false):=by unfold Um; exact Zi (by omega) (ZM (by omega) (Zi (by omega) (ZM (by omega) (ZM (by omega) (ZM g2 rfl)))))
     have q2:Wu false S G ch key ro nm tk sl U4 tape clock pad limit ring=some false:=by unfold Wu; exact ZM (by omega) (ZM (by omega) (ZM g1 (ZM (by omega) (ZM (by omega) (Ze fun z hz=>by rw [hz,decide_eq_false (by omega)])))))
     rw [q1,q2]
     exact ⟨_,_,_,_,_,_,_,_,_,_,_,_,_,_,_,rfl,rfl,by omega,by simp,by omega,by simp,by simp,by simp,by simp,by simp,by simp,by simp,by simp,rfl⟩
    ·have q1:Um false S G ch key ro nm tk sl U4 tape clock pad limit ring=some ((lg U4 0).1,(lg U4 0).2.1,(lg U4 0).2.2.1,(lg U4 0).2.2.2.1,(lg U4 0).2.2.2.2.1,(lg U4 0).2.2.2.2.2,true):=by unfold Um; exact Zi (by omega) (ZM (by omega) (Zi (by omega) (ZM (by omega) (ZM (by omega) (Zi g2 (ZM (by omega) rfl))))))
     have q2:Wu false S G ch key ro nm tk sl U4 tape clock pad limit ring=some true:=by unfold Wu; exact ZM (by omega) (ZM (by omega) (ZM g1 (ZM (by omega) (ZM (by omega) (Ze fun z hz=>by rw [hz,decide_eq_true (by omega)])))))
     have eb:=(FI (hk _ o1)).2
     have ea:=aL (c:=clock) (g:=(lg U4 0).2.2.2.2.1) (a:=(lg U4 0).2.2.2.1) (by omega) (by omega) o4.1 o4.2
     rw [q1,q2]
     simp only [Option.bind_some]
     refine ⟨_,_,_,_,_,_,_,_,_,_,_,_,_,_,_,ZM trivial (Ze fun x hx=>by rw [hx]; exact ZM (by omega) (ZM (by simp) rfl)),ZM trivial (ZM (by omega) (Z5 (Ar _) ?_)),by omega,by simp,by omega,by simp,by simp,by simp,by simp,by simp,by simp,by simp,?_,rfl⟩
     rotate_left
     ·intro j hj
      have:j=0:=by simp at hj; omega
      subst this
      show (List.replicate (((lg U4 0).2.1).length:Int).toNat 0#8).length≤1000000
      rw [List.length_replicate]; omega
     rw [if_pos (hk _ o1)]
     dsimp only
     rw [eb, ← o2]
     refine ZM (by omega) (ZM (by simp) ?_)
     rw [ea]
   ·have q1:Um false S G ch key ro nm tk sl U4 tape clock pad limit ring=some ([],[],0,0,0,0,false):=by unfold Um; exact Zi (by omega) (ZM (by omega) (ZM (by omega) rfl))
    have q2:Wu false S G ch key ro nm tk sl U4 tape clock pad limit ring=some false:=by unfold Wu; exact ZM (by omega) (ZM (by omega) (Zi g1 rfl))
    rw [q1,q2]
    exact ⟨_,_,_,_,_,_,_,_,_,_,_,_,_,_,_,rfl,rfl,by omega,by simp,by omega,by simp,by simp,by simp,by simp,by simp,by simp,by simp,by simp,rfl⟩
end
end Go.Proofs
end

section
namespace Go.Proofs
open Go Go.Kx
open TryzI Tryz
def QC (e:Int):Option (Int) :=
 some e
theorem KL {e:Int} {r:Int} (H:QC e=some r) :
  Does Tryz.prog 19 [vi e] [] [] (Γ:=Unit) (fun g=>vi r) (fun g=>[]):=by
 intro w hmem hro hd
 refine Zn func19 rfl ntmps19 rfl hmem hro hd ?_
 unfold QC at H
 refine Z_ (Y2 ?_)
 refine Z6 (Z_ (Zj 2 rfl ?_))
 refine Zq ?_
 obtain rfl:=sj H
 exact Wj
def QN:Option (Bool) :=
 if (List.replicate 32 0#8).length=32 then (X5 (List.replicate 32 0#8) fun z1=>((P5 false ([4865]:List (Int)) ([29]:List (Int)) ([]:List (Str)) ([]:Str) ([]:List (Str)) ([]:Str) 0 ([]:Str) ([]:List (Str × Str × Int × Int × Int × Int)) ([]:Str) 0 0 4 33290 z1 z1 ([107#8]:Str)).bind fun Zu=>((P5 false ([]:List (Int)) ([]:List (Int)) ([]:List (Str)) ([]:Str) ([]:List (Str)) ([]:Str) 0 ([]:Str) ([]:List (Str × Str × Int × Int × Int × Int)) ([]:Str) 0 0 0 0 z1 z1 ([107#8]:Str)).bind fun YJ=>((PD false ([4865]:List (Int)) ([29]:List (Int)) ([]:List (Str)) ([]:Str) ([]:List (Str)) ([]:Str) 0 ([]:Str) ([]:List (Str × Str × Int × Int × Int × Int)) ([]:Str) 0 0 4 33290 Zu.1 Zu.2.1 Zu.2.2.1 Zu.2.2.2.2.2.1 Zu.2.2.2.1 Zu.2.2.2.2.2.2.1 Zu.2.2.2.2.2.2.2.1 Zu.2.2.2.2.2.2.2.2.1 Zu.2.2.2.2.2.2.2.2.2.1 Zu.2.2.2.2.2.2.2.2.2.2.1 Zu.2.2.2.2.2.2.2.2.2.2.2.1 Zu.2.2.2.2.2.2.2.2.2.2.2.2.1 0 Zu.2.2.2.2.2.2.2.2.2.2.2.2.2.1 Zu.2.2.2.2.2.2.2.2.2.2.2.2.2.2 0 ([]:Str) 0 0 ([]:Str) 0 false 0).bind fun X7=>((PQ false ([4865]:List (Int)) ([29]:List (Int)) ([]:List (Str)) ([]:Str) ([]:List (Str)) ([]:Str) 0 ([]:Str) ([]:List (Str × Str × Int × Int × Int × Int)) ([]:Str) 0 0 4 33290).bind fun Xu=>(if Xu=true then ((PQ false ([]:List (Int)) ([]:List (Int)) ([]:List (Str)) ([]:Str) ([]:List (Str)) ([]:Str) 0 ([]:Str) ([]:List (Str × Str × Int × Int × Int × Int)) ([]:Str) 0 0 0 0).bind fun UC=>(if (!UC)=true then ((QC Zu.2.2.2.2.1).bind fun MV=>(if MV=0 then (if Zu.1=1 then (if ((Zu.2.2.2.2.2.2.2.2.2.2.1).length:Int)=1 then ((QC YJ.2.2.2.2.1).bind fun JM=>(if JM=2400 then (X5 (Lf.all [Lf.i X7.1,Lf.i X7.2.1,Lf.s X7.2.2.1,Lf.b X7.2.2.2.1,Lf.b X7.2.2.2.2.1,Lf.i X7.2.2.2.2.2] [Lf.i 0,Lf.i 0,Lf.s ([]:Str),Lf.b false,Lf.b false,Lf.i 40]) fun x1=>(some x1)) else (some false))) else (some false)) else (some false)) else (some false))) else (some false))) else (some false))))))) else none
theorem o7 {r:Bool} (H:QN=some r) :
  Does Tryz.prog 22 [] [] [⟨some (0,0),[vo]⟩] (Γ:=Unit) (fun g=>vb r) (fun g=>[]):=by
 intro w hmem hro hd
 refine Zn func22 rfl ntmps22 rfl hmem hro hd ?_
 unfold QN at H
 refine Z_ (Y2 ?_)
 refine Z6 (Z_ (YE (Ya (pv:=[(0,vi 4865)]) rfl rfl underlying22 YM (s:=1) rfl LG rfl rfl rfl (cs:=eI ([4865]:List (Int))) (by kernel_rfl)) (fun b1=>?_)))
 refine YE (Ya (pv:=[(0,vi 29)]) rfl rfl underlying22 YM (s:=1) rfl LG rfl rfl rfl (cs:=eI ([29]:List (Int))) (by kernel_rfl)) (fun b2=>?_)
 refine ZV (Y9 (pv:=[(1,sl (some (b1,0)) 1 1),(2,sl (some (b2,0)) 1 1),(13,vi 4),(14,vi 33290)]) (pl:=[(0,1),(1,1),(2,1),(3,1),(4,1),(5,1),(6,1),(7,1),(8,1),(9,1),(10,1),(11,1),(12,1),(13,1),(14,1)]) rfl rfl underlying26 We De LM (cs:=flat [(1,[vb false]),(1,[sl (some (b1,0)) 1 1]),(1,[sl (some (b2,0)) 1 1]),(1,[sl none 0 0]),(1,[vs ([]:Str)]),(1,[sl none 0 0]),(1,[vs ([]:Str)]),(1,[vi 0]),(1,[vs ([]:Str)]),(1,[sl none 0 0]),(1,[vs ([]:Str)]),(1,[vi 0]),(1,[vi 0]),(1,[vi 4]),(1,[vi 33290])]) (by kernel_rfl)) ?_
 refine YE (SL We LM) (fun b3=>?_)
 refine Mo [zP,zS,zS,zI,zI] rfl ?_
 refine VM (VZ (rp 15 5) rfl rfl We) (fun _=>?_)
 refine Mo [zP,zS,zS] rfl ?_
 refine Ta 24 (congrArg (eI) (List.append_nil _).symm) ?_
 refine Ta (cs':=[sl (some (b1,0)) ((([4865]:List (Int))).length) ((([4865]:List (Int))++nI).length)]) 4 (congrArg (fun z=>[z]) (Us rfl)) ?_
 refine Ta 23 (congrArg (eI) (List.append_nil _).symm) ?_
 refine Ta (cs':=[sl (some (b2,0)) ((([29]:List (Int))).length) ((([29]:List (Int))++nI).length)]) 5 (congrArg (fun z=>[z]) (Us rfl)) ?_
 refine Z6 (Wz [1] [3,3,22,3,20,3,2,2,2,1,1,1,1,1,0,0,0,0,0,0] rfl rfl ?_)
 refine Z_ (YE (OA rfl rfl underlying86 Yn (z:=v8 0#8) rfl rfl rfl (B:=1) rfl (by decide) (Int.le_refl _) (by decide) (by decide) (n':=32) (c':=32) rfl rfl (cs:=e8 (List.replicate 32 0#8)) (Ti (f:=v8))) (fun b4=>?_))
 have ⟨h1,H⟩:=Z4 H
 refine ZV (QY rfl underlying86 underlying5 underlying9 (.o 0) h1) ?_
 refine Y2 ?_
 have ⟨z1,A9,H⟩:=ZX H
 refine WN 2 (congrArg vs A9) ?_
 refine Z6 (Z_ (ZV (VY [1,2,4,6,8,9,11,12,13,14,16,17,18,19,20] rfl rfl isAgg26 We) ?_))
 refine Zj 2 rfl ?_
 have ⟨Zu,Yk,H⟩:=Z9 H
 refine YE (Wq (is:=[]) rfl call14 (FY (Zy _ _) (Zy _ _) (Zy nS nS) (Zy nS nS) (Zy nP nP) Yk :) rfl ⟨(Zt (.o 3)),(Zt (.o 5)),(Zt (.o 7)),(Zt (.o 10)),(Xt (s:=6) (fun _=>rfl) (.o 15)),trivial⟩) (fun Re=>?_)
 refine Zj 3 rfl ?_
 refine YE (SL Xg Pw) (fun b5=>?_)
 refine Mo [zS,zI,zS,zA,zB,zI,zI,zI,zI,zI] rfl ?_
 refine VM (VZ (rp 21 10) rfl rfl Xg) (fun _=>?_)
 refine Y2 ?_
 refine Z6 (Wz [1,2,3,4] (rp 20 42++rp 4 0++27 :: 0 :: 0 :: 25 :: 0 :: 24 :: 0 :: 23 :: 0 :: 22 :: 0 :: 21 :: 0 :: 20 :: 0 :: 19 :: 0 :: 0 :: 17 :: 0 :: 16 :: rp 6 0) rfl rfl ?_)
 refine Z_ (ZV (Y9 (pv:=[]) (pl:=[(0,1),(1,1),(2,1),(3,1),(4,1),(5,1),(6,1),(7,1),(8,1),(9,1),(10,1),(11,1),(12,1),(13,1),(14,1)]) rfl rfl underlying26 We De LM (cs:=flat [(1,[vb false]),(1,[sl none 0 0]),(1,[sl none 0 0]),(1,[sl none 0 0]),(1,[vs ([]:Str)]),(1,[sl none 0 0]),(1,[vs ([]:Str)]),(1,[vi 0]),(1,[vs ([]:Str)]),(1,[sl none 0 0]),(1,[vs ([]:Str)]),(1,[vi 0]),(1,[vi 0]),(1,[vi 0]),(1,[vi 0])]) (by kernel_rfl)) ?_)
 refine Zj 2 rfl ?_
 refine KC (KC (KC ?_))
 have ⟨YJ,X6,H⟩:=Z9 H
 refine YE (Wq (is:=[]) rfl call14 (FY (by first | exact Nat.le_refl _ | simp) (by first | exact Nat.le_refl _ | simp) (by first | exact Nat.le_refl _ | simp) (by first | exact Nat.le_refl _ | simp) (by first | exact Nat.le_refl _ | simp) X6 :) rfl ⟨(Ip rfl),(Ip rfl),(Ip rfl),(Ip rfl),(Ip rfl),trivial⟩) (fun UD=>?_)
 refine Zj 3 rfl ?_
 refine YE (SL Xg Pw) (fun b6=>?_)
 refine Mo [zS,zI,zS,zA,zB,zI,zI,zI,zI,zI] rfl ?_
 refine VM (VZ (rp 21 10) rfl rfl Xg) (fun _=>?_)
 refine Y2 ?_
 refine Z6 (Wz [1,3,4,6] (rp 51 44) rfl rfl ?_)
 refine Z_ (ZV (VY [0,1,3,5,7,8,10,11,12,13,15,16,17,18,19] rfl rfl isAgg26 We) ?_)
 refine ZV (VY [20,21,22,23,25,26,28,30,32,34,36,38,40,41,43,45,46,47,48,49,50] rfl rfl isAgg30 Xg) ?_
 have ⟨X7,Vt,H⟩:=Z9 H
 refine YE (Y4 (Cc (Zy _ _) (Zy _ _) (Zy nS nS) (Zy nS nS) (Zy nP nP) (Zy _ _) (Zy _ _) (Zy _ _) (Zy _ _) (Zy _ _) (Zy _ _) (Zy _ _) (Zy _ _) (Zy _ _) (Zy _ _) Vt :) call12 ⟨(Zt (.o 2)),(Zt (.o 4)),(Zt (.o 6)),(Zt (.o 9)),(Xt (s:=6) (fun _=>rfl) (.o 14)),(Zt (.o 24)),(Zt (.o 27)),(Zt (.o 29)),(Zt (.o 31)),(Zt (.o 33)),(Xt (s:=2) (fun _=>rfl) (.o 35)),(Xt (s:=2) (fun _=>rfl) (.o 37)),(Zt (.o 39)),(Zt (.o 42)),(Zt (.o 44)), .r 0,trivial⟩) (fun Pm=>?_)
 refine YE (SL XE LZ) (fun b7=>?_)
 refine VM (VZ [0,0,0,0,0,0] rfl rfl XE) (fun _=>?_)
 refine Z6 (Wz [1,3,4,6,7] (rp 51 6++rp 6 0) rfl rfl ?_)
 refine Z_ (ZV (VY [0,1,3,5,7,8,10,11,12,13,15,16,17,18,19] rfl rfl isAgg26 We) ?_)
 have ⟨Xu,UH,H⟩:=Z9 H
 refine YE (Y4 (Qv (Zy _ _) (Zy _ _) (Zy nS nS) (Zy nS nS) (Zy nP nP) UH :) call16 ⟨(Zt (.o 2)),(Zt (.o 4)),(Zt (.o 6)),(Zt (.o 9)),(Xt (s:=6) (fun _=>rfl) (.o 14)),trivial⟩) (fun JV=>?_)
 refine YP ?_
 refine Mg (d:=32) H (fun hc H=>?_) (fun hc H=>?_)
 ·refine Zc (Y9 (pv:=[]) (pl:=[(0,1),(1,1),(2,1),(3,1),(4,1),(5,1),(6,1),(7,1),(8,1),(9,1),(10,1),(11,1),(12,1),(13,1),(14,1)]) rfl rfl underlying26 We De LM (cs:=flat [(1,[vb false]),(1,[sl none 0 0]),(1,[sl none 0 0]),(1,[sl none 0 0]),(1,[vs ([]:Str)]),(1,[sl none 0 0]),(1,[vs ([]:Str)]),(1,[vi 0]),(1,[vs ([]:Str)]),(1,[sl none 0 0]),(1,[vs ([]:Str)]),(1,[vi 0]),(1,[vi 0]),(1,[vi 0]),(1,[vi 0])]) (by kernel_rfl)) ?_
  refine KC (KC (KC ?_))
  have ⟨UC,Qi,H⟩:=Z9 H
  refine JQ (Y4 (Qv (by first | exact Nat.le_refl _ | simp) (by first | exact Nat.le_refl _ | simp) (by first | exact Nat.le_refl _ | simp) (by first | exact Nat.le_refl _ | simp) (by first | exact Nat.le_refl _ | simp) Qi :) call16 ⟨(Ip rfl),(Ip rfl),(Ip rfl),(Ip rfl),(Ip rfl),trivial⟩) (fun zM=>?_)
  refine Zc (UF T_) ?_
  refine Zj 2 rfl ?_
  refine Mg (d:=37) H (fun hc H=>?_) (fun hc H=>?_)
  ·refine Zc (ZO rfl) ?_
   have ⟨MV,KG,H⟩:=Z9 H
   refine JQ (Y4 (KL KG :) call19 .z) (fun jV=>?_)
   refine Zc (ZT Xr) ?_
   refine Zj 2 rfl ?_
   refine Td (d:=42) H (fun hc H=>?_) (fun hc H=>?_)
   ·refine Zc (ZQ 0 underlying30 YM) ?_
    refine Zc (Z8 rfl (.o 23) rfl isAgg3) ?_
    refine Zc (ZT Xr) ?_
    refine Zj 2 rfl ?_
    refine Td (d:=47) H (fun hc H=>?_) (fun hc H=>?_)
    ·refine Zc (ZQ 9 underlying30 QR) ?_
     refine Zc (Z8 rfl (.o 37) rfl isAgg27) ?_
     refine Zc (ZG rfl underlying27) ?_
     refine Zc (ZT Xr) ?_
     refine Zj 2 rfl ?_
     refine Td (d:=53) H (fun hc H=>?_) (fun hc H=>?_)
     ·refine Zc (ZO rfl) ?_
      have ⟨JM,L_,H⟩:=Z9 H
      refine JQ (Y4 (KL L_ :) call19 .z) (fun rE=>?_)
      refine Zc (ZT Xr) ?_
      refine Zj 2 rfl ?_
      refine Td (d:=58) H (fun hc H=>?_) (fun hc H=>?_)
      ·refine Zc (VY [54,55,56,57,58,59] rfl rfl isAgg34 XE) ?_
       refine Zc (Y9 (pv:=[(5,vi 40)]) (pl:=[(0,1),(1,1),(2,1),(3,1),(4,1),(5,1)]) rfl rfl underlying34 XE Mr LZ (cs:=flat [(1,[vi 0]),(1,[vi 0]),(1,[vs ([]:Str)]),(1,[vb false]),(1,[vb false]),(1,[vi 40])]) (by kernel_rfl)) ?_
       refine Zc (Zg rfl rfl (fun w=>aao w underlying34 (by kernel_rfl) (by kernel_rfl) [Lf.i X7.1,Lf.i X7.2.1,Lf.s X7.2.2.1,Lf.b X7.2.2.2.1,Lf.b X7.2.2.2.2.1,Lf.i X7.2.2.2.2.2] [Lf.i 0,Lf.i 0,Lf.s ([]:Str),Lf.b false,Lf.b false,Lf.i 40] (by kernel_rfl) (by kernel_rfl) (by kernel_rfl) (by kernel_rfl))) ?_
       refine Zj 2 rfl ?_
       have ⟨x1,TK,H⟩:=ZX H
       refine WN 0 (congrArg vb TK) ?_
       refine Z6 (Wz [0] [] rfl rfl ?_)
       refine Y7 ?_
       obtain rfl:=sj H
       exact Wj
      refine Zj 5 rfl ?_
      refine Z6 (Wz [0] [] rfl rfl ?_)
      refine Y7 ?_
      obtain rfl:=sj H
      exact Wj
     refine Zj 10 rfl ?_
     refine Z6 (Wz [0] [] rfl rfl ?_)
     refine Y7 ?_
     obtain rfl:=sj H
     exact Wj
    refine Zj 16 rfl ?_
    refine Z6 (Wz [0] [] rfl rfl ?_)
    refine Y7 ?_
    obtain rfl:=sj H
    exact Wj
   refine Zj 21 rfl ?_
   refine Z6 (Wz [0] [] rfl rfl ?_)
   refine Y7 ?_
   obtain rfl:=sj H
   exact Wj
  refine Zj 26 rfl ?_
  refine Z6 (Wz [0] [] rfl rfl ?_)
  refine Y7 ?_
  obtain rfl:=sj H
  exact Wj
 refine Zj 31 rfl ?_
 refine Z6 (Wz [0] [] rfl rfl ?_)
 refine Y7 ?_
 obtain rfl:=sj H
 exact Wj
set_option maxRecDepth 100000 in
theorem jy:QN=some true:=by kernel_rfl
end Go.Proofs
end

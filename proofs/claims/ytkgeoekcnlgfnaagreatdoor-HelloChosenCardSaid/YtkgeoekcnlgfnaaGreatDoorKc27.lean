/-
  Part 27 of the proof of what several laws share.
-/
import Derived.Test.YtkgeoekcnlgfnaaGreatDoorKc1
import Derived.Test.YtkgeoekcnlgfnaaGreatDoorKc2
import Derived.Test.YtkgeoekcnlgfnaaGreatDoorKc3
import Derived.Test.YtkgeoekcnlgfnaaGreatDoorKc4
import Derived.Test.YtkgeoekcnlgfnaaGreatDoorKc5
import Derived.Test.YtkgeoekcnlgfnaaGreatDoorKc6
import Derived.Test.YtkgeoekcnlgfnaaGreatDoorKc7
import Derived.Test.YtkgeoekcnlgfnaaGreatDoorKc8
import Derived.Test.YtkgeoekcnlgfnaaGreatDoorKc9
import Derived.Test.YtkgeoekcnlgfnaaGreatDoorKc10
import Derived.Test.YtkgeoekcnlgfnaaGreatDoorKc11
import Derived.Test.YtkgeoekcnlgfnaaGreatDoorKc12
import Derived.Test.YtkgeoekcnlgfnaaGreatDoorKc13
import Derived.Test.YtkgeoekcnlgfnaaGreatDoorKc14
import Derived.Test.YtkgeoekcnlgfnaaGreatDoorKc15
import Derived.Test.YtkgeoekcnlgfnaaGreatDoorKc16
import Derived.Test.YtkgeoekcnlgfnaaGreatDoorKc17
import Derived.Test.YtkgeoekcnlgfnaaGreatDoorKc18
import Derived.Test.YtkgeoekcnlgfnaaGreatDoorKc19
import Derived.Test.YtkgeoekcnlgfnaaGreatDoorKc20
import Derived.Test.YtkgeoekcnlgfnaaGreatDoorKc21
import Derived.Test.YtkgeoekcnlgfnaaGreatDoorKc22
import Derived.Test.YtkgeoekcnlgfnaaGreatDoorKc23
import Derived.Test.YtkgeoekcnlgfnaaGreatDoorKc24
import Derived.Test.YtkgeoekcnlgfnaaGreatDoorKc25
import Derived.Test.YtkgeoekcnlgfnaaGreatDoorKc26
set_option linter.unusedVariables false
set_option linter.unusedSimpArgs false
section
namespace Go.Proofs
open Go Go.Kx
section
variable {s:Bool} {S G:List Int} {ch:List Str} {key:Str} {ro:List Str} {nm:Str} {tk:Int} {sl:Str} {psk:List (Str × Str × Int × Int × Int × Int)} {tape:Str} {clock pad limit ring:Int} {mK:Int} {mR mS:Str} {mSu:List Int} {mN:Str} {mV mG mSc mM:List Int} {mSh:List (Int × Str)} {mI:List (Str × Int)} {mB:List Str} {mP:Int} {mO:List Int} {mC:List Str} {mSch:Int} {mD:Str} {mL mA:Int} {mNo:Str} {mU:Int} {again:Bool} {group:Int}
theorem offers_out (hS:S.length<1152921504606846976) (hSu:mSu.length<1152921504606846976) (hV:mV.length<1152921504606846976) {oA:Int} :
  ∃ a x,hello_asking_offers s S G ch key ro nm tk sl psk tape clock pad limit ring mK mR mS mSu mN mV mG mSc mM mSh mI mB mP mO mC mSch mD mL mA mNo mU again group 0 0 ([]:Str) false false 0=some (a,x)∧(a=70 ∨ a=40 ∨ a=109 ∨ (a = -1∧772 ∈ mV ∧ ∃ k,k<S.length∧lg S k=x∧x ∈ mSu ∧ ∀ j,j<k → lg S j ∉ mSu)):=by
 unfold hello_asking_offers
 rw [contains_eq 772 hV]
 rcases hfirst_eq hS hSu with ⟨k,h1,h2,h3,h4⟩ | ⟨h1,h4⟩
 ·rw [h4]
  by_cases c:(772:Int) ∈ mV
  ·rw [decide_eq_true c]
   by_cases d:(mG.length:Int)=0
   ·exact ⟨109,_,bind_i rfl (bind_i rfl (if_n (by decide) (if_n (by simp) (bind_i (v:=true) (if_i d rfl) (if_i rfl rfl))))), .inr (.inr (.inl rfl))⟩
   ·by_cases e:(mSh.length:Int)=0
    ·exact ⟨109,_,bind_i rfl (bind_i rfl (if_n (by decide) (if_n (by simp) (bind_i (v:=true) (if_n d (ltt_i fun x hx=>by rw [hx,decide_eq_true e])) (if_i rfl rfl))))), .inr (.inr (.inl rfl))⟩
    ·exact ⟨-1,_,bind_i rfl (bind_i rfl (if_n (by decide) (if_n (by simp) (bind_i (v:=false) (if_n d (ltt_i fun x hx=>by rw [hx,decide_eq_false e])) (if_n (by decide) rfl))))), .inr (.inr (.inr ⟨rfl,c,k,h1,rfl,h2,h3⟩))⟩
  ·rw [decide_eq_false c]
   exact ⟨70,_,bind_i rfl (bind_i rfl (if_i rfl rfl)), .inl rfl⟩
 ·rw [h4]
  cases decide ((772:Int) ∈ mV) with
  | false=>exact ⟨70,_,bind_i rfl (bind_i rfl (if_i rfl rfl)), .inl rfl⟩
  | true=>exact ⟨40,_,bind_i rfl (bind_i rfl (if_n (by decide) (if_i rfl rfl))), .inr (.inl rfl)⟩
def ShOk (mG:List Int) (mSh:List (Int × Str)) (g:Int) (sh:Str) (re:Bool):Prop :=
 g ∈ mG∧(∀ j,j<mSh.length → ∀ i,i<j → (lg mSh i).1 ≠ (lg mSh j).1)∧(re=true∧sh=[]∧(∀ j,j<mSh.length → (lg mSh j).1 ≠ g) ∨ re=false ∧ ∃ k,k<mSh.length∧(lg mSh k).1=g∧(lg mSh k).2=sh)
theorem shares_out (hG:G.length<1152921504606846976) (hmG:mG.length<1152921504606846976) (hSh:mSh.length<1152921504606846976) {su:Int} :
  ∃ a g sh re,hello_asking_shares s S G ch key ro nm tk sl psk tape clock pad limit ring mK mR mS mSu mN mV mG mSc mM mSh mI mB mP mO mC mSch mD mL mA mNo mU again group su 0 ([]:Str) false false 0=some (a,g,sh,re)∧(a=40 ∨ a=47 ∨ (a = -1∧ShOk mG mSh g sh re)):=by
 unfold hello_asking_shares
 rcases hfirst_eq hG hmG with ⟨k,h1,h2,h3,h4⟩ | ⟨h1,h4⟩
 ·rcases sharesB (G:=mG) (s:=mSh) (sh:=[]) (re:=false) (r1:=(lg G k,true)) hSh hmG with h5 | ⟨h6,h5⟩
  ·exact ⟨47,_,_,_,bind_i h4 (if_n (by simp) (bind_i h5 rfl)), .inr (.inl rfl)⟩
  ·have uniq : ∀ j,j<mSh.length → ∀ i,i<j → (lg mSh i).1 ≠ (lg mSh j).1:=fun j hj=>(h6 j hj).2
   have tail : ∀ g,g ∈ mG → ∀ r:Int,((∃ k:Nat,k<mSh.length∧(lg mSh k).1=g∧r=(k:Int)) ∨ ((∀ j,j<mSh.length → (lg mSh j).1 ≠ g)∧r = -1)) →
     ∃ a g' sh re,(if (!(decide (r<0)))=true then (if 0≤r∧r<((mSh).length:Int) then (some ((-1:Int),g,(lg mSh ((r).toNat)).2,decide (r<0))) else none) else (some ((-1:Int),g,([]:Str),decide (r<0))))=some (a,g',sh,re)∧(a=40 ∨ a=47 ∨ (a = -1∧ShOk mG mSh g' sh re)):=fun g hg r hr=>by
    rcases hr with ⟨k2,e1,e2,rfl⟩ | ⟨e1,rfl⟩
    ·refine ⟨-1,g,(lg mSh k2).2,false,if_i (by rw [decide_eq_false (by omega)]; rfl) (if_i (by omega) (by rw [Int.toNat_natCast,decide_eq_false (by omega)])), .inr (.inr ⟨rfl,hg,uniq, .inr ⟨rfl,k2,e1,e2,rfl⟩⟩)⟩
    ·exact ⟨-1,g,[],true,rfl, .inr (.inr ⟨rfl,hg,uniq, .inl ⟨rfl,rfl,e1⟩⟩)⟩
   cases again with
   | true =>
    by_cases c:(mSh.length:Int) ≠ 1
    ·exact ⟨47,_,_,_,bind_i h4 (if_n (by simp) (bind_i h5 (if_i rfl (if_i c rfl)))), .inr (.inl rfl)⟩
    ·by_cases c2:(lg mSh 0).1 ≠ group
     ·exact ⟨47,_,_,_,bind_i h4 (if_n (by simp) (bind_i h5 (if_i rfl (if_n c (if_i (by omega) (if_i c2 rfl)))))), .inr (.inl rfl)⟩
     ·have hg:group ∈ mG:=by
       have:=(h6 0 (by omega)).1
       rwa [Classical.not_not.1 c2] at this
      obtain ⟨r,hr,hr2⟩ : ∃ r:Int,slices_IndexFunc___api_Share_api_Share__fn1_66 mSh s S G ch key ro nm tk sl psk tape clock pad limit ring mK mR mS mSu mN mV mG mSc mM mSh mI mB mP mO mC mSch mD mL mA mNo mU true group su group ([]:Str) false false 0=some r∧((∃ k:Nat,k<mSh.length∧(lg mSh k).1=group∧r=(k:Int)) ∨ ((∀ j,j<mSh.length → (lg mSh j).1 ≠ group)∧r = -1)):=by
       rcases idx66 hSh with ⟨k2,e1,e2,e3⟩ | ⟨e1,e3⟩
       ·exact ⟨_,e3, .inl ⟨k2,e1,e2,rfl⟩⟩
       ·exact ⟨_,e3, .inr ⟨e1,rfl⟩⟩
      obtain ⟨a,g',sh,re,t1,t2⟩:=tail group hg r hr2
      exact ⟨a,g',sh,re,bind_i h4 (if_n (by simp) (bind_i h5 (if_i rfl (if_n c (if_i (by omega) (if_n c2 (bind_i hr t1))))))),t2⟩
   | false =>
    obtain ⟨r,hr,hr2⟩ : ∃ r:Int,slices_IndexFunc___api_Share_api_Share__fn1_66 mSh s S G ch key ro nm tk sl psk tape clock pad limit ring mK mR mS mSu mN mV mG mSc mM mSh mI mB mP mO mC mSch mD mL mA mNo mU false group su (lg G k) ([]:Str) false false 0=some r∧((∃ k2:Nat,k2<mSh.length∧(lg mSh k2).1=lg G k∧r=(k2:Int)) ∨ ((∀ j,j<mSh.length → (lg mSh j).1 ≠ lg G k)∧r = -1)):=by
     rcases idx66 hSh with ⟨k2,e1,e2,e3⟩ | ⟨e1,e3⟩
     ·exact ⟨_,e3, .inl ⟨k2,e1,e2,rfl⟩⟩
     ·exact ⟨_,e3, .inr ⟨e1,rfl⟩⟩
    obtain ⟨a,g',sh,re,t1,t2⟩:=tail (lg G k) h2 r hr2
    exact ⟨a,g',sh,re,bind_i h4 (if_n (by simp) (bind_i h5 (if_n (by decide) (bind_i hr t1)))),t2⟩
 ·exact ⟨40,_,_,_,bind_i h4 (if_i rfl rfl), .inl rfl⟩
end
end Go.Proofs
end

section
namespace Go.Proofs
open Go Go.Kx
section
variable {s:Bool} {S G:List Int} {ch:List Str} {key:Str} {ro:List Str} {nm:Str} {tk:Int} {sl:Str} {psk:List (Str × Str × Int × Int × Int × Int)} {tape:Str} {clock pad limit ring:Int} {mK:Int} {mR mS:Str} {mSu:List Int} {mN:Str} {mV mG mSc mM:List Int} {mSh:List (Int × Str)} {mI:List (Str × Int)} {mB:List Str} {mP:Int} {mO:List Int} {mC:List Str} {mSch:Int} {mD:Str} {mL mA:Int} {mNo:Str} {mU:Int} {again:Bool} {group:Int}
theorem chain_out (q:Int × Str × Int × Int × Int) (su clock:Int) : ∃ b,(if q.2.2.2.2=0 then (if q.1=su then (if q.2.2.1≤clock then (ltt (decide ((w64 (clock - q.2.2.1))≤604800)) fun (x1:Bool)=>(some (q.1,q.2.1,q.2.2.1,q.2.2.2.1,x1))) else (some (q.1,q.2.1,q.2.2.1,q.2.2.2.1,false))) else (some (q.1,q.2.1,q.2.2.1,q.2.2.2.1,false))) else (some (q.1,q.2.1,q.2.2.1,q.2.2.2.1,false)))=some (q.1,q.2.1,q.2.2.1,q.2.2.2.1,b)∧(b=true → q.2.2.2.2=0):=by
 by_cases a:q.2.2.2.2=0
 ·by_cases b:q.1=su
  ·by_cases c:q.2.2.1≤clock
   ·exact ⟨_,if_i a (if_i b (if_i c rfl)),fun _=>a⟩
   ·exact ⟨false,if_i a (if_i b (if_n c rfl)),fun h=>nomatch h⟩
  ·exact ⟨false,if_i a (if_n b rfl),fun h=>nomatch h⟩
 ·exact ⟨false,if_n a rfl,fun h=>nomatch h⟩
theorem opened_out (hM:mM.length<1152921504606846976) (su:Int) :
  ∃ a1 a2 a3 a4 b,hello_Opened s S G ch key ro nm tk sl psk tape clock pad limit ring mK mR mS mSu mN mV mG mSc mM mSh mI mB mP mO mC mSch mD mL mA mNo mU su=some (a1,a2,a3,a4,b)∧(b=true → 0<mI.length∧1 ∈ mM∧sl.length=32):=by
 unfold hello_Opened
 by_cases c:(mI.length:Int)=0
 ·exact ⟨_,_,_,_,false,bind_i (v:=true) (if_i c rfl) (if_i rfl rfl),fun h=>nomatch h⟩
 ·by_cases d:(1:Int) ∈ mM
  ·obtain ⟨b,h1,h2⟩:=chain_out (openT sl (lg mI 0).1) su clock
   refine ⟨_,_,_,_,b,bind_i (v:=false) (if_n c (bind_i (contains_eq 1 hM) (by rw [decide_eq_true d]; rfl))) (if_n (by decide) (if_i (by omega) (bind_i (OpenT_eq _ _) h1))),fun h=>⟨by omega,d,?_⟩⟩
   have h3:=h2 h
   by_cases e:sl.length=32
   ·exact e
   ·unfold openT at h3
    rw [if_pos e] at h3
    exact absurd h3 (by decide)
  ·exact ⟨_,_,_,_,false,bind_i (v:=true) (if_n c (bind_i (contains_eq 1 hM) (by rw [decide_eq_false d]; rfl))) (if_i rfl rfl),fun h=>nomatch h⟩
def PrOk (mI:List (Str × Int)) (mM mSc:List Int) (sl:Str) (re p:Bool):Prop:=(p=true ∨ re=true ∨ 1027 ∈ mSc)∧(p=true → 0<mI.length∧1 ∈ mM∧sl.length=32)
theorem proof_out (hM:mM.length<1152921504606846976) (hSc:mSc.length<1152921504606846976) (su g:Int) (sh:Str) (re:Bool) :
  ∃ a p,hello_asking_proof s S G ch key ro nm tk sl psk tape clock pad limit ring mK mR mS mSu mN mV mG mSc mM mSh mI mB mP mO mC mSch mD mL mA mNo mU again group su g sh re false 0=some (a,p)∧(a=109 ∨ a=40 ∨ (a = -1∧PrOk mI mM mSc sl re p)):=by
 unfold hello_asking_proof
 cases re with
 | true=>exact ⟨-1,false,if_i rfl rfl, .inr (.inr ⟨rfl, .inr (.inl rfl),fun h=>nomatch h⟩)⟩
 | false =>
  obtain ⟨j,hj⟩ : ∃ j:Bool,(if 0<((mI).length:Int) then (some (decide (((mM).length:Int)=0))) else (some false))=some j:=by
   by_cases c:0<(mI.length:Int)
   ·exact ⟨_,if_pos c⟩
   ·exact ⟨_,if_neg c⟩
  cases j with
  | true=>exact ⟨109,_,if_n (by decide) (bind_i hj (if_i rfl rfl)), .inl rfl⟩
  | false =>
   obtain ⟨a1,a2,a3,a4,b,h1,h2⟩:=opened_out (s:=s) (S:=S) (G:=G) (ch:=ch) (key:=key) (ro:=ro) (nm:=nm) (tk:=tk) (sl:=sl) (psk:=psk) (tape:=tape) (clock:=clock) (pad:=pad) (limit:=limit) (ring:=ring) (mK:=mK) (mR:=mR) (mS:=mS) (mSu:=mSu) (mN:=mN) (mV:=mV) (mG:=mG) (mSc:=mSc) (mM:=mM) (mSh:=mSh) (mI:=mI) (mB:=mB) (mP:=mP) (mO:=mO) (mC:=mC) (mSch:=mSch) (mD:=mD) (mL:=mL) (mA:=mA) (mNo:=mNo) (mU:=mU) hM su
   cases b with
   | true=>exact ⟨-1,true,if_n (by decide) (bind_i hj (if_n (by decide) (bind_i h1 (if_i rfl rfl)))), .inr (.inr ⟨rfl, .inl rfl,h2⟩)⟩
   | false =>
    by_cases c:(mSc.length:Int)=0
    ·exact ⟨109,false,if_n (by decide) (bind_i hj (if_n (by decide) (bind_i h1 (if_n (by simp) (ltt_i fun x hx=>by rw [hx,decide_eq_true c]; rfl))))), .inl rfl⟩
    ·by_cases d:(1027:Int) ∈ mSc
     ·exact ⟨-1,false,if_n (by decide) (bind_i hj (if_n (by decide) (bind_i h1 (if_n (by simp) (ltt_i fun x hx=>by rw [hx,decide_eq_false c]; exact if_n (by decide) (bind_i (contains_eq 1027 hSc) (by rw [decide_eq_true d]; rfl))))))), .inr (.inr ⟨rfl, .inr (.inr d),fun h=>nomatch h⟩)⟩
     ·exact ⟨40,false,if_n (by decide) (bind_i hj (if_n (by decide) (bind_i h1 (if_n (by simp) (ltt_i fun x hx=>by rw [hx,decide_eq_false c]; exact if_n (by decide) (bind_i (contains_eq 1027 hSc) (by rw [decide_eq_false d]; rfl))))))), .inr (.inl rfl)⟩
def Chosen (S:List Int) (mSu mV mG mSc mM:List Int) (mSh:List (Int × Str)) (mI:List (Str × Int)) (sl:Str) (r:Int × Int × Str × Bool × Bool × Int):Prop :=
 r.2.2.2.2.2 = -1∧772 ∈ mV∧(∃ k,k<S.length∧lg S k=r.1∧r.1 ∈ mSu ∧ ∀ j,j<k → lg S j ∉ mSu)∧ShOk mG mSh r.2.1 r.2.2.1 r.2.2.2.1∧PrOk mI mM mSc sl r.2.2.2.1 r.2.2.2.2.1
theorem choose_out (hS:S.length<1152921504606846976) (hG:G.length<1152921504606846976) (hc:ch.length<1152921504606846976) (hr:ro.length<1152921504606846976) (hp:psk.length<1152921504606846976) (hSu:mSu.length<1152921504606846976) (hV:mV.length<1152921504606846976) (hmG:mG.length<1152921504606846976) (hSc:mSc.length<1152921504606846976) (hM:mM.length<1152921504606846976) (hSh:mSh.length<1152921504606846976) :
  ∃ r,hello_Choose s S G ch key ro nm tk sl psk tape clock pad limit ring mK mR mS mSu mN mV mG mSc mM mSh mI mB mP mO mC mSch mD mL mA mNo mU again group=some r∧((∃ a,0≤a∧r=(0,0,[],false,false,a)) ∨ (hello_May s S G ch key ro nm tk sl psk tape clock pad limit ring=some true∧s=true∧mK=1∧Chosen S mSu mV mG mSc mM mSh mI sl r)):=by
 obtain ⟨b,hb⟩:=May_tot (s:=s) (S:=S) (G:=G) (ch:=ch) (key:=key) (ro:=ro) (nm:=nm) (tk:=tk) (sl:=sl) (psk:=psk) (tape:=tape) (clock:=clock) (pad:=pad) (limit:=limit) (ring:=ring) hS hG hc hr hp
 unfold hello_Choose
 cases b with
 | false=>exact ⟨_,bind_i hb (bind_i (v:=true) (if_i rfl rfl) (if_i rfl rfl)), .inl ⟨40,by decide,rfl⟩⟩
 | true =>
  cases s with
  | false=>exact ⟨_,bind_i hb (bind_i (v:=true) (if_n (by decide) (if_i rfl rfl)) (if_i rfl rfl)), .inl ⟨40,by decide,rfl⟩⟩
  | true =>
   by_cases k1:mK=1
   ·have hj:(if (!true)=true then (some true) else (if (!true)=true then (some true) else (some (decide (mK ≠ 1)))))=some false:=if_n (by decide) (if_n (by decide) (by rw [decide_eq_false (fun h=>h k1)]))
    obtain ⟨a,x,o1,o2⟩:=offers_out (oA:=0) (s:=true) (S:=S) (G:=G) (ch:=ch) (key:=key) (ro:=ro) (nm:=nm) (tk:=tk) (sl:=sl) (psk:=psk) (tape:=tape) (clock:=clock) (pad:=pad) (limit:=limit) (ring:=ring) (mK:=mK) (mR:=mR) (mS:=mS) (mSu:=mSu) (mN:=mN) (mV:=mV) (mG:=mG) (mSc:=mSc) (mM:=mM) (mSh:=mSh) (mI:=mI) (mB:=mB) (mP:=mP) (mO:=mO) (mC:=mC) (mSch:=mSch) (mD:=mD) (mL:=mL) (mA:=mA) (mNo:=mNo) (mU:=mU) (again:=again) (group:=group) hS hSu hV
    by_cases n1:a = -1
    ·have o3:772 ∈ mV ∧ ∃ k,k<S.length∧lg S k=x∧x ∈ mSu ∧ ∀ j,j<k → lg S j ∉ mSu:=by
      rcases o2 with h | h | h | h
      ·omega
      ·omega
      ·omega
      ·exact h.2
     obtain ⟨a2,g,sh,re,p1,p2⟩:=shares_out (s:=true) (S:=S) (G:=G) (ch:=ch) (key:=key) (ro:=ro) (nm:=nm) (tk:=tk) (sl:=sl) (psk:=psk) (tape:=tape) (clock:=clock) (pad:=pad) (limit:=limit) (ring:=ring) (mK:=mK) (mR:=mR) (mS:=mS) (mSu:=mSu) (mN:=mN) (mV:=mV) (mG:=mG) (mSc:=mSc) (mM:=mM) (mSh:=mSh) (mI:=mI) (mB:=mB) (mP:=mP) (mO:=mO) (mC:=mC) (mSch:=mSch) (mD:=mD) (mL:=mL) (mA:=mA) (mNo:=mNo) (mU:=mU) (again:=again) (group:=group) hG hmG hSh (su:=x)
     by_cases n2:a2 = -1
     ·have p3:ShOk mG mSh g sh re:=by
       rcases p2 with h | h | h
       ·omega
       ·omega
       ·exact h.2
      obtain ⟨a3,p,q1,q2⟩:=proof_out (s:=true) (S:=S) (G:=G) (ch:=ch) (key:=key) (ro:=ro) (nm:=nm) (tk:=tk) (sl:=sl) (psk:=psk) (tape:=tape) (clock:=clock) (pad:=pad) (limit:=limit) (ring:=ring) (mK:=mK) (mR:=mR) (mS:=mS) (mSu:=mSu) (mN:=mN) (mV:=mV) (mG:=mG) (mSc:=mSc) (mM:=mM) (mSh:=mSh) (mI:=mI) (mB:=mB) (mP:=mP) (mO:=mO) (mC:=mC) (mSch:=mSch) (mD:=mD) (mL:=mL) (mA:=mA) (mNo:=mNo) (mU:=mU) (again:=again) (group:=group) hM hSc x g sh re
      by_cases n3:a3 = -1
      ·have q3:PrOk mI mM mSc sl re p:=by
        rcases q2 with h | h | h
        ·omega
        ·omega
        ·exact h.2
       exact ⟨(x,g,sh,re,p, -1),bind_i hb (bind_i hj (if_n (by decide) (bind_i o1 (if_n (fun h=>h n1) (bind_i p1 (if_n (fun h=>h n2) (bind_i q1 (if_n (fun h=>h n3) rfl)))))))), .inr ⟨hb,rfl,k1,rfl,o3.1,o3.2,p3,q3⟩⟩
      ·exact ⟨_,bind_i hb (bind_i hj (if_n (by decide) (bind_i o1 (if_n (fun h=>h n1) (bind_i p1 (if_n (fun h=>h n2) (bind_i q1 (if_i n3 rfl)))))))), .inl ⟨a3,by rcases q2 with h | h | h <;> omega,rfl⟩⟩
     ·exact ⟨_,bind_i hb (bind_i hj (if_n (by decide) (bind_i o1 (if_n (fun h=>h n1) (bind_i p1 (if_i n2 rfl)))))), .inl ⟨a2,by rcases p2 with h | h | h <;> omega,rfl⟩⟩
    ·exact ⟨_,bind_i hb (bind_i hj (if_n (by decide) (bind_i o1 (if_i n1 rfl)))), .inl ⟨a,by rcases o2 with h | h | h | h <;> omega,rfl⟩⟩
   ·exact ⟨_,bind_i hb (bind_i (v:=true) (if_n (by decide) (if_n (by decide) (by rw [decide_eq_true k1]))) (if_i rfl rfl)), .inl ⟨40,by decide,rfl⟩⟩
end
end Go.Proofs
end

section
namespace Go.Kx
open Go
variable {P:Program} {t e:TypeId} {x y:Operand}
inductive Lk where | i | s | b
inductive Lf where | i (a:Int) | s (a:Str) | b (a:Bool)
def Lf.v:Lf → Value
 | .i a=>vi a
 | .s a=>vs a
 | .b a=>vb a
def Lf.kind:Lf → Lk
 | .i _ => .i
 | .s _ => .s
 | .b _ => .b
def Lf.eq:Lf → Lf → Bool
 | .i p, .i q=>decide (p=q)
 | .s p, .s q=>decide (p=q)
 | .b p, .b q=>p == q
 | _,_=>false
def Lf.all:List Lf → List Lf → Bool
 | x :: r,y :: q=>Lf.eq x y && Lf.all r q
 | _,_=>true
def lkOk:Option TypeDesc → Lk → Bool
 | some (.int .i64), .i=>true
 | some .string, .s=>true
 | some .bool, .b=>true
 | _,_=>false
def fsOk (P:Program):List Field → Nat → List Lk → Bool
 | [],_,[]=>true
 | f :: fs,k,q :: r=>f.name != "_" && (Nat.beq f.offset k && (lkOk (P.underlying f.type) q && fsOk P fs (k+1) r))
 | _,_,_=>false
theorem lk_i {u:Option TypeDesc} (h:lkOk u .i=true):u=some (.int .i64):=by
 unfold lkOk at h; split at h <;> simp_all
theorem lk_s {u:Option TypeDesc} (h:lkOk u .s=true):u=some .string:=by
 unfold lkOk at h; split at h <;> simp_all
theorem lk_b {u:Option TypeDesc} (h:lkOk u .b=true):u=some .bool:=by
 unfold lkOk at h; split at h <;> simp_all
theorem lf_part (w:World) {cs:List Value} {off:Nat} {a:Lf} (ht:lkOk (P.underlying t) a.kind=true) (hv:cs[off]? = some a.v):(part t cs.toArray off).run P w = .ok a.v w:=by
 have hv':cs.toArray[off]? = some a.v:=by simpa using hv
 cases a
 ·simp [part,isAgg,Sem.run_bind,run_underlying (lk_i ht),hv']
 ·simp [part,isAgg,Sem.run_bind,run_underlying (lk_s ht),hv']
 ·simp [part,isAgg,Sem.run_bind,run_underlying (lk_b ht),hv']
theorem bytes_eq (a b:Str):(bytes a == bytes b)=decide (a=b):=by
 show ((bytes a).data == (bytes b).data)=_
 rw [Bool.eq_iff_iff,beq_iff_eq,decide_eq_true_eq]
 constructor
 ·intro h
  have h1:=eqS a b
  have h2:bytes a=bytes b:=by
   cases ha:bytes a; cases hb:bytes b
   rw [ha,hb] at h
   simp only at h
   rw [h]
  rw [h2] at h1
  simpa using h1.symm
 ·rintro rfl; rfl
theorem lf_eq (w:World) (d:Nat) (a b:Lf) (ht:lkOk (P.underlying t) a.kind=true) (hk:b.kind=a.kind):(Op.equalIn (d+1) t a.v b.v).run P w = .ok (Lf.eq a b) w:=by
 cases a
 ·cases b with
  | i b=>simp [Lf.v,Lf.eq,vi,Op.equalIn,Sem.run_bind,run_underlying (lk_i ht)]; rfl
  | s b=>exact absurd hk (by simp [Lf.kind])
  | b b=>exact absurd hk (by simp [Lf.kind])
 ·cases b with
  | s b=>simp [Lf.v,Lf.eq,vs,Op.equalIn,Sem.run_bind,run_underlying (lk_s ht),bytes_eq]
  | i b=>exact absurd hk (by simp [Lf.kind])
  | b b=>exact absurd hk (by simp [Lf.kind])
 ·cases b with
  | b b=>simp [Lf.v,Lf.eq,vb,Op.equalIn,Sem.run_bind,run_underlying (lk_b ht)]
  | s b=>exact absurd hk (by simp [Lf.kind])
  | i b=>exact absurd hk (by simp [Lf.kind])
theorem st_loop (w:World) (d:Nat) (cs ds:List Value) :
  ∀ (fs:List Field) (k:Nat) (xs ys:List Lf),fsOk P fs k (xs.map Lf.kind)=true → ys.map Lf.kind=xs.map Lf.kind → (∀ i v,xs[i]? = some v → cs[k+i]? = some v.v) → (∀ i v,ys[i]? = some v → ds[k+i]? = some v.v) →
  (forIn (m:=Sem) fs (none,PUnit.unit) (fun f (_:Option Bool × PUnit)=>do
   if f.name ≠ "_" then
    if !(← Op.equalIn (d+1) f.type (← part f.type cs.toArray f.offset) (← part f.type ds.toArray f.offset)) then pure (ForInStep.done (some false,PUnit.unit))
    else pure (ForInStep.yield (none,PUnit.unit))
   else pure (ForInStep.yield (none,PUnit.unit)))).run P w = .ok (if Lf.all xs ys then none else some false,PUnit.unit) w
 | [],_,xs,ys,hf,hk,_,_=>by
  cases xs with
  | nil=>simp [Sem.run,Lf.all]
  | cons x r=>simp [fsOk] at hf
 | f :: fs,k,xs,ys,hf,hk,hx,hy=>by
  cases xs with
  | nil=>simp [fsOk] at hf
  | cons a r =>
   cases ys with
   | nil=>simp at hk
   | cons b q =>
    simp only [List.map_cons,fsOk,Bool.and_eq_true,bne_iff_ne] at hf
    obtain ⟨hn,ho,hl,hr⟩:=hf
    simp only [List.map_cons,List.cons.injEq] at hk
    have ho:=Nat.eq_of_beq_eq_true ho
    have h1:=lf_part (P:=P) w hl (off:=f.offset) (cs:=cs) (by rw [ho]; exact hx 0 a rfl)
    have h2:=lf_part (P:=P) w (by rw [hk.1]; exact hl) (off:=f.offset) (cs:=ds) (a:=b) (t:=f.type) (by rw [ho]; exact hy 0 b rfl)
    have h3:=lf_eq (P:=P) w d a b hl hk.1
    have ih:=st_loop w d cs ds fs (k+1) r q hr hk.2 (fun i v h=>by rw [Nat.add_assoc,Nat.add_comm 1 i]; exact hx (i+1) v h) (fun i v h=>by rw [Nat.add_assoc,Nat.add_comm 1 i]; exact hy (i+1) v h)
    rw [List.forIn_cons]
    simp only [hn,ne_eq,not_false_eq_true,if_true,Sem.run_bind,h1,h2,h3,Result.andThen_ok]
    cases hb:Lf.eq a b
    ·have e0:Lf.all (a :: r) (b :: q)=false:=by simp [Lf.all,hb]
     rw [e0]; rfl
    ·have e0:Lf.all (a :: r) (b :: q)=Lf.all r q:=by simp [Lf.all,hb]
     rw [e0]; exact ih
theorem eqSt0 (w:World) (d:Nat) {fs:List Field} (ht:P.underlying t=some (.struct fs.toArray)) (hs:P.stoodInHeld t=false) (xs ys:List Lf) (hf:fsOk P fs 0 (xs.map Lf.kind)=true) (hk:ys.map Lf.kind=xs.map Lf.kind) :
  (Op.equalIn (d+2) t (.agg (xs.map Lf.v).toArray) (.agg (ys.map Lf.v).toArray)).run P w = .ok (Lf.all xs ys) w:=by
 have hl:=st_loop (P:=P) w d (xs.map Lf.v) (ys.map Lf.v) fs 0 xs ys hf hk (fun i v h=>by simp [h]) (fun i v h=>by simp [h])
 unfold Op.equalIn
 simp only [Sem.run_bind,run_underlying ht,Result.andThen_ok,run_program,hs,Bool.false_eq_true,if_false,List.forIn_toArray]
 refine (congrArg (fun r=>Result.andThen r _) hl).trans ?_
 simp only [Result.andThen_ok]
 cases Lf.all xs ys <;> simp [Sem.run]
theorem eqlSt (w:World) {fs:List Field} (ht:P.underlying t=some (.struct fs.toArray)) (hs:P.stoodInHeld t=false) (hg:P.eqGuardType P.depth t=false) (xs ys:List Lf) (hf:fsOk P fs 0 (xs.map Lf.kind)=true) (hk:ys.map Lf.kind=xs.map Lf.kind)
  {vx vy:Value} (hx:vx = .agg (xs.map Lf.v).toArray) (hy:vy = .agg (ys.map Lf.v).toArray):(binG .eql t x y vx vy).run P w = .ok (vb (Lf.all xs ys)) w:=hx ▸ hy ▸ binG_of w (guard_agg w hg) (by
 have h:=eqSt0 w 9998 ht hs xs ys hf hk
 show ((Op.equalIn (9998+2) t _ _) >>= fun r=>pure (Value.bool r)).run P w=_
 rw [Sem.run_bind,h]; simp [vb])
end Go.Kx
end

section
namespace Go.Proofs
open Go Go.Kx
open TryzI Tryz
def slices_Clone___int_int_ (s_:List (Int)):Option (List (Int)) :=
 if 0=(([]:List (Int))).length then (if (([]:List (Int))).length+(s_).length≤17592186044416 then (ltt (([]:List (Int))++s_) fun (l1:List (Int))=>(some l1)) else none) else none
set_option maxHeartbeats 4000000 in
set_option maxRecDepth 20000 in
theorem F39_calls (As_:Adr) (cs_:Nat) (s_:List (Int)) (hcs_:(s_).length≤cs_) (r:List (Int)) (H:slices_Clone___int_int_ s_=some r) :
  Does Tryz.prog 39 [sl As_ ((s_).length) cs_] [] [⟨As_,eI s_⟩] (Γ:=Adr × List (Int)) (fun g=>sl g.1 ((r).length) ((r++g.2).length)) (fun g=>[⟨g.1,eI (r++g.2)⟩]):=by
 intro w hmem hro hd
 refine calls_of (N:=8) (m0:=[(0,sl As_ ((s_).length) cs_)]) func39 rfl ntmps39 (argM_ok [sl As_ ((s_).length) cs_]) rfl hmem hro hd ?_
 unfold slices_Clone___int_int_ at H
 refine TC_nil (A:=As_) (cs:=eI s_) (.ro (j:=0) rfl) (fun hA hcs=>?_) (fun hA=>?_)
 ·have hs0:s_=[]:=nil_of hcs
  subst hA hs0
  replace H:some nI=some r:=H
  refine TC_seq (TC_region (TLe (E_nilS rfl (z:=eI (nI++nI)) rfl) (fun A1=>?_)))
  refine TL_nil (TX_next (TC_seq (TC_seq (TC_region (TVm ?_)))))
  refine TLv (V_bin rfl rfl (fun w=>eqlSlnn w underlying22)) ?_
  refine TL_nil (TX_next (TC_cond_t rfl ?_))
  refine TC_seq (TC_region (TLe (E_nilS rfl (z:=eI (nI++nI)) rfl) (fun A2=>?_)))
  refine TL_nil (TX_next (TC_ret (TX_then_ret ?_)))
  obtain rfl:=sj H
  exact TX_ret (rs:=[.tmp 2]) (vs:=[sl A2 ((nI).length) ((nI++nI).length)]) rfl ⟨rfl,trivial⟩ (fun w' hs'=>⟨(A2,nI),rfl,Step.left (Step.pulled (is:=[0]) (A:=[⟨A2,eI (nI++nI)⟩]) hs' rfl)⟩)
 ·skip
  refine TC_seq (TC_region (TLe (E_nilS rfl (z:=eI (nI++nI)) rfl) (fun A1=>?_)))
  refine TL_nil (TX_next (TC_seq (TC_seq (TC_region (TVm ?_)))))
  refine TLv (V_bin rfl rfl (fun w=>eqlSln w underlying22 hA)) ?_
  refine TL_nil (TX_next (TC_cond_f rfl ?_))
  refine TC_skip (TX_next (TC_seq (TC_region (TLe (E_buildSlice0 (cs:=eI nI) underlying22 inf3 rfl) (fun b1=>?_)))))
  refine TVm ?_
  obtain ⟨h1,H⟩:=if_elim H
  refine TL_reE (j:=0) (A:=some (b1,0)) (cs:=eI nI) (cs':=eI (nI++nI)) rfl (congrArg (eI) (List.append_nil _).symm) ?_
  refine TL_re (d:=5) (v:=sl (some (b1,0)) 0 0) (v':=sl (some (b1,0)) ((nI).length) ((nI++nI).length)) rfl (sl_row h1) ?_
  obtain ⟨h2,H⟩:=if_elim H
  obtain ⟨l1,hl1,H⟩:=ltt_elim H
  refine TLe (E_app1 (f:=vi) (j:=0) (l:=([]:List (Int))) (sp:=([]:List (Int))) (ds:=s_) (0:Int) (.r 0) rfl rfl rfl (fun _=>rfl) underlying22 underlying22 inf3 rfl zer3 (B':=8) rfl (by have:=h2; omega) (by have:=h2; omega) hl1) (fun q1=>?_)
  refine TVa ?_
  refine TL_nil (TX_next (TC_ret ?_))
  obtain rfl:=sj H
  exact TX_ret (rs:=[.tmp 2]) (vs:=[sl q1.1 ((l1).length) ((l1++q1.2).length)]) rfl ⟨rfl,trivial⟩ (fun w' hs'=>⟨(q1.1,q1.2),rfl,Step.left (Step.pulled (is:=[0]) (A:=[⟨q1.1,eI (l1++q1.2)⟩]) hs' rfl)⟩)
end Go.Proofs
end

section
namespace Go.Proofs
open Go Go.Kx
open TryzI Tryz
def hello_Counts (c_Server:Bool) (c_Suites:List (Int)) (c_Groups:List (Int)) (c_Chain:List (Str)) (c_Key:Str) (c_Roots:List (Str)) (c_Name:Str) (c_Tickets:Int) (c_Seal:Str) (c_Psk:List (Str × Str × Int × Int × Int × Int)) (c_Tape:Str) (c_Clock:Int) (c_Pad:Int) (c_Limit:Int) (c_Ring:Int):Option (Str × Str × Int × Int × Int × Int × Bool) :=
 if ((c_Psk).length:Int)=0 then (some (([]:Str),([]:Str),0,0,0,0,false)) else (if 0≤(0:Int)∧(0:Int)<((c_Psk).length:Int) then (if c_Clock<((lg c_Psk 0).2.2.2.2.1) then (some (([]:Str),([]:Str),0,0,0,0,false)) else (if 0≤(0:Int)∧(0:Int)<((c_Psk).length:Int) then (if 0≤(0:Int)∧(0:Int)<((c_Psk).length:Int) then (if ((lg c_Psk 0).2.2.2.2.2)<(w64 (c_Clock - ((lg c_Psk 0).2.2.2.2.1))) then (some (([]:Str),([]:Str),0,0,0,0,false)) else (if 0≤(0:Int)∧(0:Int)<((c_Psk).length:Int) then (some ((lg c_Psk 0).1,(lg c_Psk 0).2.1,(lg c_Psk 0).2.2.1,(lg c_Psk 0).2.2.2.1,(lg c_Psk 0).2.2.2.2.1,(lg c_Psk 0).2.2.2.2.2,true)) else none)) else none) else none)) else none)
set_option maxHeartbeats 4000000 in
set_option maxRecDepth 20000 in
theorem F40_calls (bc:Nat) (obc:Nat) (Ac_Suites:Adr) (cc_Suites:Nat) (Ac_Groups:Adr) (cc_Groups:Nat) (Ac_Chain:Adr) (cc_Chain:Nat) (Ac_Roots:Adr) (cc_Roots:Nat) (Ac_Psk:Adr) (cc_Psk:Nat) (c_Server:Bool) (c_Suites:List (Int)) (c_Groups:List (Int)) (c_Chain:List (Str)) (c_Key:Str) (c_Roots:List (Str)) (c_Name:Str) (c_Tickets:Int) (c_Seal:Str) (c_Psk:List (Str × Str × Int × Int × Int × Int)) (c_Tape:Str) (c_Clock:Int) (c_Pad:Int) (c_Limit:Int) (c_Ring:Int) (hcc_Suites:(c_Suites).length≤cc_Suites) (hcc_Groups:(c_Groups).length≤cc_Groups) (hcc_Chain:(c_Chain).length≤cc_Chain) (hcc_Roots:(c_Roots).length≤cc_Roots) (hcc_Psk:(c_Psk).length≤cc_Psk) (r:Str × Str × Int × Int × Int × Int × Bool) (H:hello_Counts c_Server c_Suites c_Groups c_Chain c_Key c_Roots c_Name c_Tickets c_Seal c_Psk c_Tape c_Clock c_Pad c_Limit c_Ring=some r) :
  Does Tryz.prog 40 [ptr (some (bc,obc)) 0] [] [⟨some (bc,obc),[vb c_Server]⟩,⟨some (bc,obc+1),[sl Ac_Suites ((c_Suites).length) cc_Suites]⟩,⟨some (bc,obc+2),[sl Ac_Groups ((c_Groups).length) cc_Groups]⟩,⟨some (bc,obc+3),[sl Ac_Chain ((c_Chain).length) cc_Chain]⟩,⟨some (bc,obc+4),[vs c_Key]⟩,⟨some (bc,obc+5),[sl Ac_Roots ((c_Roots).length) cc_Roots]⟩,⟨some (bc,obc+6),[vs c_Name]⟩,⟨some (bc,obc+7),[vi c_Tickets]⟩,⟨some (bc,obc+8),[vs c_Seal]⟩,⟨some (bc,obc+9),[sl Ac_Psk ((c_Psk).length) cc_Psk]⟩,⟨some (bc,obc+10),[vs c_Tape]⟩,⟨some (bc,obc+11),[vi c_Clock]⟩,⟨some (bc,obc+12),[vi c_Pad]⟩,⟨some (bc,obc+13),[vi c_Limit]⟩,⟨some (bc,obc+14),[vi c_Ring]⟩,⟨Ac_Suites,eI c_Suites⟩,⟨Ac_Groups,eI c_Groups⟩,⟨Ac_Chain,eS c_Chain⟩,⟨Ac_Roots,eS c_Roots⟩,⟨Ac_Psk,eF (fun p:Str × Str × Int × Int × Int × Int=>[vs p.1,vs p.2.1,vi p.2.2.1,vi p.2.2.2.1,vi p.2.2.2.2.1,vi p.2.2.2.2.2]) c_Psk⟩] (Γ:=Unit) (fun g=>Value.tuple [aG [(1,[vs r.1]),(1,[vs r.2.1]),(1,[vi r.2.2.1]),(1,[vi r.2.2.2.1]),(1,[vi r.2.2.2.2.1]),(1,[vi r.2.2.2.2.2.1])],vb r.2.2.2.2.2.2].toArray) (fun g=>[]):=by
 intro w hmem hro hd
 refine calls_of (N:=53) (m0:=[(0,ptr (some (bc,obc)) 0)]) func40 rfl ntmps40 (argM_ok [ptr (some (bc,obc)) 0]) rfl hmem hro hd ?_
 unfold hello_Counts at H
 refine TC_seq (TC_region (TLe (E_ap inf57 zer57) (fun b1=>?_)))
 refine TVa ?_
 refine TL_nil (TX_next (TC_seq (TC_seq (TC_em (decide (((c_Psk).length:Int)=0)) (fun hg1_7=>?_) (fun hg1_7=>?_)))))
 ·replace H:=ite_t (of_decide_eq_true hg1_7) H
  refine TA_begin [⟨some (b1,0),[vs ([]:Str)]⟩,⟨some (b1,1),[vs ([]:Str)]⟩,⟨some (b1,2),[vi 0]⟩,⟨some (b1,3),[vi 0]⟩,⟨some (b1,4),[vi 0]⟩,⟨some (b1,5),[vi 0]⟩] 42 (by kernel_rfl) (N:=42) rfl ?_
  refine TA_tk 0 [0,0,0,0,0,0] (dn 42 1) rfl rfl (V_move rfl) ?_
  refine TA_tk 1 [0,0,0,0,0,0] (dn 42 3) rfl rfl (V_nilCheck rfl) ?_
  refine TA_tk 2 [0,0,0,0,0,0] (dn 42 7) rfl rfl (V_fieldE rfl underlying26 rfl rfl inf24 rfl (v:=ptr (some (bc,obc+9)) 0) rfl) ?_
  refine TA_tk 3 [0,0,0,0,0,0] (dn 42 15) rfl rfl (V_load rfl (.r 9) rfl isAgg24) ?_
  refine TA_tk 4 [0,0,0,0,0,0] (dn 42 31) rfl rfl (V_len_slice rfl underlying24) ?_
  refine TA_tk 5 [0,0,0,0,0,0] (dn 42 63) rfl rfl (V_bin rfl rfl (fun w=>eqlI w ((c_Psk).length:Int) 0)) ?_
  refine TA_tk 6 [0,0,0,0,0,0] (dn 42 127) rfl rfl (V_move rfl) ?_
  refine TA_re (d:=10) (v:=vb (decide (((c_Psk).length:Int)=0))) (v':=vb true) rfl (congrArg vb hg1_7) ?_
  refine TA_ts 7 [0,0,0,0,0,0] (dn 42 255) rfl rfl ?_
  refine TA_ts 8 [0,0,0,0,0,0] (dn 42 511) rfl rfl ?_
  refine TA_ts 9 [0,0,0,0,0,0] (dn 42 1023) rfl rfl ?_
  refine TA_ts 10 [0,0,0,0,0,0] (dn 42 2047) rfl rfl ?_
  refine TA_ts 11 [0,0,0,0,0,0] (dn 42 4095) rfl rfl ?_
  refine TA_ts 12 [0,0,0,0,0,0] (dn 42 8191) rfl rfl ?_
  refine TA_ts 13 [0,0,0,0,0,0] (dn 42 16383) rfl rfl ?_
  refine TA_ts 14 [0,0,0,0,0,0] (dn 42 32767) rfl rfl ?_
  refine TA_ts 15 [0,0,0,0,0,0] (dn 42 65535) rfl rfl ?_
  refine TA_ts 16 [0,0,0,0,0,0] (dn 42 131071) rfl rfl ?_
  refine TA_ts 17 [0,0,0,0,0,0] (dn 42 262143) rfl rfl ?_
  refine TA_ts 18 [0,0,0,0,0,0] (dn 42 524287) rfl rfl ?_
  refine TA_tk 19 [0,0,0,0,0,0] (dn 42 1048575) rfl rfl (V_pick (b:=true) rfl rfl) ?_
  refine TA_tk 20 [0,0,0,0,0,0] (dn 42 2097151) rfl rfl (V_move rfl) ?_
  refine TA_ts 21 [0,0,0,0,0,0] (dn 42 4194303) rfl rfl ?_
  refine TA_ts 22 [0,0,0,0,0,0] (dn 42 8388607) rfl rfl ?_
  refine TA_ts 23 [0,0,0,0,0,0] (dn 42 16777215) rfl rfl ?_
  refine TA_ts 24 [0,0,0,0,0,0] (dn 42 33554431) rfl rfl ?_
  refine TA_ts 25 [0,0,0,0,0,0] (dn 42 67108863) rfl rfl ?_
  refine TA_ts 26 [0,0,0,0,0,0] (dn 42 134217727) rfl rfl ?_
  refine TA_ts 27 [0,0,0,0,0,0] (dn 42 268435455) rfl rfl ?_
  refine TA_ts 28 [0,0,0,0,0,0] (dn 42 536870911) rfl rfl ?_
  refine TA_ts 29 [0,0,0,0,0,0] (dn 42 1073741823) rfl rfl ?_
  refine TA_ts 30 [0,0,0,0,0,0] (dn 42 2147483647) rfl rfl ?_
  refine TA_ts 31 [0,0,0,0,0,0] (dn 42 4294967295) rfl rfl ?_
  refine TA_ts 32 [0,0,0,0,0,0] (dn 42 8589934591) rfl rfl ?_
  refine TA_ts 33 [0,0,0,0,0,0] (dn 42 17179869183) rfl rfl ?_
  refine TA_ts 34 [0,0,0,0,0,0] (dn 42 34359738367) rfl rfl ?_
  refine TA_ts 35 [0,0,0,0,0,0] (dn 42 68719476735) rfl rfl ?_
  refine TA_ts 36 [0,0,0,0,0,0] (dn 42 137438953471) rfl rfl ?_
  refine TA_ts 37 [0,0,0,0,0,0] (dn 42 274877906943) rfl rfl ?_
  refine TA_ts 38 [0,0,0,0,0,0] (dn 42 549755813887) rfl rfl ?_
  refine TA_ts 39 [0,0,0,0,0,0] (dn 42 1099511627775) rfl rfl ?_
  refine TA_ts 40 [0,0,0,0,0,0] (dn 42 2199023255551) rfl rfl ?_
  refine TA_tk 41 [0,0,0,0,0,0] (dn 42 4398046511103) rfl rfl (V_pick (b:=true) rfl rfl) ?_
  refine TA_done (by kernel_rfl) ?_ 0
  refine TX_next (TC.sub (m':=[(0,_),(2,_),(45,_)]) ⟨rfl,rfl,rfl,trivial⟩ ?_)
  refine TC.pull (is:=[0,0,0,0,0,0]) (L':=[_,_,_,_,_,_]) rfl ?_
  refine TC_cond_t rfl ?_
  refine TC_seq (TC_region (TLv (V_buildStruct (pv:=[]) (pl:=[(0,1),(1,1),(2,1),(3,1),(4,1),(5,1)]) rfl rfl underlying57 inf57 places57 zer57 (cs:=flat [(1,[vs ([]:Str)]),(1,[vs ([]:Str)]),(1,[vi 0]),(1,[vi 0]),(1,[vi 0]),(1,[vi 0])]) (by kernel_rfl)) ?_))
  refine TLn (E_sq (b:=b1) (o:=0) [0,0,0,0,0,0] [(1,_),(1,_),(1,_),(1,_),(1,_),(1,_)] rfl inf57) (fun _=>?_)
  refine TVa ?_
  refine TL_nil (TX_next (TC_ret (TX_then_ret ?_)))
  obtain rfl:=sj H
  exact TXr (vs:=[_,_]) rfl ⟨(Res_lp (b:=b1) (o:=0) (n:=6) (ps:=[(1,_),(1,_),(1,_),(1,_),(1,_),(1,_)]) ⟨.o 0, .o 1, .o 2, .o 3, .o 4, .o 5,trivial⟩ isAgg57 inf57),rfl,trivial⟩
 ·replace H:=ite_f (of_decide_eq_false hg1_7) H
  obtain ⟨h1,H⟩:=if_elim H
  refine TC_em (decide (c_Clock<((lg c_Psk 0).2.2.2.2.1))) (fun hg1_21=>?_) (fun hg1_21=>?_)
  ·replace H:=ite_t (of_decide_eq_true hg1_21) H
   refine TA_begin [⟨some (b1,0),[vs ([]:Str)]⟩,⟨some (b1,1),[vs ([]:Str)]⟩,⟨some (b1,2),[vi 0]⟩,⟨some (b1,3),[vi 0]⟩,⟨some (b1,4),[vi 0]⟩,⟨some (b1,5),[vi 0]⟩] 42 (by kernel_rfl) (N:=42) rfl ?_
   refine TA_tk 0 [0,0,0,0,0,0] (dn 42 1) rfl rfl (V_move rfl) ?_
   refine TA_tk 1 [0,0,0,0,0,0] (dn 42 3) rfl rfl (V_nilCheck rfl) ?_
   refine TA_tk 2 [0,0,0,0,0,0] (dn 42 7) rfl rfl (V_fieldE rfl underlying26 rfl rfl inf24 rfl (v:=ptr (some (bc,obc+9)) 0) rfl) ?_
   refine TA_tk 3 [0,0,0,0,0,0] (dn 42 15) rfl rfl (V_load rfl (.r 9) rfl isAgg24) ?_
   refine TA_tk 4 [0,0,0,0,0,0] (dn 42 31) rfl rfl (V_len_slice rfl underlying24) ?_
   refine TA_tk 5 [0,0,0,0,0,0] (dn 42 63) rfl rfl (V_bin rfl rfl (fun w=>eqlI w ((c_Psk).length:Int) 0)) ?_
   refine TA_tk 6 [0,0,0,0,0,0] (dn 42 127) rfl rfl (V_move rfl) ?_
   refine TA_re (d:=10) (v:=vb (decide (((c_Psk).length:Int)=0))) (v':=vb false) rfl (congrArg vb hg1_7) ?_
   refine TA_tw 7 [0,0,0,0,0,0] (dn 42 255) rfl rfl (V_move rfl) ?_
   refine TA_tw 8 [0,0,0,0,0,0] (dn 42 511) rfl rfl (V_nilCheck rfl) ?_
   refine TA_tw 9 [0,0,0,0,0,0] (dn 42 1023) rfl rfl (V_fieldE rfl underlying26 rfl rfl inf24 rfl (v:=ptr (some (bc,obc+9)) 0) rfl) ?_
   refine TA_tw 10 [0,0,0,0,0,0] (dn 42 2047) rfl rfl (V_load rfl (.r 9) rfl isAgg24) ?_
   refine TA_tw 11 [0,0,0,0,0,0] (dn 42 4095) rfl rfl (V_idxSlS (i:=0) rfl rfl underlying24 inf57 rfl (.r 19) (eF_ne2 (s:=6) (fun _=>rfl) rfl (toNat_lt h1.1 h1.2)) h1.1 h1.2 (k:=0 * 6) rfl) ?_
   refine TA_tw 12 [0,0,0,0,0,0] (dn 42 8191) rfl rfl (V_field rfl underlying57 rfl (k:=4) rfl inf3 rfl) ?_
   refine TA_tw 13 [0,0,0,0,0,0] (dn 42 16383) rfl rfl (V_load rfl (.r 19) ((get_eF (g:=fun p:Str × Str × Int × Int × Int × Int=>[vs p.1,vs p.2.1,vi p.2.2.1,vi p.2.2.2.1,vi p.2.2.2.2.1,vi p.2.2.2.2.2]) (s:=6) (fun _=>rfl) c_Psk 0 4 (toNat_lt h1.1 h1.2) (by decide:4<6)).trans rfl) isAgg3) ?_
   refine TA_tw 14 [0,0,0,0,0,0] (dn 42 32767) rfl rfl (V_move rfl) ?_
   refine TA_tw 15 [0,0,0,0,0,0] (dn 42 65535) rfl rfl (V_nilCheck rfl) ?_
   refine TA_tw 16 [0,0,0,0,0,0] (dn 42 131071) rfl rfl (V_fieldE rfl underlying26 rfl rfl inf3 rfl (v:=ptr (some (bc,obc+11)) 0) rfl) ?_
   refine TA_tw 17 [0,0,0,0,0,0] (dn 42 262143) rfl rfl (V_load rfl (.r 11) rfl isAgg3) ?_
   refine TA_tw 18 [0,0,0,0,0,0] (dn 42 524287) rfl rfl (V_bin rfl rfl (fun w=>gtrI w ((lg c_Psk 0).2.2.2.2.1) c_Clock)) ?_
   refine TA_tk 19 [0,0,0,0,0,0] (dn 42 1048575) rfl rfl (V_pick (b:=false) rfl rfl) ?_
   refine TA_tk 20 [0,0,0,0,0,0] (dn 42 2097151) rfl rfl (V_move rfl) ?_
   refine TA_re (d:=24) (v:=vb (decide (c_Clock<((lg c_Psk 0).2.2.2.2.1)))) (v':=vb true) rfl (congrArg vb hg1_21) ?_
   refine TA_ts 21 [0,0,0,0,0,0] (dn 42 4194303) rfl rfl ?_
   refine TA_ts 22 [0,0,0,0,0,0] (dn 42 8388607) rfl rfl ?_
   refine TA_ts 23 [0,0,0,0,0,0] (dn 42 16777215) rfl rfl ?_
   refine TA_ts 24 [0,0,0,0,0,0] (dn 42 33554431) rfl rfl ?_
   refine TA_ts 25 [0,0,0,0,0,0] (dn 42 67108863) rfl rfl ?_
   refine TA_ts 26 [0,0,0,0,0,0] (dn 42 134217727) rfl rfl ?_
   refine TA_ts 27 [0,0,0,0,0,0] (dn 42 268435455) rfl rfl ?_
   refine TA_ts 28 [0,0,0,0,0,0] (dn 42 536870911) rfl rfl ?_
   refine TA_ts 29 [0,0,0,0,0,0] (dn 42 1073741823) rfl rfl ?_
   refine TA_ts 30 [0,0,0,0,0,0] (dn 42 2147483647) rfl rfl ?_
   refine TA_ts 31 [0,0,0,0,0,0] (dn 42 4294967295) rfl rfl ?_
   refine TA_ts 32 [0,0,0,0,0,0] (dn 42 8589934591) rfl rfl ?_
   refine TA_ts 33 [0,0,0,0,0,0] (dn 42 17179869183) rfl rfl ?_
   refine TA_ts 34 [0,0,0,0,0,0] (dn 42 34359738367) rfl rfl ?_
   refine TA_ts 35 [0,0,0,0,0,0] (dn 42 68719476735) rfl rfl ?_
   refine TA_ts 36 [0,0,0,0,0,0] (dn 42 137438953471) rfl rfl ?_
   refine TA_ts 37 [0,0,0,0,0,0] (dn 42 274877906943) rfl rfl ?_
   refine TA_ts 38 [0,0,0,0,0,0] (dn 42 549755813887) rfl rfl ?_
   refine TA_ts 39 [0,0,0,0,0,0] (dn 42 1099511627775) rfl rfl ?_
   refine TA_ts 40 [0,0,0,0,0,0] (dn 42 2199023255551) rfl rfl ?_
   refine TA_tk 41 [0,0,0,0,0,0] (dn 42 4398046511103) rfl rfl (V_pick (b:=true) rfl rfl) ?_
   refine TA_done (by kernel_rfl) ?_ 0
   refine TX_next (TC.sub (m':=[(0,_),(2,_),(45,_)]) ⟨rfl,rfl,rfl,trivial⟩ ?_)
   refine TC.pull (is:=[0,0,0,0,0,0]) (L':=[_,_,_,_,_,_]) rfl ?_
   refine TC_cond_t rfl ?_
   refine TC_seq (TC_region (TLv (V_buildStruct (pv:=[]) (pl:=[(0,1),(1,1),(2,1),(3,1),(4,1),(5,1)]) rfl rfl underlying57 inf57 places57 zer57 (cs:=flat [(1,[vs ([]:Str)]),(1,[vs ([]:Str)]),(1,[vi 0]),(1,[vi 0]),(1,[vi 0]),(1,[vi 0])]) (by kernel_rfl)) ?_))
   refine TLn (E_sq (b:=b1) (o:=0) [0,0,0,0,0,0] [(1,_),(1,_),(1,_),(1,_),(1,_),(1,_)] rfl inf57) (fun _=>?_)
   refine TVa ?_
   refine TL_nil (TX_next (TC_ret (TX_then_ret ?_)))
   obtain rfl:=sj H
   exact TXr (vs:=[_,_]) rfl ⟨(Res_lp (b:=b1) (o:=0) (n:=6) (ps:=[(1,_),(1,_),(1,_),(1,_),(1,_),(1,_)]) ⟨.o 0, .o 1, .o 2, .o 3, .o 4, .o 5,trivial⟩ isAgg57 inf57),rfl,trivial⟩
  ·replace H:=ite_f (of_decide_eq_false hg1_21) H
   obtain ⟨h2,H⟩:=if_elim H
   obtain ⟨h3,H⟩:=if_elim H
   refine TA_begin [⟨some (b1,0),[vs ([]:Str)]⟩,⟨some (b1,1),[vs ([]:Str)]⟩,⟨some (b1,2),[vi 0]⟩,⟨some (b1,3),[vi 0]⟩,⟨some (b1,4),[vi 0]⟩,⟨some (b1,5),[vi 0]⟩] 42 (by kernel_rfl) (N:=42) rfl ?_
   refine TA_tk 0 [0,0,0,0,0,0] (dn 42 1) rfl rfl (V_move rfl) ?_
   refine TA_tk 1 [0,0,0,0,0,0] (dn 42 3) rfl rfl (V_nilCheck rfl) ?_
   refine TA_tk 2 [0,0,0,0,0,0] (dn 42 7) rfl rfl (V_fieldE rfl underlying26 rfl rfl inf24 rfl (v:=ptr (some (bc,obc+9)) 0) rfl) ?_
   refine TA_tk 3 [0,0,0,0,0,0] (dn 42 15) rfl rfl (V_load rfl (.r 9) rfl isAgg24) ?_
   refine TA_tk 4 [0,0,0,0,0,0] (dn 42 31) rfl rfl (V_len_slice rfl underlying24) ?_
   refine TA_tk 5 [0,0,0,0,0,0] (dn 42 63) rfl rfl (V_bin rfl rfl (fun w=>eqlI w ((c_Psk).length:Int) 0)) ?_
   refine TA_tk 6 [0,0,0,0,0,0] (dn 42 127) rfl rfl (V_move rfl) ?_
   refine TA_re (d:=10) (v:=vb (decide (((c_Psk).length:Int)=0))) (v':=vb false) rfl (congrArg vb hg1_7) ?_
   refine TA_tw 7 [0,0,0,0,0,0] (dn 42 255) rfl rfl (V_move rfl) ?_
   refine TA_tw 8 [0,0,0,0,0,0] (dn 42 511) rfl rfl (V_nilCheck rfl) ?_
   refine TA_tw 9 [0,0,0,0,0,0] (dn 42 1023) rfl rfl (V_fieldE rfl underlying26 rfl rfl inf24 rfl (v:=ptr (some (bc,obc+9)) 0) rfl) ?_
   refine TA_tw 10 [0,0,0,0,0,0] (dn 42 2047) rfl rfl (V_load rfl (.r 9) rfl isAgg24) ?_
   refine TA_tw 11 [0,0,0,0,0,0] (dn 42 4095) rfl rfl (V_idxSlS (i:=0) rfl rfl underlying24 inf57 rfl (.r 19) (eF_ne2 (s:=6) (fun _=>rfl) rfl (toNat_lt h1.1 h1.2)) h1.1 h1.2 (k:=0 * 6) rfl) ?_
   refine TA_tw 12 [0,0,0,0,0,0] (dn 42 8191) rfl rfl (V_field rfl underlying57 rfl (k:=4) rfl inf3 rfl) ?_
   refine TA_tw 13 [0,0,0,0,0,0] (dn 42 16383) rfl rfl (V_load rfl (.r 19) ((get_eF (g:=fun p:Str × Str × Int × Int × Int × Int=>[vs p.1,vs p.2.1,vi p.2.2.1,vi p.2.2.2.1,vi p.2.2.2.2.1,vi p.2.2.2.2.2]) (s:=6) (fun _=>rfl) c_Psk 0 4 (toNat_lt h1.1 h1.2) (by decide:4<6)).trans rfl) isAgg3) ?_
   refine TA_tw 14 [0,0,0,0,0,0] (dn 42 32767) rfl rfl (V_move rfl) ?_
   refine TA_tw 15 [0,0,0,0,0,0] (dn 42 65535) rfl rfl (V_nilCheck rfl) ?_
   refine TA_tw 16 [0,0,0,0,0,0] (dn 42 131071) rfl rfl (V_fieldE rfl underlying26 rfl rfl inf3 rfl (v:=ptr (some (bc,obc+11)) 0) rfl) ?_
   refine TA_tw 17 [0,0,0,0,0,0] (dn 42 262143) rfl rfl (V_load rfl (.r 11) rfl isAgg3) ?_
   refine TA_tw 18 [0,0,0,0,0,0] (dn 42 524287) rfl rfl (V_bin rfl rfl (fun w=>gtrI w ((lg c_Psk 0).2.2.2.2.1) c_Clock)) ?_
   refine TA_tk 19 [0,0,0,0,0,0] (dn 42 1048575) rfl rfl (V_pick (b:=false) rfl rfl) ?_
   refine TA_tk 20 [0,0,0,0,0,0] (dn 42 2097151) rfl rfl (V_move rfl) ?_
   refine TA_re (d:=24) (v:=vb (decide (c_Clock<((lg c_Psk 0).2.2.2.2.1)))) (v':=vb false) rfl (congrArg vb hg1_21) ?_
   refine TA_tw 21 [0,0,0,0,0,0] (dn 42 4194303) rfl rfl (V_move rfl) ?_
   refine TA_tw 22 [0,0,0,0,0,0] (dn 42 8388607) rfl rfl (V_nilCheck rfl) ?_
   refine TA_tw 23 [0,0,0,0,0,0] (dn 42 16777215) rfl rfl (V_fieldE rfl underlying26 rfl rfl inf3 rfl (v:=ptr (some (bc,obc+11)) 0) rfl) ?_
   refine TA_tw 24 [0,0,0,0,0,0] (dn 42 33554431) rfl rfl (V_load rfl (.r 11) rfl isAgg3) ?_
   refine TA_tw 25 [0,0,0,0,0,0] (dn 42 67108863) rfl rfl (V_move rfl) ?_
   refine TA_tw 26 [0,0,0,0,0,0] (dn 42 134217727) rfl rfl (V_nilCheck rfl) ?_
   refine TA_tw 27 [0,0,0,0,0,0] (dn 42 268435455) rfl rfl (V_fieldE rfl underlying26 rfl rfl inf24 rfl (v:=ptr (some (bc,obc+9)) 0) rfl) ?_
   refine TA_tw 28 [0,0,0,0,0,0] (dn 42 536870911) rfl rfl (V_load rfl (.r 9) rfl isAgg24) ?_
   refine TA_tw 29 [0,0,0,0,0,0] (dn 42 1073741823) rfl rfl (V_idxSlS (i:=0) rfl rfl underlying24 inf57 rfl (.r 19) (eF_ne2 (s:=6) (fun _=>rfl) rfl (toNat_lt h2.1 h2.2)) h2.1 h2.2 (k:=0 * 6) rfl) ?_
   refine TA_tw 30 [0,0,0,0,0,0] (dn 42 2147483647) rfl rfl (V_field rfl underlying57 rfl (k:=4) rfl inf3 rfl) ?_
   refine TA_tw 31 [0,0,0,0,0,0] (dn 42 4294967295) rfl rfl (V_load rfl (.r 19) ((get_eF (g:=fun p:Str × Str × Int × Int × Int × Int=>[vs p.1,vs p.2.1,vi p.2.2.1,vi p.2.2.2.1,vi p.2.2.2.2.1,vi p.2.2.2.2.2]) (s:=6) (fun _=>rfl) c_Psk 0 4 (toNat_lt h2.1 h2.2) (by decide:4<6)).trans rfl) isAgg3) ?_
   refine TA_tw 32 [0,0,0,0,0,0] (dn 42 8589934591) rfl rfl (V_bin rfl rfl (fun w=>subI w c_Clock ((lg c_Psk 0).2.2.2.2.1))) ?_
   refine TA_tw 33 [0,0,0,0,0,0] (dn 42 17179869183) rfl rfl (V_move rfl) ?_
   refine TA_tw 34 [0,0,0,0,0,0] (dn 42 34359738367) rfl rfl (V_nilCheck rfl) ?_
   refine TA_tw 35 [0,0,0,0,0,0] (dn 42 68719476735) rfl rfl (V_fieldE rfl underlying26 rfl rfl inf24 rfl (v:=ptr (some (bc,obc+9)) 0) rfl) ?_
   refine TA_tw 36 [0,0,0,0,0,0] (dn 42 137438953471) rfl rfl (V_load rfl (.r 9) rfl isAgg24) ?_
   refine TA_tw 37 [0,0,0,0,0,0] (dn 42 274877906943) rfl rfl (V_idxSlS (i:=0) rfl rfl underlying24 inf57 rfl (.r 19) (eF_ne2 (s:=6) (fun _=>rfl) rfl (toNat_lt h3.1 h3.2)) h3.1 h3.2 (k:=0 * 6) rfl) ?_
   refine TA_tw 38 [0,0,0,0,0,0] (dn 42 549755813887) rfl rfl (V_field rfl underlying57 rfl (k:=5) rfl inf3 rfl) ?_
   refine TA_tw 39 [0,0,0,0,0,0] (dn 42 1099511627775) rfl rfl (V_load rfl (.r 19) ((get_eF (g:=fun p:Str × Str × Int × Int × Int × Int=>[vs p.1,vs p.2.1,vi p.2.2.1,vi p.2.2.2.1,vi p.2.2.2.2.1,vi p.2.2.2.2.2]) (s:=6) (fun _=>rfl) c_Psk 0 5 (toNat_lt h3.1 h3.2) (by decide:5<6)).trans rfl) isAgg3) ?_
   refine TA_tw 40 [0,0,0,0,0,0] (dn 42 2199023255551) rfl rfl (V_bin rfl rfl (fun w=>gtrI w (w64 (c_Clock - ((lg c_Psk 0).2.2.2.2.1))) ((lg c_Psk 0).2.2.2.2.2))) ?_
   refine TA_tk 41 [0,0,0,0,0,0] (dn 42 4398046511103) rfl rfl (V_pick (b:=false) rfl rfl) ?_
   refine TA_done (by kernel_rfl) ?_ 0
   refine TX_next (TC.sub (m':=[(0,_),(2,_),(45,_)]) ⟨rfl,rfl,rfl,trivial⟩ ?_)
   refine TC.pull (is:=[0,0,0,0,0,0]) (L':=[_,_,_,_,_,_]) rfl ?_
   refine TCd H (fun hc H=>?_) (fun hc H=>?_)
   ·refine TC_seq (TC_region (TLv (V_buildStruct (pv:=[]) (pl:=[(0,1),(1,1),(2,1),(3,1),(4,1),(5,1)]) rfl rfl underlying57 inf57 places57 zer57 (cs:=flat [(1,[vs ([]:Str)]),(1,[vs ([]:Str)]),(1,[vi 0]),(1,[vi 0]),(1,[vi 0]),(1,[vi 0])]) (by kernel_rfl)) ?_))
    refine TLn (E_sq (b:=b1) (o:=0) [0,0,0,0,0,0] [(1,_),(1,_),(1,_),(1,_),(1,_),(1,_)] rfl inf57) (fun _=>?_)
    refine TVa ?_
    refine TL_nil (TX_next (TC_ret (TX_then_ret ?_)))
    obtain rfl:=sj H
    exact TXr (vs:=[_,_]) rfl ⟨(Res_lp (b:=b1) (o:=0) (n:=6) (ps:=[(1,_),(1,_),(1,_),(1,_),(1,_),(1,_)]) ⟨.o 0, .o 1, .o 2, .o 3, .o 4, .o 5,trivial⟩ isAgg57 inf57),rfl,trivial⟩
   ·refine TC_skip (TX_next (TC_seq (TC_region (TVm ?_))))
    refine TLv (V_nilCheck rfl) ?_
    refine TLv (V_fieldE rfl underlying26 rfl rfl inf24 rfl (v:=ptr (some (bc,obc+9)) 0) rfl) ?_
    refine TLv (V_load rfl (.r 9) rfl isAgg24) ?_
    obtain ⟨h4,H⟩:=if_elim H
    refine TLv (V_idxSlS (i:=0) rfl rfl underlying24 inf57 rfl (.r 19) (eF_ne2 (s:=6) (fun _=>rfl) rfl (toNat_lt h4.1 h4.2)) h4.1 h4.2 (k:=0 * 6) rfl) ?_
    refine TLv (V_loadPart (n:=6) (ds:=[vs ((lg c_Psk 0).1),vs ((lg c_Psk 0).2.1),vi ((lg c_Psk 0).2.2.1),vi ((lg c_Psk 0).2.2.2.1),vi ((lg c_Psk 0).2.2.2.2.1),vi ((lg c_Psk 0).2.2.2.2.2)]) rfl (.r 19) (part_eF (g:=fun p:Str × Str × Int × Int × Int × Int=>[vs p.1,vs p.2.1,vi p.2.2.1,vi p.2.2.2.1,vi p.2.2.2.2.1,vi p.2.2.2.2.2]) (s:=6) (fun _=>rfl) c_Psk 0 (toNat_lt h4.1 h4.2)) rfl rfl isAgg57 inf57 rfl) ?_
    refine TLn (E_sq (b:=b1) (o:=0) (ns:=[(1,[vs ((lg c_Psk 0).1)]),(1,[vs ((lg c_Psk 0).2.1)]),(1,[vi ((lg c_Psk 0).2.2.1)]),(1,[vi ((lg c_Psk 0).2.2.2.1)]),(1,[vi ((lg c_Psk 0).2.2.2.2.1)]),(1,[vi ((lg c_Psk 0).2.2.2.2.2)])]) [0,0,0,0,0,0] [(1,_),(1,_),(1,_),(1,_),(1,_),(1,_)] rfl inf57) (fun _=>?_)
    refine TVa ?_
    refine TL_nil (TX_next (TC_ret ?_))
    obtain rfl:=sj H
    exact TXr (vs:=[_,_]) rfl ⟨(Res_lp (b:=b1) (o:=0) (n:=6) (ps:=[(1,_),(1,_),(1,_),(1,_),(1,_),(1,_)]) ⟨.o 0, .o 1, .o 2, .o 3, .o 4, .o 5,trivial⟩ isAgg57 inf57),rfl,trivial⟩
end Go.Proofs
end

/-
  Part 16 of the proof of what several laws share.
-/
import Derived.Test.YtiofnmmggblcgaaEsC10
import Derived.Test.YtiofnmmggblcgaaEsC13
import Derived.Test.YtiofnmmggblcgaaEsC14
import Derived.Test.YtiofnmmggblcgaaEsC15
set_option linter.unusedVariables false
set_option linter.unusedSimpArgs false
section
namespace Go.Nt
theorem P_pos:(0:Int)<(P256:Int):=by decide
def toN (f:Fp):Nat:=Quotient.lift (fun a:Int=>(a % (P256:Int)).toNat) (fun a b (h:eqm a b)=>by show (a % (P256:Int)).toNat=(b % (P256:Int)).toNat; rw [show a % (P256:Int)=b % (P256:Int) from h]) f
theorem toN_mk (a:Int):toN (mk a)=(a % (P256:Int)).toNat:=rfl
theorem toN_nat (n:Nat):toN (mk (n:Int))=n % P256:=by rw [toN_mk]; omega
theorem toN_lt (f:Fp):toN f<P256:=by
 obtain ⟨a,rfl⟩:=mk_ex f
 rw [toN_mk]
 have h1:=Int.emod_nonneg a (show (P256:Int) ≠ 0 by decide)
 have h2:=Int.emod_lt_of_pos a P_pos
 omega
theorem mk_toN (f:Fp):mk (toN f:Int)=f:=by
 obtain ⟨a,rfl⟩:=mk_ex f
 rw [toN_mk]
 have h1:=Int.emod_nonneg a (show (P256:Int) ≠ 0 by decide)
 refine mk_eq.2 ?_
 rw [Int.toNat_of_nonneg h1]
 exact Int.emod_emod_of_dvd a (Int.dvd_refl _)
theorem toN_inj {f g:Fp} (h:toN f=toN g):f=g:=by rw [← mk_toN f, ← mk_toN g,h]
theorem toN_add (f g:Fp):toN (f+g)=(toN f+toN g) % P256:=by
 rw [← toN_nat]
 conv=>lhs; rw [← mk_toN f, ← mk_toN g,mk_add]
 rfl
theorem toN_mul (f g:Fp):toN (f * g)=toN f * toN g % P256:=by
 rw [← toN_nat]
 conv=>lhs; rw [← mk_toN f, ← mk_toN g,mk_mul]
 rfl
theorem toN_sub (f g:Fp):toN (f - g)=(toN f+(P256 - toN g)) % P256:=by
 rw [← toN_nat]
 refine congrArg toN ?_
 conv=>lhs; rw [← mk_toN f, ← mk_toN g,mk_sub]
 refine mk_eq.2 ?_
 have:=toN_lt g
 show ((toN f:Int) - toN g) % (P256:Int)=(((toN f+(P256 - toN g):Nat)):Int) % (P256:Int)
 rw [show (((toN f+(P256 - toN g):Nat)):Int)=((toN f:Int) - toN g)+P256 by omega,Int.add_emod_right]
theorem toN_0:toN 0=0:=rfl
theorem invF_neg {d:Fp} (hd:d ≠ 0):invF (-d) = - invF d:=by
 have hd' : -d ≠ 0:=fun h=>hd (by grind)
 have h1:=invF_mul hd
 have h2:=invF_mul hd'
 refine F_cancel hd ?_
 grind
theorem ptF_comm {x1 y1 x2 y2:Fp} (h:x2 - x1 ≠ 0):ptF x1 y1 x2 (y2 - y1) (x2 - x1)=ptF x2 y2 x1 (y1 - y2) (x1 - x2):=by
 have e:x1 - x2 = -(x2 - x1):=by grind
 unfold ptF
 rw [e,invF_neg h]
 have h1:=invF_mul h
 generalize invF (x2 - x1)=i at h1
 refine Prod.ext ?_ ?_ <;> dsimp only <;> grind
theorem sum_comm (p q:Pt):sumF p q=sumF q p:=by
 cases p with
 | none=>cases q <;> rfl
 | some p=>cases q with
  | none=>rfl
  | some q =>
   by_cases hx:p.1=q.1
   ·by_cases hy:p.2=q.2
    ·have:p=q:=Prod.ext hx hy
     subst this; rfl
    ·rw [show sumF (some p) (some q)=none from (if_pos hx).trans (if_neg hy),show sumF (some q) (some p)=none from (if_pos hx.symm).trans (if_neg (Ne.symm hy))]
   ·rw [show sumF (some p) (some q)=_ from if_neg hx,show sumF (some q) (some p)=_ from if_neg (Ne.symm hx)]
    rw [ptF_comm (fun h=>hx (by grind))]
def negP:Pt → Pt
 | none=>none
 | some p=>some (p.1, -p.2)
theorem neg_ok {p:Pt} (h:okP p):okP (negP p):=by
 cases p with
 | none=>trivial
 | some p=>show onF p.1 (-p.2); have:onF p.1 p.2:=h; unfold onF at *; grind
theorem y_ne {x y:Fp} (h:onF x y):y ≠ -y:=fun e=>dbl_ne (onF_y h) (by grind)
theorem sum_neg {p:Pt} (h:okP p):sumF p (negP p)=none:=by
 cases p with
 | none=>rfl
 | some p=>exact (if_pos rfl).trans (if_neg (y_ne h))
theorem dbl_none {p:Pt} (h:sumF p p=none):p=none:=by
 cases p with
 | none=>rfl
 | some p=>rw [show sumF (some p) (some p)=_ from (if_pos rfl).trans (if_pos rfl)] at h; cases h
theorem y_pm {x y1 y2:Fp} (h1:onF x y1) (h2:onF x y2) (hne:y1 ≠ y2):y2 = -y1:=by
 have:(y1 - y2) * (y1+y2)=0:=by unfold onF at h1 h2; grind
 rcases F_mul0 this with c | c
 ·exact absurd (by grind) hne
 ·grind
theorem neg_uniq {p q:Pt} (hp:okP p) (hq:okP q) (h:sumF p q=none):q=negP p:=by
 cases p with
 | none=>exact h
 | some p=>cases q with
  | none=>cases h
  | some q =>
   by_cases hx:p.1=q.1
   ·by_cases hy:p.2=q.2
    ·rw [show sumF (some p) (some q)=_ from (if_pos hx).trans (if_pos hy)] at h; cases h
    ·obtain ⟨x1,y1⟩:=p
     obtain ⟨x2,y2⟩:=q
     dsimp only at hx hy
     subst hx
     have e:y2 = -y1:=y_pm (x:=x1) (y1:=y1) (y2:=y2) hp hq hy
     rw [e]; rfl
   ·rw [show sumF (some p) (some q)=_ from if_neg hx] at h; cases h
theorem x_eq {p q:Fp × Fp} (hp:okP (some p)) (hq:okP (some q)) (h:p.1=q.1):some q=some p ∨ some q=negP (some p):=by
 obtain ⟨x1,y1⟩:=p
 obtain ⟨x2,y2⟩:=q
 dsimp only at h
 subst h
 by_cases hy:y1=y2
 ·subst hy; exact .inl rfl
 ·right
  have e:y2 = -y1:=y_pm (x:=x1) (y1:=y1) (y2:=y2) hp hq hy
  rw [e]; rfl
theorem as_G {p q:Pt} (hp:okP p) (hq:okP q) : ∀ b,sumF (sumF p q) (sG b)=sumF p (sumF q (sG b))
 | 0=>by rw [show sG 0=none from rfl,sum_none,sum_none]
 | b+1=>by
  show sumF (sumF p q) (sumF (sG b) gP)=sumF p (sumF q (sumF (sG b) gP))
  rw [← sum_as _ _ (sum_ok hp hq) (sG_ok b),as_G hp hq b,sum_as _ _ hp (sum_ok hq (sG_ok b)),sum_as _ _ hq (sG_ok b)]
theorem sG_mul0 {i:Nat} (h:sG i=none) : ∀ u,sG (u * i)=none
 | 0=>by rw [Nat.zero_mul]; rfl
 | u+1=>by rw [Nat.succ_mul, ← sG_add,sG_mul0 h u,h]; rfl
theorem sG_none {i:Nat} (h:sG i=none):i % N256=0:=by
 by_cases h0:i % N256=0
 ·exact h0
 ·exfalso
  have hnd : ¬ N256 ∣ i:=fun hd=>h0 (Nat.mod_eq_zero_of_dvd hd)
  have hf:=fermat2 pr_N hnd
  have e:i ^ (N256 - 1)=i ^ (N256 - 2) * i:=by
   rw [← Nat.pow_succ]
   exact congrArg (fun z=>i ^ z) (by decide)
  rw [e] at hf
  have h1:=sG_mul0 h (i ^ (N256 - 2))
  rw [sG_mod,hf] at h1
  cases h1
theorem sG_inj {i j:Nat} (hi:i<N256) (hj:j<N256) (h:sG i=sG j):i=j:=by
 have h1:sG (j+(N256 - i))=none:=by
  rw [← sG_add, ← h,sG_add,show i+(N256 - i)=N256 by omega,sG_ord]
 have:=sG_none h1
 by_cases hij:i≤j
 ·rw [show j+(N256 - i)=(j - i)+N256 by omega,Nat.add_mod_right,Nat.mod_eq_of_lt (by omega)] at this
  omega
 ·rw [Nat.mod_eq_of_lt (by omega)] at this
  omega
theorem neg_sG {a:Nat} (h:a≤N256):negP (sG a)=sG (N256 - a) :=
 (neg_uniq (sG_ok a) (sG_ok _) (by rw [sG_add,show a+(N256 - a)=N256 by omega,sG_ord])).symm
theorem php : ∀ (p n:Nat) (f:Nat → Nat),(∀ i,i<n → f i<p) → (∀ i j,i<n → j<n → f i=f j → i=j) → n≤p
 | 0,n,f,hf,_=>by
  by_cases h:n=0
  ·omega
  ·have:=hf 0 (by omega); omega
 | p+1,n,f,hf,hi=>by
  by_cases h : ∃ i,i<n∧f i=p
  ·obtain ⟨i0,h0,e0⟩:=h
   have:=php p (n - 1) (fun j=>f (if j<i0 then j else j+1)) (fun j hj=>by
     have h1:(if j<i0 then j else j+1)<n:=by split <;> omega
     have h2:=hf _ h1
     have h3:f (if j<i0 then j else j+1) ≠ p:=fun e=>by
      have:=hi _ _ h1 h0 (e.trans e0.symm)
      split at this <;> omega
     show f _<p
     omega) (fun j k hj hk e=>by
     have h1:(if j<i0 then j else j+1)<n:=by split <;> omega
     have h2:(if k<i0 then k else k+1)<n:=by split <;> omega
     have:=hi _ _ h1 h2 e
     split at this <;> split at this <;> omega)
   omega
  ·have:=php p n f (fun i hin=>by
     have h1:=hf i hin
     have h2:f i ≠ p:=fun e=>h ⟨i,hin,e⟩
     omega) hi
   omega
def xP:Pt → Nat
 | none=>0
 | some p=>toN p.1
theorem xP_lt (p:Pt):xP p<P256:=by
 cases p with
 | none=>decide
 | some p=>exact toN_lt p.1
theorem x_pm {p q:Pt} (hp:okP p) (hq:okP q) (np:p ≠ none) (nq:q ≠ none) (h:xP p=xP q):q=p ∨ q=negP p:=by
 cases p with
 | none=>exact absurd rfl np
 | some p=>cases q with
  | none=>exact absurd rfl nq
  | some q=>exact x_eq hp hq (toN_inj h)
theorem span {P:Pt} (hP:okP P) : ∃ a,a<N256∧P=sG a:=by
 refine Classical.byContradiction fun hno=>?_
 have out : ∀ a,P ≠ sG a:=fun a h=>hno ⟨a % N256,Nat.mod_lt _ (by decide),by rw [h]; exact sG_mod a⟩
 have okS : ∀ i,okP (sumF P (sG i)):=fun i=>sum_ok hP (sG_ok i)
 have back : ∀ i a,i≤N256 → sumF P (sG i) ≠ sG a:=fun i a hi h=>by
  have:=as_G hP (sG_ok i) (N256 - i)
  rw [h,sG_add,sG_add,show i+(N256 - i)=N256 by omega,sG_ord,sum_none] at this
  exact out _ this.symm
 have caseA : ∀ a,sumF P (sG a) ≠ negP P:=fun a h=>by
  obtain ⟨c,hc⟩ : ∃ c,sG a=sG (c+c):=by
   by_cases h2:a % 2=0
   ·exact ⟨a / 2,by rw [show a / 2+a / 2=a by omega]⟩
   ·refine ⟨(a+N256) / 2,?_⟩
    have:N256 % 2=1:=by decide
    rw [show (a+N256) / 2+(a+N256) / 2=a+N256 by omega, ← sG_add,sG_ord,sum_none]
  have hX:=okS c
  have e:sumF (sumF P (sG c)) (sumF P (sG c))=none:=by
   have e1:=as_G hX hP c
   rw [← e1,sum_comm (sumF P (sG c)) P]
   have e2:=as_G hP hX c
   rw [e2,as_G hP (sG_ok c) c,sG_add, ← hc,h,sum_neg hP]
  have h0:=dbl_none e
  have hc2:sumF P (sG (c % N256))=none:=by rw [← sG_mod]; exact h0
  exact back (c % N256) 0 (Nat.le_of_lt (Nat.mod_lt _ (by decide))) hc2
 have hlt:P256<N256+(N256 - 1) / 2:=by decide
 have:=php P256 (N256+(N256 - 1) / 2) (fun i=>if i<N256 then xP (sumF P (sG i)) else xP (sG (i - N256+1))) (fun i _=>by
   split <;> exact xP_lt _) (fun i j hi hj h=>by
   have nS : ∀ i,i<N256 → sumF P (sG i) ≠ none:=fun i hi=>back i 0 (Nat.le_of_lt hi)
   have nG : ∀ k,k<(N256 - 1) / 2 → sG (k+1) ≠ none:=fun k hk h=>by
    have:=sG_none h
    rw [Nat.mod_eq_of_lt (by omega)] at this
    omega
   have mixed : ∀ i k,i<N256 → k<(N256 - 1) / 2 → xP (sumF P (sG i)) ≠ xP (sG (k+1)):=fun i k hi hk h=>by
    rcases x_pm (sG_ok _) (okS i) (nG k hk) (nS i hi) h.symm with h1 | h1
    ·exact back i _ (Nat.le_of_lt hi) h1
    ·rw [neg_sG (by omega)] at h1
     exact back i _ (Nat.le_of_lt hi) h1
   by_cases h1:i<N256
   ·rw [if_pos h1] at h
    by_cases h2:j<N256
    ·rw [if_pos h2] at h
     rcases x_pm (okS i) (okS j) (nS i h1) (nS j h2) h with h3 | h3
     ·have e1:=as_G (neg_ok hP) hP i
      have e2:=as_G (neg_ok hP) hP j
      rw [← h3, ← e2,sum_comm (negP P) P,sum_neg hP] at e1
      exact sG_inj h1 h2 e1
     ·exfalso
      have e:sumF (sumF P (sG i)) (sumF P (sG j))=none:=by rw [h3]; exact sum_neg (okS i)
      rw [← as_G (okS i) hP j,sum_comm (sumF P (sG i)) P,as_G hP (okS i) j,as_G hP (sG_ok i) j,sG_add] at e
      exact caseA _ (neg_uniq hP (okS _) e)
    ·rw [if_neg h2] at h
     exact absurd h (mixed i _ h1 (by omega))
   ·rw [if_neg h1] at h
    by_cases h2:j<N256
    ·rw [if_pos h2] at h
     exact absurd h.symm (mixed j _ h2 (by omega))
    ·rw [if_neg h2] at h
     have hN:N256 % 2=1:=by decide
     have n1:=nG (i - N256) (by omega)
     have n2:=nG (j - N256) (by omega)
     obtain ⟨a,ha⟩ : ∃ a,a=i - N256+1:=⟨_,rfl⟩
     obtain ⟨b,hb⟩ : ∃ b,b=j - N256+1:=⟨_,rfl⟩
     rw [← ha] at h n1
     rw [← hb] at h n2
     rcases x_pm (sG_ok a) (sG_ok b) n1 n2 h with h3 | h3
     ·have:=sG_inj (by omega) (by omega) h3
      omega
     ·exfalso
      have e:sG (a+b)=none:=by rw [← sG_add,h3]; exact sum_neg (sG_ok a)
      have:=sG_none e
      rw [Nat.mod_eq_of_lt (by omega)] at this
      omega)
 exact absurd hlt (Nat.not_lt.2 this)
end Go.Nt
end

section
namespace Go.Nt
def isJ (t:F3) (p:Pt):Prop:=match p with
 | none=>t.2.2=0
 | some q=>t.2.2 ≠ 0∧t.1=q.1 * (t.2.2 * t.2.2)∧t.2.1=q.2 * (t.2.2 * (t.2.2 * t.2.2))
def aF (X Z:Fp):Fp:=(X - Z * Z) * (X+Z * Z)+((X - Z * Z) * (X+Z * Z)+(X - Z * Z) * (X+Z * Z))
def bF (X Y:Fp):Fp:=X * (Y * Y)
def b4F (X Y:Fp):Fp:=(bF X Y+bF X Y)+(bF X Y+bF X Y)
def g8F (Y:Fp):Fp:=((Y * Y * (Y * Y)+Y * Y * (Y * Y))+(Y * Y * (Y * Y)+Y * Y * (Y * Y)))+((Y * Y * (Y * Y)+Y * Y * (Y * Y))+(Y * Y * (Y * Y)+Y * Y * (Y * Y)))
def dX (X Y Z:Fp):Fp:=aF X Z * aF X Z - (b4F X Y+b4F X Y)
def jDbl (t:F3):F3:=(dX t.1 t.2.1 t.2.2,aF t.1 t.2.2 * (b4F t.1 t.2.1 - dX t.1 t.2.1 t.2.2) - g8F t.2.1,t.2.1 * t.2.2+t.2.1 * t.2.2)
theorem isJ_dbl {t:F3} {p:Pt} (hp:okP p) (h:isJ t p):isJ (jDbl t) (sumF p p):=by
 obtain ⟨X,Y,Z⟩:=t
 cases p with
 | none =>
  have hz:Z=0:=h
  show Y * Z+Y * Z=0
  rw [hz]; grind
 | some q =>
  obtain ⟨x,y⟩:=q
  have ho:onF x y:=hp
  obtain ⟨hz,hX,hY⟩:=h
  dsimp only at hz hX hY
  have hd:=dbl_ne (onF_y ho)
  rw [show sumF (some (x,y)) (some (x,y))=some (ptF x y x (tF x) (y+y)) from (if_pos rfl).trans (if_pos rfl)]
  have hi:=invF_mul hd
  unfold isJ ptF jDbl dX b4F bF aF g8F
  dsimp only
  generalize invF (y+y)=e at hi
  have ht:tF x=3 * (x * x) - 3:=by unfold tF; grind
  rw [ht]
  have hl:(y+y) * ((3 * (x * x) - 3) * e)=3 * (x * x) - 3:=by grind
  generalize (3 * (x * x) - 3) * e=l at hl
  clear hi
  subst hX hY
  have hzz:=F_ne hz (F_ne hz hz)
  refine ⟨?_,?_,?_⟩
  ·have:y * (Z * (Z * Z)) * Z+y * (Z * (Z * Z)) * Z=(y+y) * (Z * (Z * (Z * Z))):=by grind
   rw [this]
   exact F_ne hd (F_ne hz hzz)
  ·have e1:(x * (Z * Z) - Z * Z) * (x * (Z * Z)+Z * Z)+((x * (Z * Z) - Z * Z) * (x * (Z * Z)+Z * Z)+(x * (Z * Z) - Z * Z) * (x * (Z * Z)+Z * Z))=(y+y) * l * (Z * Z * (Z * Z)):=by rw [hl]; grind
   rw [e1]
   clear e1 hl
   grind
  ·have e1:(x * (Z * Z) - Z * Z) * (x * (Z * Z)+Z * Z)+((x * (Z * Z) - Z * Z) * (x * (Z * Z)+Z * Z)+(x * (Z * Z) - Z * Z) * (x * (Z * Z)+Z * Z))=(y+y) * l * (Z * Z * (Z * Z)):=by rw [hl]; grind
   rw [e1]
   clear e1 hl
   grind
open Classical in
noncomputable def jAdd (t u:F3):F3 :=
 if t.2.2=0 then u else if u.2.2=0 then t else
  let U:=t.1 * (u.2.2 * u.2.2); let V:=u.1 * (t.2.2 * t.2.2)
  let S:=t.2.1 * (u.2.2 * (u.2.2 * u.2.2)); let T:=u.2.1 * (t.2.2 * (t.2.2 * t.2.2))
  let H:=V - U; let R:=T - S
  if H=0 then (if R=0 then jDbl t else (0,0,0)) else
   let X:=R * R - H * (H * H) - (U * (H * H)+U * (H * H))
   (X,R * (U * (H * H) - X) - S * (H * (H * H)),H * (t.2.2 * u.2.2))
theorem isJ_add {t u:F3} {p q:Pt} (hp:okP p) (hq:okP q) (ht:isJ t p) (hu:isJ u q):isJ (jAdd t u) (sumF p q):=by
 obtain ⟨X1,Y1,Z1⟩:=t
 obtain ⟨X2,Y2,Z2⟩:=u
 cases p with
 | none =>
  have hz:Z1=0:=ht
  have e:jAdd (X1,Y1,Z1) (X2,Y2,Z2)=(X2,Y2,Z2):=if_pos hz
  rw [e]; exact hu
 | some p =>
  cases q with
  | none =>
   have hz1:Z1 ≠ 0:=ht.1
   have hz:Z2=0:=hu
   have e:jAdd (X1,Y1,Z1) (X2,Y2,Z2)=(X1,Y1,Z1):=(if_neg hz1).trans (if_pos hz)
   rw [e]; exact ht
  | some q =>
   obtain ⟨x1,y1⟩:=p
   obtain ⟨x2,y2⟩:=q
   have h2:=ht
   obtain ⟨hz1,hX1,hY1⟩:=ht
   obtain ⟨hz2,hX2,hY2⟩:=hu
   dsimp only at hz1 hX1 hY1 hz2 hX2 hY2
   have hzz:Z1 * Z2 ≠ 0:=F_ne hz1 hz2
   have eH:X2 * (Z1 * Z1) - X1 * (Z2 * Z2)=(x2 - x1) * (Z1 * Z2 * (Z1 * Z2)):=by subst hX1 hX2; grind
   have eR:Y2 * (Z1 * (Z1 * Z1)) - Y1 * (Z2 * (Z2 * Z2))=(y2 - y1) * (Z1 * Z2 * (Z1 * Z2 * (Z1 * Z2))):=by subst hY1 hY2; grind
   unfold jAdd
   rw [if_neg hz1,if_neg hz2]
   dsimp only
   rw [eH,eR]
   by_cases hx:x1=x2
   ·have hH:(x2 - x1) * (Z1 * Z2 * (Z1 * Z2))=0:=by rw [hx]; grind
    rw [if_pos hH]
    by_cases hy:y1=y2
    ·have hR:(y2 - y1) * (Z1 * Z2 * (Z1 * Z2 * (Z1 * Z2)))=0:=by rw [hy]; grind
     rw [if_pos hR]
     have:(x1,y1)=(x2,y2):=Prod.ext hx hy
     rw [← this]
     exact isJ_dbl hp h2
    ·have hR:(y2 - y1) * (Z1 * Z2 * (Z1 * Z2 * (Z1 * Z2))) ≠ 0:=F_ne (fun h=>hy (by grind)) (F_ne hzz (F_ne hzz hzz))
     rw [if_neg hR,show sumF (some (x1,y1)) (some (x2,y2))=none from (if_pos hx).trans (if_neg hy)]
     rfl
   ·have hd:x2 - x1 ≠ 0:=fun h=>hx (by grind)
    have hH:(x2 - x1) * (Z1 * Z2 * (Z1 * Z2)) ≠ 0:=F_ne hd (F_ne hzz hzz)
    rw [if_neg hH,show sumF (some (x1,y1)) (some (x2,y2))=some (ptF x1 y1 x2 (y2 - y1) (x2 - x1)) from if_neg hx]
    have hi:=invF_mul hd
    unfold isJ ptF
    dsimp only
    generalize invF (x2 - x1)=e at hi
    have hl:(x2 - x1) * ((y2 - y1) * e)=y2 - y1:=by grind
    generalize (y2 - y1) * e=l at hl
    rw [← hl]
    have hx2:x2=x1+(x2 - x1):=by grind
    generalize x2 - x1=d at *
    clear hi hl eH eR hY2 hX2 h2 hq hp
    subst hX1 hY1
    subst hx2
    refine ⟨F_ne (F_ne hd (F_ne hzz hzz)) hzz,?_,?_⟩
    ·grind
    ·grind
end Go.Nt
end

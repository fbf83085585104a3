/-
  Part 15 of the proof of what several laws share.
-/
import Derived.Test.YtiofnmmggblcgaaEsC10
import Derived.Test.YtiofnmmggblcgaaEsC13
import Derived.Test.YtiofnmmggblcgaaEsC14
set_option linter.unusedVariables false
set_option linter.unusedSimpArgs false
section
namespace Go.Nt
theorem eqm_add_mul (a b:Int):eqm (a+(P256:Int) * b) a:=by
 unfold eqm; exact Int.add_mul_emod_self_left a _ b
theorem P1_cast:(((P256 - 1:Nat)):Int)=(P256:Int) - 1:=by
 have:1≤P256:=by decide
 omega
theorem ng_eqm (b:Int):eqm (ng rI kI b) (-b):=by
 have:ng rI kI b = -b+(P256:Int) * b:=by
  show (((P256 - 1:Nat)):Int) * b=_
  rw [P1_cast,Int.sub_mul,Int.one_mul]; omega
 rw [this]; exact eqm_add_mul _ _
theorem sI_eqm (a b:Int):eqm (sb rI kI a b) (a - b):=by
 have:=(eqm.refl a).add (ng_eqm b)
 rw [← Int.sub_eq_add_neg] at this
 exact this
theorem eqm.neg {a b:Int} (h:eqm a b):eqm (-a) (-b):=by
 have:=(eqm.refl (-1)).mul h
 rwa [Int.neg_one_mul,Int.neg_one_mul] at this
theorem eqm.sub {a b c d:Int} (h:eqm a b) (k:eqm c d):eqm (a - c) (b - d):=by
 rw [Int.sub_eq_add_neg,Int.sub_eq_add_neg]; exact h.add k.neg
theorem eqm_sub0 {a b:Int}:eqm (a - b) 0 ↔ eqm a b:=by
 constructor
 ·intro h
  have:=h.add (eqm.refl b)
  rwa [Int.sub_add_cancel,Int.zero_add] at this
 ·intro h
  have:=h.sub (eqm.refl b)
  rwa [Int.sub_self] at this
theorem eqm_dvd {a:Int}:eqm a 0 ↔ P256 ∣ a.natAbs:=by
 unfold eqm
 rw [Int.zero_emod]
 constructor
 ·intro h
  have:=Int.dvd_of_emod_eq_zero h
  have:=Int.natAbs_dvd_natAbs.2 this
  rwa [Int.natAbs_natCast] at this
 ·intro h
  refine Int.emod_eq_zero_of_dvd (Int.natAbs_dvd_natAbs.1 ?_)
  rwa [Int.natAbs_natCast]
theorem eqm_mul0 {a b:Int} (h:eqm (a * b) 0):eqm a 0 ∨ eqm b 0:=by
 rw [eqm_dvd,Int.natAbs_mul] at h
 rcases pr_P.dvd_mul h with h | h
 ·exact .inl (eqm_dvd.2 h)
 ·exact .inr (eqm_dvd.2 h)
theorem inv_ex {p:Nat} (hp:Pr p) {n:Nat} (h : ¬ p ∣ n) : ∃ b,n * b % p=1:=by
 refine ⟨n ^ (p - 2),?_⟩
 have:=fermat2 hp h
 have h1:=hp.1
 have e:p - 1=(p - 2)+1:=by omega
 rw [e,Nat.pow_succ,Nat.mul_comm] at this
 exact this
theorem nat_of (a:Int) : ∃ n:Nat,n<P256∧eqm (n:Int) a:=by
 have hp:(0:Int)<(P256:Int):=by have:0<P256:=(by decide); omega
 refine ⟨(a % (P256:Int)).toNat,?_,?_⟩
 ·have h1:=Int.emod_nonneg a (by omega:(P256:Int) ≠ 0)
  have h2:=Int.emod_lt_of_pos a hp
  omega
 ·unfold eqm
  rw [Int.toNat_of_nonneg (Int.emod_nonneg a (by omega)),Int.emod_emod]
theorem eqm_inv {a:Int} (h : ¬ eqm a 0) : ∃ b,eqm (a * b) 1:=by
 obtain ⟨n,hn,hna⟩:=nat_of a
 have h1 : ¬ P256 ∣ n:=fun hd=>h (hna.symm.trans (eqm_dvd.2 (by simpa using hd)))
 obtain ⟨b,hb⟩:=inv_ex pr_P h1
 refine ⟨(b:Int),(hna.symm.mul (.refl _)).trans ?_⟩
 unfold eqm
 rw [← Int.natCast_mul, ← Int.natCast_emod,hb]
 have:1<P256:=by decide
 have:(1:Int) % (P256:Int)=1:=Int.emod_eq_of_lt (by decide) (by omega)
 rw [this]; rfl
theorem one_ne : ¬ eqm 1 0:=fun h=>by
 rw [eqm_dvd] at h
 exact pr_P.not_one h
def cub (x:Int):Int:=(B256:Int)+x * (((P256 - 3:Nat):Int)+x * (0+x * (1+x * 0)))
abbrev Q3:=Nat × Nat × Nat
def NB:Nat:=P256 - B256
def mulQ (a b:Q3):Q3 :=
 ((a.1 * b.1+NB * ((a.2.1 * b.2.2+a.2.2 * b.2.1) % P256)) % P256,
  (a.1 * b.2.1+a.2.1 * b.1+3 * ((a.2.1 * b.2.2+a.2.2 * b.2.1) % P256)+NB * (a.2.2 * b.2.2 % P256)) % P256,
  (a.1 * b.2.2+a.2.1 * b.2.1+a.2.2 * b.1+3 * (a.2.2 * b.2.2 % P256)) % P256)
def evQ (x:Int) (a:Q3):Int:=(a.1:Int)+(a.2.1:Int) * x+(a.2.2:Int) * (x * x)
def powQ:Nat → Q3 → Nat → Q3
 | 0,_,_=>(1,0,0)
 | f+1,a,e=>if e=0 then (1,0,0) else if e % 2=1 then mulQ a (powQ f (mulQ a a) (e / 2)) else powQ f (mulQ a a) (e / 2)
theorem cub_eq (x:Int):eqm (cub x) (x * (x * x) - 3 * x+B256):=by
 have:cub x=(x * (x * x) - 3 * x+B256)+(P256:Int) * x:=by
  unfold cub
  have h3:3≤P256:=by decide
  have:(((P256 - 3:Nat)):Int)=(P256:Int) - 3:=by omega
  rw [this,Int.mul_zero,Int.add_zero,Int.mul_one,Int.zero_add,Int.mul_add,Int.mul_sub,Int.mul_comm x (P256:Int),Int.mul_comm x 3]
  omega
 rw [this]; exact eqm_add_mul _ _
theorem NB_eqm:eqm (NB:Int) (-(B256:Int)):=by
 have:(NB:Int) = -(B256:Int)+(P256:Int) * 1:=by
  have:B256≤P256:=by decide
  unfold NB; omega
 rw [this]; exact eqm_add_mul _ _
theorem mulQ_ev {x:Int} (hx:eqm (cub x) 0) (a b:Q3):eqm (evQ x (mulQ a b)) (evQ x a * evQ x b):=by
 obtain ⟨a0,a1,a2⟩:=a
 obtain ⟨b0,b1,b2⟩:=b
 have h3:eqm (x * (x * x)) (3 * x - B256):=by
  have h:=(cub_eq x).symm.trans hx
  have:=h.add (eqm.refl (3 * x - B256))
  have e:x * (x * x) - 3 * x+B256+(3 * x - B256)=x * (x * x):=by omega
  rwa [e,Int.zero_add] at this
 have h4:eqm (x * (x * (x * x))) (3 * (x * x) - B256 * x):=by
  have:=(eqm.refl x).mul h3
  have e:x * (3 * x - B256)=3 * (x * x) - B256 * x:=by rw [Int.mul_sub,Int.mul_left_comm,Int.mul_comm x (B256:Int)]
  rwa [e] at this
 generalize hd3:a1 * b2+a2 * b1=d3
 generalize hd4:a2 * b2=d4
 have c0:eqm (((a0 * b0+NB * (d3 % P256)) % P256:Nat):Int) (a0 * b0 - B256 * d3):=by
  refine (eqm_nat _).trans ?_
  rw [Int.natCast_add,Int.natCast_mul,Int.natCast_mul,Int.sub_eq_add_neg, ← Int.neg_mul]
  exact (eqm.refl _).add (NB_eqm.mul (eqm_nat d3))
 have c1:eqm (((a0 * b1+a1 * b0+3 * (d3 % P256)+NB * (d4 % P256)) % P256:Nat):Int) (a0 * b1+a1 * b0+3 * d3 - B256 * d4):=by
  refine (eqm_nat _).trans ?_
  rw [Int.natCast_add,Int.natCast_add,Int.natCast_add,Int.natCast_mul,Int.natCast_mul,Int.natCast_mul,Int.natCast_mul,Int.sub_eq_add_neg, ← Int.neg_mul]
  exact ((eqm.refl _).add ((eqm.refl 3).mul (eqm_nat d3))).add (NB_eqm.mul (eqm_nat d4))
 have c2:eqm (((a0 * b2+a1 * b1+a2 * b0+3 * (d4 % P256)) % P256:Nat):Int) (a0 * b2+a1 * b1+a2 * b0+3 * d4):=by
  refine (eqm_nat _).trans ?_
  rw [Int.natCast_add,Int.natCast_add,Int.natCast_add,Int.natCast_mul,Int.natCast_mul,Int.natCast_mul,Int.natCast_mul]
  exact (eqm.refl _).add ((eqm.refl 3).mul (eqm_nat d4))
 have hm:mulQ (a0,a1,a2) (b0,b1,b2)=((a0 * b0+NB * (d3 % P256)) % P256,(a0 * b1+a1 * b0+3 * (d3 % P256)+NB * (d4 % P256)) % P256,(a0 * b2+a1 * b1+a2 * b0+3 * (d4 % P256)) % P256):=by
  unfold mulQ; simp only [hd3,hd4]
 rw [hm]
 refine ((c0.add (c1.mul (.refl x))).add (c2.mul (.refl (x * x)))).trans ?_
 have e1:((a0:Int) * b0 - B256 * d3)+(a0 * b1+a1 * b0+3 * d3 - B256 * d4) * x+(a0 * b2+a1 * b1+a2 * b0+3 * d4) * (x * x)
   = (a0 * b0+(a0 * b1+a1 * b0) * x+(a0 * b2+a1 * b1+a2 * b0) * (x * x))+d3 * (3 * x - B256)+d4 * (3 * (x * x) - B256 * x):=by grind
 rw [e1]
 refine (((eqm.refl _).add ((eqm.refl (d3:Int)).mul h3.symm)).add ((eqm.refl (d4:Int)).mul h4.symm)).trans ?_
 have e2:((a0:Int) * b0+(a0 * b1+a1 * b0) * x+(a0 * b2+a1 * b1+a2 * b0) * (x * x))+d3 * (x * (x * x))+d4 * (x * (x * (x * x)))=evQ x (a0,a1,a2) * evQ x (b0,b1,b2):=by
  unfold evQ
  have:(d3:Int)=a1 * b2+a2 * b1:=by rw [← hd3]; simp
  have:(d4:Int)=a2 * b2:=by rw [← hd4]; simp
  grind
 rw [e2]; exact .refl _
theorem one_evQ (x:Int):evQ x (1,0,0)=1:=by simp [evQ]
theorem powQ_ev {x:Int} (hx:eqm (cub x) 0) : ∀ f a e,e<2 ^ f → eqm (evQ x (powQ f a e)) (evQ x a ^ e)
 | 0,a,e,h=>by
  have:e=0:=by rw [Nat.pow_zero] at h; omega
  subst this
  rw [Int.pow_zero]; exact one_evQ x ▸ .refl _
 | f+1,a,e,h=>by
  unfold powQ
  by_cases h0:e=0
  ·rw [if_pos h0,h0,one_evQ,Int.pow_zero]; exact .refl _
  rw [if_neg h0]
  have ih:=powQ_ev hx f (mulQ a a) (e / 2) (by rw [Nat.pow_succ] at h; omega)
  have hsq : ∀ n:Nat,eqm (evQ x (mulQ a a) ^ n) ((evQ x a * evQ x a) ^ n):=fun n=>by
   induction n with
   | zero=>rw [Int.pow_zero,Int.pow_zero]; exact .refl _
   | succ n ihn=>rw [Int.pow_succ,Int.pow_succ]; exact ihn.mul (mulQ_ev hx a a)
  have h2:(evQ x a * evQ x a) ^ (e / 2)=evQ x a ^ (2 * (e / 2)):=by
   rw [Int.pow_mul]
   congr 1
   rw [Int.pow_succ,Int.pow_succ,Int.pow_zero,Int.one_mul]
  have ih2:=ih.trans (hsq _)
  rw [h2] at ih2
  by_cases h1:e % 2=1
  ·rw [if_pos h1]
   have e3:evQ x a * evQ x a ^ (2 * (e / 2))=evQ x a ^ e:=by
    rw [Int.mul_comm, ← Int.pow_succ]
    congr 1; omega
   exact e3 ▸ (mulQ_ev hx a _).trans ((eqm.refl _).mul ih2)
  ·rw [if_neg h1]
   have e3:2 * (e / 2)=e:=by omega
   rwa [e3] at ih2
def rootU:R1:=[107286402702237026811154678719514266289498743974321057492273529440068429825344,6389611969556882025875921584714237703390037729321797349080302270353162149340]
def rootV:R1:=[76626890310466861426869089647039036757962535851890885406097439786770458211455,74462945259064871768191128030512052509059297803194871526163573358218695456204,34768139465301476436978405170953382516735956999154666452188405812258086013549]
def rootG:Q3:=(66434390973925144466073271287821796038003695194169110494110089305650096453661,12402202686218762177567235911775779164004716598278868847786114277539554646092,24678849118215552148312087830792888746041224110560601850711771001608500700145)
theorem root_pow:powQ 256 (0,1,0) P256=rootG:=by decide +kernel
theorem root_bez:r1.add (r1.add (r1.mul rootU [B256,P256 - 3,0,1]) (r1.mul rootV [rootG.1,rootG.2.1+(P256 - 1),rootG.2.2])) [P256 - 1]=[0,0,0,0,0]:=by decide +kernel
theorem no_root (x:Int) : ¬ eqm (cub x) 0:=fun hx=>by
 have h1:=powQ_ev hx 256 (0,1,0) P256 (by decide)
 rw [root_pow] at h1
 have hv:evQ x (0,1,0)=x:=by simp [evQ]
 rw [hv] at h1
 obtain ⟨n,hn,hnx⟩:=nat_of x
 have hpw : ∀ m:Nat,eqm ((n:Int) ^ m) (x ^ m):=fun m=>by
  induction m with
  | zero=>rw [Int.pow_zero,Int.pow_zero]; exact .refl _
  | succ m ih=>rw [Int.pow_succ,Int.pow_succ]; exact ih.mul hnx
 have hf:eqm ((n:Int) ^ P256) (n:Int):=by
  have:=fermat pr_P n
  unfold eqm
  rw [← Int.natCast_pow, ← Int.natCast_emod, ← Int.natCast_emod,this]
 have hg:eqm (evQ x rootG) x:=h1.trans ((hpw P256).symm.trans (hf.trans hnx))
 have s:=sndL sndN x
 have hb:=congrArg (lev (fun n:Nat=>(n:Int)) x) root_bez
 have hz:lev (fun n:Nat=>(n:Int)) x [0,0,0,0,0]=0:=by simp [lev]
 rw [hz] at hb
 have hF:lev (fun n:Nat=>(n:Int)) x [B256,P256 - 3,0,1]=cub x:=by unfold cub; simp [lev]
 have hG:eqm (lev (fun n:Nat=>(n:Int)) x [rootG.1,rootG.2.1+(P256 - 1),rootG.2.2]) 0:=by
  have e:lev (fun n:Nat=>(n:Int)) x [rootG.1,rootG.2.1+(P256 - 1),rootG.2.2]=(evQ x rootG - x)+(P256:Int) * x:=by
   simp only [lev,evQ,Int.natCast_add,P1_cast]
   grind
  rw [e]
  exact (eqm_add_mul _ _).trans (eqm_sub0.2 hg)
 have h2:=(s.add _ [P256 - 1]).trans (((s.add _ _).trans (((s.mul rootU _).trans ((eqm.refl _).mul (hF ▸ hx))).add ((s.mul rootV _).trans ((eqm.refl _).mul hG)))).add (.refl _))
 have h3:eqm 0 (lev (fun n:Nat=>(n:Int)) x rootU * 0+lev (fun n:Nat=>(n:Int)) x rootV * 0+lev (fun n:Nat=>(n:Int)) x [P256 - 1]):=by
  have:=h2
  rw [show lev (fun n:Nat=>(n:Int)) x ((rL rN).add ((rL rN).add ((rL rN).mul rootU [B256,P256 - 3,0,1]) ((rL rN).mul rootV [rootG.1,rootG.2.1+(P256 - 1),rootG.2.2])) [P256 - 1])=0 from hb] at this
  exact this
 have h4:lev (fun n:Nat=>(n:Int)) x [P256 - 1] = -1+(P256:Int) * 1:=by
  simp only [lev,P1_cast]; omega
 rw [h4,Int.mul_zero,Int.mul_zero,Int.zero_add,Int.zero_add] at h3
 have h5:=(h3.trans (eqm_add_mul (-1) 1)).neg
 simp only [Int.neg_zero,Int.neg_neg] at h5
 exact one_ne h5.symm
end Go.Nt
end

section
namespace Go.Nt
section
variable {α:Type} {r:Rg α} {ev:α → Int} {k:Nat → α} (h:Snd r ev) (hk : ∀ n,eqm (ev (k n)) (n:Int))
include h in
theorem R_add {a b:α} {x y:Int} (ha:eqm (ev a) x) (hb:eqm (ev b) y):eqm (ev (r.add a b)) (rI.add x y):=(h.add a b).trans (ha.add hb)
include h in
theorem R_mul {a b:α} {x y:Int} (ha:eqm (ev a) x) (hb:eqm (ev b) y):eqm (ev (r.mul a b)) (rI.mul x y):=(h.mul a b).trans (ha.mul hb)
include h hk
theorem R_ng {a:α} {x:Int} (ha:eqm (ev a) x):eqm (ev (ng r k a)) (ng rI kI x):=R_mul h (hk _) ha
theorem R_sb {a b:α} {x y:Int} (ha:eqm (ev a) x) (hb:eqm (ev b) y):eqm (ev (sb r k a b)) (sb rI kI x y):=R_add h ha (R_ng h hk hb)
theorem R_cU {a b c:α} {x y z:Int} (ha:eqm (ev a) x) (hb:eqm (ev b) y) (hc:eqm (ev c) z):eqm (ev (cU r k a b c)) (cU rI kI x y z):=R_add h hb (R_add h (R_mul h (hk _) ha) (R_ng h hk (R_mul h (hk _) hc)))
theorem R_cV {a b c:α} {x y z:Int} (ha:eqm (ev a) x) (hb:eqm (ev b) y) (hc:eqm (ev c) z):eqm (ev (cV r k a b c)) (cV rI kI x y z):=R_add h hb (R_add h (R_ng h hk (R_mul h (hk _) ha)) (R_mul h (hk _) hc))
theorem R_cW {a b c:α} {x y z:Int} (ha:eqm (ev a) x) (hb:eqm (ev b) y) (hc:eqm (ev c) z):eqm (ev (cW r k a b c)) (cW rI kI x y z):=R_add h (R_ng h hk (R_mul h (hk _) ha)) (R_add h (R_mul h (hk _) hb) (R_ng h hk (R_mul h (hk _) hc)))
theorem R_cT {a c:α} {x z:Int} (ha:eqm (ev a) x) (hc:eqm (ev c) z):eqm (ev (cT r k a c)) (cT rI kI x z):=R_add h (R_mul h (hk _) ha) (R_ng h hk (R_mul h (hk _) hc))
def R3v (ev:α → Int) (t:α × α × α) (v:Int × Int × Int):Prop:=eqm (ev t.1) v.1∧eqm (ev t.2.1) v.2.1∧eqm (ev t.2.2) v.2.2
theorem R_cAdd {p q:α × α × α} {p' q':Int × Int × Int} (hp:R3v ev p p') (hq:R3v ev q q'):R3v ev (cAdd r k p q) (cAdd rI kI p' q'):=by
 obtain ⟨a1,a2,a3⟩:=hp
 obtain ⟨b1,b2,b3⟩:=hq
 have xx:=R_mul h a1 b1
 have yy:=R_mul h a2 b2
 have zz:=R_mul h a3 b3
 have xy:=R_add h (R_mul h a1 b2) (R_mul h b1 a2)
 have yz:=R_add h (R_mul h a2 b3) (R_mul h b2 a3)
 have xz:=R_add h (R_mul h a1 b3) (R_mul h b1 a3)
 have u:=R_cU h hk xz yy zz
 have v:=R_cV h hk xz yy zz
 have w:=R_cW h hk xx xz zz
 have t:=R_cT h hk xx zz
 exact ⟨R_sb h hk (R_mul h xy u) (R_mul h yz w),R_add h (R_mul h t w) (R_mul h v u),R_add h (R_mul h yz v) (R_mul h xy t)⟩
theorem R_chX {a b c d:α} {x y n m:Int} (ha:eqm (ev a) x) (hb:eqm (ev b) y) (hc:eqm (ev c) n) (hd:eqm (ev d) m):eqm (ev (chX r k a b c d)) (chX rI kI x y n m):=R_sb h hk (R_mul h hc hc) (R_mul h (R_add h ha hb) (R_mul h hd hd))
theorem R_chY {a b c d e:α} {x y n m z:Int} (ha:eqm (ev a) x) (hb:eqm (ev b) y) (hc:eqm (ev c) n) (hd:eqm (ev d) m) (he:eqm (ev e) z):eqm (ev (chY r k a b c d e)) (chY rI kI x y n m z) :=
 R_sb h hk (R_mul h hc (R_sb h hk (R_mul h ha (R_mul h hd hd)) he)) (R_mul h hb (R_mul h hd (R_mul h hd hd)))
theorem R_onJ {a b c:α} {x y z:Int} (ha:eqm (ev a) x) (hb:eqm (ev b) y) (hc:eqm (ev c) z):eqm (ev (onJ r k a b c)) (onJ rI kI x y z) :=
 R_sb h hk (R_mul h hb hb) (R_add h (R_mul h ha (R_mul h ha ha)) (R_mul h (R_mul h (R_mul h hc hc) (R_mul h hc hc)) (R_add h (R_ng h hk (R_mul h (hk _) ha)) (R_mul h (hk _) (R_mul h hc hc)))))
theorem R_cross {a b c d:α} {x y z w:Int} (ha:eqm (ev a) x) (hb:eqm (ev b) y) (hc:eqm (ev c) z) (hd:eqm (ev d) w):eqm (ev (cross r k a b c d)) (cross rI kI x y z w):=R_sb h hk (R_mul h ha hd) (R_mul h hb hc)
end
def onC (x y:Int):Prop:=eqm (y * y) (cub x)
def e1 (x1:Int):R1 → Int:=lev (fun n:Nat=>(n:Int)) x1
def e2 (x1 y1:Int):R2 → Int:=evP (e1 x1) y1
def e3 (x1 y1 x2:Int):R3 → Int:=lev (e2 x1 y1) x2
def e4 (x1 y1 x2 y2:Int):R4 → Int:=evP (e3 x1 y1 x2) y2
theorem snd4 {x1 y1 x2 y2:Int} (h1:onC x1 y1) (h2:onC x2 y2):Snd r4 (e4 x1 y1 x2 y2):=by
 refine sndP (sndL (sndP (sndL sndN x1) y1 _ ?_) x2) y2 _ ?_
 ·exact h1
 ·have:lev (evP (lev (fun n:Nat=>(n:Int)) x1) y1) x2 [([B256],[]),([P256 - 3],[]),([],[]),([1],[])]=cub x2:=by
   simp only [lev,evP,cub,Int.mul_zero,Int.add_zero,Int.zero_mul]
   simp
  rw [this]; exact h2
section
variable {x1 y1 x2 y2:Int} (h1:onC x1 y1) (h2:onC x2 y2)
theorem k4_ev (n:Nat):eqm (e4 x1 y1 x2 y2 (k4 n)) (n:Int):=by
 have:e4 x1 y1 x2 y2 (k4 n)=(n:Int):=by simp [e4,e3,e2,e1,evP,lev,k4]
 rw [this]; exact .refl _
theorem vx1_ev:eqm (e4 x1 y1 x2 y2 vx1) x1:=by
 have:e4 x1 y1 x2 y2 vx1=x1:=by simp [e4,e3,e2,e1,evP,lev,vx1]
 rw [this]; exact .refl _
theorem vy1_ev:eqm (e4 x1 y1 x2 y2 vy1) y1:=by
 have:e4 x1 y1 x2 y2 vy1=y1:=by simp [e4,e3,e2,e1,evP,lev,vy1]
 rw [this]; exact .refl _
theorem vx2_ev:eqm (e4 x1 y1 x2 y2 vx2) x2:=by
 have:e4 x1 y1 x2 y2 vx2=x2:=by simp [e4,e3,e2,e1,evP,lev,vx2]
 rw [this]; exact .refl _
theorem vy2_ev:eqm (e4 x1 y1 x2 y2 vy2) y2:=by
 have:e4 x1 y1 x2 y2 vy2=y2:=by simp [e4,e3,e2,e1,evP,lev,vy2]
 rw [this]; exact .refl _
theorem p4_ev:R3v (e4 x1 y1 x2 y2) p4 (x1,y1,1):=⟨vx1_ev,vy1_ev,k4_ev 1⟩
theorem q4_ev:R3v (e4 x1 y1 x2 y2) q4 (x2,y2,1):=⟨vx2_ev,vy2_ev,k4_ev 1⟩
theorem g4_ev:R3v (e4 x1 y1 x2 y2) g4 ((GX:Int),(GY:Int),1):=⟨k4_ev GX,k4_ev GY,k4_ev 1⟩
theorem nought {a:R4} {z:Int} (hs:Snd r4 (e4 x1 y1 x2 y2)) (ha:r4.isz a=true) (hz:eqm (e4 x1 y1 x2 y2 a) z):eqm z 0:=hz.symm.trans (hs.isz a ha)
abbrev cI:=cAdd rI kI
abbrev sI (a b:Int):Int:=sb rI kI a b
include h1 h2
theorem z_chX:eqm (cross rI kI (cI (x1,y1,1) (x2,y2,1)).1 (cI (x1,y1,1) (x2,y2,1)).2.2 (chX rI kI x1 x2 (sI y2 y1) (sI x2 x1)) (rI.mul (sI x2 x1) (sI x2 x1))) 0:=by
 have s:=snd4 h1 h2
 have c:=R_cAdd s k4_ev p4_ev q4_ev
 have d:=R_sb s k4_ev vx2_ev vx1_ev
 have n:=R_sb s k4_ev vy2_ev vy1_ev
 exact nought s id_chX (R_cross s k4_ev c.1 c.2.2 (R_chX s k4_ev vx1_ev vx2_ev n d) (R_mul s d d))
theorem z_chY:eqm (cross rI kI (cI (x1,y1,1) (x2,y2,1)).2.1 (cI (x1,y1,1) (x2,y2,1)).2.2 (chY rI kI x1 y1 (sI y2 y1) (sI x2 x1) (chX rI kI x1 x2 (sI y2 y1) (sI x2 x1))) (rI.mul (sI x2 x1) (rI.mul (sI x2 x1) (sI x2 x1)))) 0:=by
 have s:=snd4 h1 h2
 have c:=R_cAdd s k4_ev p4_ev q4_ev
 have d:=R_sb s k4_ev vx2_ev vx1_ev
 have n:=R_sb s k4_ev vy2_ev vy1_ev
 exact nought s id_chY (R_cross s k4_ev c.2.1 c.2.2 (R_chY s k4_ev vx1_ev vy1_ev n d (R_chX s k4_ev vx1_ev vx2_ev n d)) (R_mul s d (R_mul s d d)))
theorem z_chZ:eqm (sI (cI (x1,y1,1) (x2,y2,1)).2.2 (chY rI kI x1 y1 (sI (ng rI kI y2) y1) (sI x2 x1) (chX rI kI x1 x2 (sI (ng rI kI y2) y1) (sI x2 x1)))) 0:=by
 have s:=snd4 h1 h2
 have c:=R_cAdd s k4_ev p4_ev q4_ev
 have d:=R_sb s k4_ev vx2_ev vx1_ev
 have n:=R_sb s k4_ev (R_ng s k4_ev vy2_ev) vy1_ev
 exact nought s id_chZ (R_sb s k4_ev c.2.2 (R_chY s k4_ev vx1_ev vy1_ev n d (R_chX s k4_ev vx1_ev vx2_ev n d)))
theorem z_onP:eqm (onJ rI kI (chX rI kI x1 x2 (sI y2 y1) (sI x2 x1)) (chY rI kI x1 y1 (sI y2 y1) (sI x2 x1) (chX rI kI x1 x2 (sI y2 y1) (sI x2 x1))) (sI x2 x1)) 0:=by
 have s:=snd4 h1 h2
 have d:=R_sb s k4_ev vx2_ev vx1_ev
 have n:=R_sb s k4_ev vy2_ev vy1_ev
 have x:=R_chX s k4_ev vx1_ev vx2_ev n d
 exact nought s id_onP (R_onJ s k4_ev x (R_chY s k4_ev vx1_ev vy1_ev n d x) d)
theorem z_onM:eqm (onJ rI kI (chX rI kI x1 x2 (sI (ng rI kI y2) y1) (sI x2 x1)) (chY rI kI x1 y1 (sI (ng rI kI y2) y1) (sI x2 x1) (chX rI kI x1 x2 (sI (ng rI kI y2) y1) (sI x2 x1))) (sI x2 x1)) 0:=by
 have s:=snd4 h1 h2
 have d:=R_sb s k4_ev vx2_ev vx1_ev
 have n:=R_sb s k4_ev (R_ng s k4_ev vy2_ev) vy1_ev
 have x:=R_chX s k4_ev vx1_ev vx2_ev n d
 exact nought s id_onM (R_onJ s k4_ev x (R_chY s k4_ev vx1_ev vy1_ev n d x) d)
theorem z_as:let a:=cI (cI (x1,y1,1) (x2,y2,1)) ((GX:Int),(GY:Int),1); let b:=cI (x1,y1,1) (cI (x2,y2,1) ((GX:Int),(GY:Int),1));
  eqm (cross rI kI a.1 a.2.2 b.1 b.2.2) 0∧eqm (cross rI kI a.2.1 a.2.2 b.2.1 b.2.2) 0∧eqm (cross rI kI a.1 a.2.1 b.1 b.2.1) 0:=by
 have s:=snd4 h1 h2
 have a:=R_cAdd s k4_ev (R_cAdd s k4_ev p4_ev q4_ev) g4_ev
 have b:=R_cAdd s k4_ev p4_ev (R_cAdd s k4_ev q4_ev g4_ev)
 have ea:cAdd r4 k4 (cAdd r4 k4 p4 q4) g4=(sb_X,sb_Y,sb_Z):=by
  rw [show cAdd r4 k4 p4 q4=(saX,saY,saZ) from esa]; exact esb_
 have eb:cAdd r4 k4 p4 (cAdd r4 k4 q4 g4)=(sdX,sdY,sdZ):=by
  rw [show cAdd r4 k4 q4 g4=(scX,scY,scZ) from esc]; exact esd
 rw [ea] at a
 rw [eb] at b
 exact ⟨nought s cra (R_cross s k4_ev a.1 a.2.2 b.1 b.2.2),nought s crb (R_cross s k4_ev a.2.1 a.2.2 b.2.1 b.2.2),nought s crc (R_cross s k4_ev a.1 a.2.1 b.1 b.2.1)⟩
end
section
variable {x y:Int} (h1:onC x y)
abbrev tI (x:Int):Int:=rI.add (rI.mul 3 (rI.mul x x)) ((P256 - 3:Nat):Int)
abbrev wI (y:Int):Int:=rI.add y y
include h1
theorem z_ta:eqm (cross rI kI (cI (x,y,1) (x,y,1)).1 (cI (x,y,1) (x,y,1)).2.2 (chX rI kI x x (tI x) (wI y)) (rI.mul (wI y) (wI y))) 0
  ∧ eqm (cross rI kI (cI (x,y,1) (x,y,1)).2.1 (cI (x,y,1) (x,y,1)).2.2 (chY rI kI x y (tI x) (wI y) (chX rI kI x x (tI x) (wI y))) (rI.mul (wI y) (rI.mul (wI y) (wI y)))) 0
  ∧ eqm (sI (cI (x,y,1) (x,y,1)).2.2 (rI.mul (wI y) (rI.mul (wI y) (wI y)))) 0
  ∧ eqm (onJ rI kI (chX rI kI x x (tI x) (wI y)) (chY rI kI x y (tI x) (wI y) (chX rI kI x x (tI x) (wI y))) (wI y)) 0:=by
 have s:Snd r4 (e4 x y x y):=snd4 h1 h1
 have c:=R_cAdd s k4_ev p4_ev p4_ev
 have t:=R_add s (R_mul s (k4_ev 3) (R_mul s vx1_ev vx1_ev)) (k4_ev (P256 - 3))
 have w:=R_add s vy1_ev vy1_ev
 have X:=R_chX s k4_ev vx1_ev vx1_ev t w
 have Y:=R_chY s k4_ev vx1_ev vy1_ev t w X
 have w3:=R_mul s w (R_mul s w w)
 exact ⟨nought s id_taX (R_cross s k4_ev c.1 c.2.2 X (R_mul s w w)),nought s id_taY (R_cross s k4_ev c.2.1 c.2.2 Y w3),nought s id_taZ (R_sb s k4_ev c.2.2 w3),nought s id_onT (R_onJ s k4_ev X Y w)⟩
theorem z_op:eqm (cI (x,y,1) (x,ng rI kI y,1)).1 0∧eqm (cI (x,y,1) (x,ng rI kI y,1)).2.2 0∧eqm (sI (cI (x,y,1) (x,ng rI kI y,1)).2.1 (chY rI kI x y (tI x) (wI y) (chX rI kI x x (tI x) (wI y)))) 0:=by
 have s:Snd r4 (e4 x y x y):=snd4 h1 h1
 have c:=R_cAdd s k4_ev (p4_ev (x1:=x) (y1:=y) (x2:=x) (y2:=y)) (q:=o4) (q':=(x,ng rI kI y,1)) ⟨vx1_ev,R_ng s k4_ev vy1_ev,k4_ev 1⟩
 have t:=R_add s (R_mul s (k4_ev 3) (R_mul s vx1_ev vx1_ev)) (k4_ev (P256 - 3))
 have w:=R_add s vy1_ev vy1_ev
 have X:=R_chX s k4_ev vx1_ev vx1_ev t w
 exact ⟨nought s id_opX c.1,nought s id_opZ c.2.2,nought s id_opY (R_sb s k4_ev c.2.1 (R_chY s k4_ev vx1_ev vy1_ev t w X))⟩
end
end Go.Nt
end

section
namespace Go.Nt
instance stm:Setoid Int:=⟨eqm,⟨eqm.refl,eqm.symm,eqm.trans⟩⟩
def Fp:Type:=Quotient stm
def mk (a:Int):Fp:=Quotient.mk stm a
theorem mk_eq {a b:Int}:mk a=mk b ↔ eqm a b:=⟨Quotient.exact,Quotient.sound (s:=stm)⟩
theorem mk_ex (x:Fp) : ∃ a,x=mk a:=by
 induction x using Quotient.ind with | _ a=>exact ⟨a,rfl⟩
instance:Add Fp:=⟨Quotient.lift₂ (fun a b=>mk (a+b)) fun _ _ _ _ h k=>mk_eq.2 (eqm.add h k)⟩
instance:Mul Fp:=⟨Quotient.lift₂ (fun a b=>mk (a * b)) fun _ _ _ _ h k=>mk_eq.2 (eqm.mul h k)⟩
instance:Neg Fp:=⟨Quotient.lift (fun a=>mk (-a)) fun _ _ h=>mk_eq.2 (eqm.neg h)⟩
instance:Sub Fp:=⟨Quotient.lift₂ (fun a b=>mk (a - b)) fun _ _ _ _ h k=>mk_eq.2 (eqm.sub h k)⟩
instance:NatCast Fp:=⟨fun n=>mk (n:Int)⟩
instance:IntCast Fp:=⟨mk⟩
instance (n:Nat):OfNat Fp n:=⟨mk (n:Int)⟩
def npowF (x:Fp):Nat → Fp
 | 0=>mk 1
 | n+1=>npowF x n * x
instance:HPow Fp Nat Fp:=⟨npowF⟩
instance:SMul Nat Fp:=⟨fun n x=>(n:Fp) * x⟩
instance:SMul Int Fp:=⟨fun n x=>(n:Fp) * x⟩
theorem mk_add (a b:Int):mk a+mk b=mk (a+b):=rfl
theorem mk_mul (a b:Int):mk a * mk b=mk (a * b):=rfl
theorem mk_sub (a b:Int):mk a - mk b=mk (a - b):=rfl
instance:Lean.Grind.CommRing Fp where
 nsmul:=inferInstance
 zsmul:=inferInstance
 npow:=inferInstance
 natCast:=inferInstance
 intCast:=inferInstance
 ofNat:=inferInstance
 add_zero a:=by obtain ⟨x,rfl⟩:=mk_ex a; exact congrArg mk (Int.add_zero x)
 add_comm a b:=by obtain ⟨x,rfl⟩:=mk_ex a; obtain ⟨y,rfl⟩:=mk_ex b; exact congrArg mk (Int.add_comm x y)
 add_assoc a b c:=by obtain ⟨x,rfl⟩:=mk_ex a; obtain ⟨y,rfl⟩:=mk_ex b; obtain ⟨z,rfl⟩:=mk_ex c; exact congrArg mk (Int.add_assoc x y z)
 mul_comm a b:=by obtain ⟨x,rfl⟩:=mk_ex a; obtain ⟨y,rfl⟩:=mk_ex b; exact congrArg mk (Int.mul_comm x y)
 mul_assoc a b c:=by obtain ⟨x,rfl⟩:=mk_ex a; obtain ⟨y,rfl⟩:=mk_ex b; obtain ⟨z,rfl⟩:=mk_ex c; exact congrArg mk (Int.mul_assoc x y z)
 mul_one a:=by obtain ⟨x,rfl⟩:=mk_ex a; exact congrArg mk (Int.mul_one x)
 one_mul a:=by obtain ⟨x,rfl⟩:=mk_ex a; exact congrArg mk (Int.one_mul x)
 mul_zero a:=by obtain ⟨x,rfl⟩:=mk_ex a; exact congrArg mk (Int.mul_zero x)
 right_distrib a b c:=by obtain ⟨x,rfl⟩:=mk_ex a; obtain ⟨y,rfl⟩:=mk_ex b; obtain ⟨z,rfl⟩:=mk_ex c; exact congrArg mk (Int.add_mul x y z)
 left_distrib a b c:=by obtain ⟨x,rfl⟩:=mk_ex a; obtain ⟨y,rfl⟩:=mk_ex b; obtain ⟨z,rfl⟩:=mk_ex c; exact congrArg mk (Int.mul_add x y z)
 zero_mul a:=by obtain ⟨x,rfl⟩:=mk_ex a; exact congrArg mk (Int.zero_mul x)
 pow_zero a:=rfl
 pow_succ a n:=rfl
 ofNat_succ a:=congrArg mk (Int.natCast_succ a)
 ofNat_eq_natCast n:=rfl
 nsmul_eq_natCast_mul n a:=rfl
 neg_add_cancel a:=by obtain ⟨x,rfl⟩:=mk_ex a; exact congrArg mk (Int.add_left_neg x)
 sub_eq_add_neg a b:=by obtain ⟨x,rfl⟩:=mk_ex a; obtain ⟨y,rfl⟩:=mk_ex b; exact congrArg mk (Int.sub_eq_add_neg)
 neg_zsmul i a:=by obtain ⟨x,rfl⟩:=mk_ex a; exact congrArg mk (Int.neg_mul i x)
 zsmul_natCast_eq_nsmul n a:=rfl
 intCast_ofNat n:=rfl
 intCast_neg i:=rfl
theorem mk0 (a:Int):mk a=0 ↔ eqm a 0:=mk_eq
theorem F_mul0 {a b:Fp} (h:a * b=0):a=0 ∨ b=0:=by
 obtain ⟨x,rfl⟩:=mk_ex a
 obtain ⟨y,rfl⟩:=mk_ex b
 rw [mk0,mk0]
 exact eqm_mul0 ((mk0 _).1 h)
theorem F_inv {a:Fp} (h:a ≠ 0) : ∃ b:Fp,a * b=1:=by
 obtain ⟨x,rfl⟩:=mk_ex a
 obtain ⟨y,hy⟩:=eqm_inv (fun c=>h ((mk0 x).2 c))
 exact ⟨mk y,mk_eq.2 hy⟩
open Classical in
noncomputable def invF (a:Fp):Fp:=if h:a ≠ 0 then Classical.choose (F_inv h) else 0
theorem invF_mul {a:Fp} (h:a ≠ 0):a * invF a=1:=by
 unfold invF
 rw [dif_pos h]
 exact Classical.choose_spec (F_inv h)
theorem F_cancel {a b c:Fp} (hc:c ≠ 0) (h:c * a=c * b):a=b:=by
 have h0:c * (a - b)=0:=by grind
 rcases F_mul0 h0 with h1 | h1
 ·exact absurd h1 hc
 ·grind
theorem F_ne {a b:Fp} (ha:a ≠ 0) (hb:b ≠ 0):a * b ≠ 0:=fun h=>(F_mul0 h).elim ha hb
theorem F_10:(1:Fp) ≠ 0:=fun h=>one_ne (mk_eq.1 h)
def fB:Fp:=mk (B256:Int)
def onF (x y:Fp):Prop:=y * y=x * x * x - 3 * x+fB
theorem onC_of {a b:Int} (h:onF (mk a) (mk b)):onC a b:=by
 unfold onC
 refine (mk_eq.1 h).trans ?_
 refine eqm.trans ?_ (cub_eq a).symm
 exact mk_eq.1 (by show mk (a * a * a - 3 * a+B256)=mk (a * (a * a) - 3 * a+B256); rw [Int.mul_assoc])
theorem F_root (x:Fp):x * x * x - 3 * x+fB ≠ 0:=by
 obtain ⟨a,rfl⟩:=mk_ex x
 intro h
 refine no_root a ((cub_eq a).trans ?_)
 have:mk (a * a * a - 3 * a+B256)=mk 0:=h
 rw [Int.mul_assoc] at this
 exact mk_eq.1 this
theorem onF_y {x y:Fp} (h:onF x y):y ≠ 0:=by
 rintro rfl
 refine F_root x ?_
 unfold onF at h
 grind
end Go.Nt
end

section
namespace Go.Nt
theorem mkM (a b:Int):mk (rI.mul a b)=mk a * mk b:=rfl
theorem mkA (a b:Int):mk (rI.add a b)=mk a+mk b:=rfl
theorem mkS (a b:Int):mk (sb rI kI a b)=mk a - mk b:=mk_eq.2 (sI_eqm a b)
theorem mkN (a:Int):mk (ng rI kI a) = - mk a:=mk_eq.2 (ng_eqm a)
theorem mk3:mk (kI 3)=(3:Fp):=rfl
theorem mk9:mk (kI 9)=(9:Fp):=rfl
theorem mkB:mk (kI B256)=fB:=rfl
theorem mk3B:mk (kI (3 * B256 % P256))=3 * fB:=mk_eq.2 (by
 refine (eqm_nat (3 * B256)).trans ?_
 rw [Int.natCast_mul]; exact .refl _)
theorem mkP3:mk ((P256 - 3:Nat):Int)=(-3:Fp):=by
 refine mk_eq.2 ?_
 have h3:3≤P256:=by decide
 have:(((P256 - 3:Nat)):Int) = -3+(P256:Int) * 1:=by omega
 rw [this]; exact eqm_add_mul _ _
abbrev F3:=Fp × Fp × Fp
def mkT (t:Int × Int × Int):F3:=(mk t.1,mk t.2.1,mk t.2.2)
def cR' (xy yz u v w t:Fp):F3:=(xy * u - yz * w,t * w+v * u,yz * v+xy * t)
def cS' (xx yy zz xy yz xz:Fp):F3:=cR' xy yz (yy+(3 * xz + -(3 * fB * zz))) (yy+(-(3 * xz)+3 * fB * zz)) (-(3 * xx)+(3 * fB * xz + -(9 * zz))) (3 * xx + -(3 * zz))
def cF (p q:F3):F3:=cS' (p.1 * q.1) (p.2.1 * q.2.1) (p.2.2 * q.2.2) (p.1 * q.2.1+q.1 * p.2.1) (p.2.1 * q.2.2+q.2.1 * p.2.2) (p.1 * q.2.2+q.1 * p.2.2)
theorem mkC (p q:Int × Int × Int):mkT (cI p q)=cF (mkT p) (mkT q):=by
 unfold cF cS' cR' mkT
 simp only [cI,cAdd,cS,cR,cU,cV,cW,cT,mkM,mkA,mkS,mkN,mk3,mk9,mk3B]
def crF (a b c d:Fp):Fp:=a * d - b * c
def chXF (x1 x2 n d:Fp):Fp:=n * n - (x1+x2) * (d * d)
def chYF (x1 y1 n d x:Fp):Fp:=n * (x1 * (d * d) - x) - y1 * (d * (d * d))
def onJF (x y z:Fp):Fp:=y * y - (x * (x * x)+z * z * (z * z) * (-(3 * x)+fB * (z * z)))
theorem mkCr (a b c d:Int):mk (cross rI kI a b c d)=crF (mk a) (mk b) (mk c) (mk d):=by simp only [cross,crF,mkM,mkA,mkS,mkN]
theorem mkX (a b c d:Int):mk (chX rI kI a b c d)=chXF (mk a) (mk b) (mk c) (mk d):=by simp only [chX,chXF,mkM,mkA,mkS,mkN]
theorem mkY (a b c d e:Int):mk (chY rI kI a b c d e)=chYF (mk a) (mk b) (mk c) (mk d) (mk e):=by simp only [chY,chYF,mkM,mkA,mkS,mkN]
theorem mkO (a b c:Int):mk (onJ rI kI a b c)=onJF (mk a) (mk b) (mk c):=by simp only [onJ,onJF,mkM,mkA,mkS,mkN,mk3,mkB]
theorem mkT1 (a b:Int):mkT (a,b,1)=(mk a,mk b,1):=rfl
def gX:Fp:=mk (GX:Int)
def gY:Fp:=mk (GY:Int)
section
variable {x1 y1 x2 y2:Fp} (h1:onF x1 y1) (h2:onF x2 y2)
include h1 h2
theorem f_chX:(cF (x1,y1,1) (x2,y2,1)).1 * ((x2 - x1) * (x2 - x1))=(cF (x1,y1,1) (x2,y2,1)).2.2 * chXF x1 x2 (y2 - y1) (x2 - x1):=by
 obtain ⟨a,rfl⟩:=mk_ex x1; obtain ⟨b,rfl⟩:=mk_ex y1; obtain ⟨c,rfl⟩:=mk_ex x2; obtain ⟨d,rfl⟩:=mk_ex y2
 have z:=(mk0 _).2 (z_chX (onC_of h1) (onC_of h2))
 have e:=mkC (a,b,1) (c,d,1)
 rw [mkT1,mkT1] at e
 rw [← e]
 rw [mkCr,mkX,mkM,mkS,mkS] at z
 unfold crF at z
 show mk _ * _=mk _ * _
 grind
theorem f_chY:(cF (x1,y1,1) (x2,y2,1)).2.1 * ((x2 - x1) * ((x2 - x1) * (x2 - x1)))=(cF (x1,y1,1) (x2,y2,1)).2.2 * chYF x1 y1 (y2 - y1) (x2 - x1) (chXF x1 x2 (y2 - y1) (x2 - x1)):=by
 obtain ⟨a,rfl⟩:=mk_ex x1; obtain ⟨b,rfl⟩:=mk_ex y1; obtain ⟨c,rfl⟩:=mk_ex x2; obtain ⟨d,rfl⟩:=mk_ex y2
 have z:=(mk0 _).2 (z_chY (onC_of h1) (onC_of h2))
 have e:=mkC (a,b,1) (c,d,1)
 rw [mkT1,mkT1] at e
 rw [← e]
 rw [mkCr,mkY,mkX,mkM,mkM,mkS,mkS] at z
 unfold crF at z
 show mk _ * _=mk _ * _
 grind
theorem f_chZ:(cF (x1,y1,1) (x2,y2,1)).2.2=chYF x1 y1 (-y2 - y1) (x2 - x1) (chXF x1 x2 (-y2 - y1) (x2 - x1)):=by
 obtain ⟨a,rfl⟩:=mk_ex x1; obtain ⟨b,rfl⟩:=mk_ex y1; obtain ⟨c,rfl⟩:=mk_ex x2; obtain ⟨d,rfl⟩:=mk_ex y2
 have z:=(mk0 _).2 (z_chZ (onC_of h1) (onC_of h2))
 have e:=mkC (a,b,1) (c,d,1)
 rw [mkT1,mkT1] at e
 rw [← e]
 rw [mkS,mkY,mkX,mkS,mkS,mkN] at z
 show mk _=_
 grind
theorem f_onP:onJF (chXF x1 x2 (y2 - y1) (x2 - x1)) (chYF x1 y1 (y2 - y1) (x2 - x1) (chXF x1 x2 (y2 - y1) (x2 - x1))) (x2 - x1)=0:=by
 obtain ⟨a,rfl⟩:=mk_ex x1; obtain ⟨b,rfl⟩:=mk_ex y1; obtain ⟨c,rfl⟩:=mk_ex x2; obtain ⟨d,rfl⟩:=mk_ex y2
 have z:=(mk0 _).2 (z_onP (onC_of h1) (onC_of h2))
 rw [mkO,mkY,mkX,mkS,mkS] at z
 exact z
theorem f_onM:onJF (chXF x1 x2 (-y2 - y1) (x2 - x1)) (chYF x1 y1 (-y2 - y1) (x2 - x1) (chXF x1 x2 (-y2 - y1) (x2 - x1))) (x2 - x1)=0:=by
 obtain ⟨a,rfl⟩:=mk_ex x1; obtain ⟨b,rfl⟩:=mk_ex y1; obtain ⟨c,rfl⟩:=mk_ex x2; obtain ⟨d,rfl⟩:=mk_ex y2
 have z:=(mk0 _).2 (z_onM (onC_of h1) (onC_of h2))
 rw [mkO,mkY,mkX,mkS,mkS,mkN] at z
 exact z
theorem f_as:let a:=cF (cF (x1,y1,1) (x2,y2,1)) (gX,gY,1); let b:=cF (x1,y1,1) (cF (x2,y2,1) (gX,gY,1));
  crF a.1 a.2.2 b.1 b.2.2=0∧crF a.2.1 a.2.2 b.2.1 b.2.2=0∧crF a.1 a.2.1 b.1 b.2.1=0:=by
 obtain ⟨a,rfl⟩:=mk_ex x1; obtain ⟨b,rfl⟩:=mk_ex y1; obtain ⟨c,rfl⟩:=mk_ex x2; obtain ⟨d,rfl⟩:=mk_ex y2
 obtain ⟨za,zb,zc⟩:=z_as (onC_of h1) (onC_of h2)
 have za:=(mk0 _).2 za
 have zb:=(mk0 _).2 zb
 have zc:=(mk0 _).2 zc
 rw [mkCr] at za zb zc
 have ea:cF (cF (mk a,mk b,1) (mk c,mk d,1)) (gX,gY,1)=mkT (cI (cI (a,b,1) (c,d,1)) ((GX:Int),(GY:Int),1)):=by
  rw [mkC (cI (a,b,1) (c,d,1)) ((GX:Int),(GY:Int),1),mkC (a,b,1) (c,d,1)]; rfl
 have eb:cF (mk a,mk b,1) (cF (mk c,mk d,1) (gX,gY,1))=mkT (cI (a,b,1) (cI (c,d,1) ((GX:Int),(GY:Int),1))):=by
  rw [mkC (a,b,1) (cI (c,d,1) ((GX:Int),(GY:Int),1)),mkC (c,d,1) ((GX:Int),(GY:Int),1)]; rfl
 intro A B
 have hA:A=_:=ea
 have hB:B=_:=eb
 rw [hA,hB]
 exact ⟨za,zb,zc⟩
end
section
variable {x y:Fp} (h:onF x y)
include h
abbrev tF (x:Fp):Fp:=3 * (x * x) + -3
theorem f_ta:(cF (x,y,1) (x,y,1)).1 * ((y+y) * (y+y))=(cF (x,y,1) (x,y,1)).2.2 * chXF x x (tF x) (y+y)
  ∧ (cF (x,y,1) (x,y,1)).2.1 * ((y+y) * ((y+y) * (y+y)))=(cF (x,y,1) (x,y,1)).2.2 * chYF x y (tF x) (y+y) (chXF x x (tF x) (y+y))
  ∧ (cF (x,y,1) (x,y,1)).2.2=(y+y) * ((y+y) * (y+y))
  ∧ onJF (chXF x x (tF x) (y+y)) (chYF x y (tF x) (y+y) (chXF x x (tF x) (y+y))) (y+y)=0:=by
 obtain ⟨a,rfl⟩:=mk_ex x; obtain ⟨b,rfl⟩:=mk_ex y
 obtain ⟨z1,z2,z3,z4⟩:=z_ta (onC_of h)
 have z1:=(mk0 _).2 z1
 have z2:=(mk0 _).2 z2
 have z3:=(mk0 _).2 z3
 have z4:=(mk0 _).2 z4
 have et:mk (tI a)=tF (mk a):=by
  show mk (rI.add (rI.mul 3 (rI.mul a a)) _)=_
  rw [mkA,mkM,mkM,mkP3]; rfl
 have ew:mk (wI b)=mk b+mk b:=rfl
 have e:=mkC (a,b,1) (a,b,1)
 rw [mkT1] at e
 rw [← e]
 rw [mkCr,mkX,mkM,et,ew] at z1
 rw [mkCr,mkY,mkX,mkM,mkM,et,ew] at z2
 rw [mkS,mkM,mkM,ew] at z3
 rw [mkO,mkY,mkX,et,ew] at z4
 unfold crF at z1 z2
 refine ⟨?_,?_,?_,z4⟩
 ·show mk _ * _=mk _ * _
  grind
 ·show mk _ * _=mk _ * _
  grind
 ·show mk _=_
  grind
theorem f_op:(cF (x,y,1) (x, -y,1)).1=0∧(cF (x,y,1) (x, -y,1)).2.2=0∧(cF (x,y,1) (x, -y,1)).2.1=chYF x y (tF x) (y+y) (chXF x x (tF x) (y+y)):=by
 obtain ⟨a,rfl⟩:=mk_ex x; obtain ⟨b,rfl⟩:=mk_ex y
 obtain ⟨z1,z2,z3⟩:=z_op (onC_of h)
 have z1:=(mk0 _).2 z1
 have z2:=(mk0 _).2 z2
 have z3:=(mk0 _).2 z3
 have et:mk (tI a)=tF (mk a):=by
  show mk (rI.add (rI.mul 3 (rI.mul a a)) _)=_
  rw [mkA,mkM,mkM,mkP3]; rfl
 have ew:mk (wI b)=mk b+mk b:=rfl
 have e:=mkC (a,b,1) (a,ng rI kI b,1)
 rw [mkT1,mkT1,mkN] at e
 rw [← e]
 rw [mkS,mkY,mkX,et,ew] at z3
 refine ⟨z1,z2,?_⟩
 show mk _=_
 grind
end
end Go.Nt
end

section
namespace Go.Nt
def sc (l:Fp) (t:F3):F3:=(l * t.1,l * t.2.1,l * t.2.2)
theorem sc_sc (l m:Fp) (t:F3):sc l (sc m t)=sc (l * m) t:=by
 unfold sc
 refine Prod.ext ?_ (Prod.ext ?_ ?_) <;> dsimp only <;> grind
theorem cS_sc (k xx yy zz xy yz xz:Fp):cS' (k * xx) (k * yy) (k * zz) (k * xy) (k * yz) (k * xz)=sc (k * k) (cS' xx yy zz xy yz xz):=by
 unfold cS' cR' sc
 refine Prod.ext ?_ (Prod.ext ?_ ?_) <;> dsimp only <;> grind
theorem cF_sc (l m:Fp) (p q:F3):cF (sc l p) (sc m q)=sc (l * m * (l * m)) (cF p q):=by
 unfold cF
 rw [← cS_sc]
 unfold sc
 dsimp only
 congr 1 <;> grind
abbrev Pt:=Option (Fp × Fp)
def rep:Pt → F3
 | none=>(0,1,0)
 | some p=>(p.1,p.2,1)
def okP:Pt → Prop
 | none=>True
 | some p=>onF p.1 p.2
noncomputable def ptF (x1 y1 x2 n d:Fp):Fp × Fp:=((n * invF d) * (n * invF d) - x1 - x2,(n * invF d) * (x1 - ((n * invF d) * (n * invF d) - x1 - x2)) - y1)
theorem ptF_X {d:Fp} (hd:d ≠ 0) (x1 y1 x2 n:Fp):chXF x1 x2 n d=d * d * (ptF x1 y1 x2 n d).1:=by
 have h:=invF_mul hd
 unfold chXF ptF
 dsimp only
 generalize invF d=e at h
 grind
theorem ptF_Y {d:Fp} (hd:d ≠ 0) (x1 y1 x2 n:Fp):chYF x1 y1 n d (chXF x1 x2 n d)=d * (d * d) * (ptF x1 y1 x2 n d).2:=by
 have h:=invF_mul hd
 unfold chXF chYF ptF
 dsimp only
 generalize invF d=e at h
 have e1:n=d * (n * e):=by grind
 generalize n * e=l at e1
 subst e1
 grind
theorem onJ_F {d x y:Fp} (hd:d ≠ 0) (h:onJF (d * d * x) (d * (d * d) * y) d=0):onF x y:=by
 have e:onJF (d * d * x) (d * (d * d) * y) d=(d * d * d) * (d * d * d) * (y * y - (x * x * x - 3 * x+fB)):=by
  unfold onJF; grind
 rw [e] at h
 have h3:=F_ne (F_ne hd hd) hd
 rcases F_mul0 h with c | c
 ·exact absurd c (F_ne h3 h3)
 ·unfold onF; grind
theorem two_ne:(2:Fp) ≠ 0:=fun h=>by
 have:=eqm_dvd.1 (mk_eq.1 h)
 exact absurd this (by decide)
theorem dbl_ne {y:Fp} (h:y ≠ 0):y+y ≠ 0:=by
 have e:y+y=2 * y:=by grind
 rw [e]; exact F_ne two_ne h
open Classical in
noncomputable def sumF:Pt → Pt → Pt
 | none,q=>q
 | some p,none=>some p
 | some p,some q=>if p.1=q.1 then (if p.2=q.2 then some (ptF p.1 p.2 p.1 (tF p.1) (p.2+p.2)) else none) else some (ptF p.1 p.2 q.1 (q.2 - p.2) (q.1 - p.1))
theorem sum_none (p:Pt):sumF p none=p:=by cases p <;> rfl
theorem sum_step : ∀ (p q:Pt),okP p → okP q → okP (sumF p q) ∧ ∃ l,l ≠ 0∧cF (rep p) (rep q)=sc l (rep (sumF p q))
 | none,none,_,_=>⟨trivial,1,F_10,by
  unfold cF cS' cR' sc
  refine Prod.ext ?_ (Prod.ext ?_ ?_) <;> simp only [rep,sumF] <;> grind⟩
 | none,some (x,y),_,h=>⟨h,y,onF_y h,by
  unfold cF cS' cR' sc
  refine Prod.ext ?_ (Prod.ext ?_ ?_) <;> simp only [rep,sumF] <;> grind⟩
 | some (x,y),none,h,_=>⟨h,y,onF_y h,by
  unfold cF cS' cR' sc
  refine Prod.ext ?_ (Prod.ext ?_ ?_) <;> simp only [rep,sumF] <;> grind⟩
 | some (x1,y1),some (x2,y2),h1,h2=>by
  have o1:onF x1 y1:=h1
  have o2:onF x2 y2:=h2
  by_cases hx:x1=x2
  ·subst hx
   obtain ⟨t1,t2,t3,t4⟩:=f_ta o1
   have hd:=dbl_ne (onF_y o1)
   rw [ptF_Y hd,ptF_X hd x1 y1] at t4
   have on3:=onJ_F hd t4
   by_cases hy:y1=y2
   ·subst hy
    have es:sumF (some (x1,y1)) (some (x1,y1))=some (ptF x1 y1 x1 (tF x1) (y1+y1)):=(if_pos rfl).trans (if_pos rfl)
    rw [es]
    refine ⟨on3,(y1+y1) * ((y1+y1) * (y1+y1)),F_ne hd (F_ne hd hd),?_⟩
    rw [ptF_X hd x1 y1] at t1
    rw [ptF_Y hd] at t2
    show cF (x1,y1,1) (x1,y1,1)=_
    unfold sc rep
    dsimp only
    rw [← t3]
    refine Prod.ext ?_ (Prod.ext ?_ ?_)
    ·refine F_cancel (F_ne hd hd) ?_
     dsimp only
     grind
    ·refine F_cancel (F_ne hd (F_ne hd hd)) ?_
     dsimp only
     grind
    ·dsimp only
     grind
   ·have es:sumF (some (x1,y1)) (some (x1,y2))=none:=(if_pos rfl).trans (if_neg hy)
    rw [es]
    have hyy:y2 = -y1:=by
     have:(y1 - y2) * (y1+y2)=0:=by unfold onF at o1 o2; grind
     rcases F_mul0 this with c | c
     ·exact absurd (by grind) hy
     ·grind
    subst hyy
    obtain ⟨p1,p2,p3⟩:=f_op o1
    rw [ptF_Y hd] at p3
    refine ⟨trivial,(cF (x1,y1,1) (x1, -y1,1)).2.1,?_,?_⟩
    ·rw [p3]; exact F_ne (F_ne hd (F_ne hd hd)) (onF_y on3)
    ·show cF (x1,y1,1) (x1, -y1,1)=_
     unfold sc rep
     refine Prod.ext ?_ (Prod.ext ?_ ?_)
     ·rw [p1]; dsimp only; grind
     ·dsimp only; grind
     ·rw [p2]; dsimp only; grind
  ·have hd:x2 - x1 ≠ 0:=fun h=>hx (by grind)
   have es:sumF (some (x1,y1)) (some (x2,y2))=some (ptF x1 y1 x2 (y2 - y1) (x2 - x1)):=if_neg hx
   rw [es]
   have c1:=f_chX o1 o2
   have c2:=f_chY o1 o2
   have c3:=f_chZ o1 o2
   have c4:=f_onP o1 o2
   have c5:=f_onM o1 o2
   rw [ptF_Y hd,ptF_X hd x1 y1] at c4 c5
   rw [ptF_X hd x1 y1] at c1
   rw [ptF_Y hd] at c2 c3
   refine ⟨onJ_F hd c4,(cF (x1,y1,1) (x2,y2,1)).2.2,?_,?_⟩
   ·rw [c3]; exact F_ne (F_ne hd (F_ne hd hd)) (onF_y (onJ_F hd c5))
   ·show cF (x1,y1,1) (x2,y2,1)=_
    unfold sc rep
    clear c3 c4 c5
    generalize cF (x1,y1,1) (x2,y2,1)=C at *
    generalize ptF x1 y1 x2 (y2 - y1) (x2 - x1)=Q at *
    generalize x2 - x1=D at *
    refine Prod.ext ?_ (Prod.ext ?_ ?_)
    ·refine F_cancel (F_ne hd hd) ?_
     dsimp only
     grind
    ·refine F_cancel (F_ne hd (F_ne hd hd)) ?_
     dsimp only
     grind
    ·dsimp only
     grind
def Is (t:F3) (p:Pt):Prop := ∃ l,l ≠ 0∧t=sc l (rep p)
theorem Is_rep (p:Pt):Is (rep p) p:=⟨1,F_10,by unfold sc; refine Prod.ext ?_ (Prod.ext ?_ ?_) <;> dsimp only <;> grind⟩
theorem Is_sum {t u:F3} {p q:Pt} (ht:Is t p) (hu:Is u q) (hp:okP p) (hq:okP q):Is (cF t u) (sumF p q):=by
 obtain ⟨l,hl,rfl⟩:=ht
 obtain ⟨m,hm,rfl⟩:=hu
 obtain ⟨-,k,hk,e⟩:=sum_step p q hp hq
 have:=F_ne hl hm
 exact ⟨l * m * (l * m) * k,F_ne (F_ne this this) hk,by rw [cF_sc,e,sc_sc]⟩
theorem Is_eq {t u:F3} {p q:Pt} (ht:Is t p) (hu:Is u q) (h1:crF t.1 t.2.2 u.1 u.2.2=0) (h2:crF t.2.1 t.2.2 u.2.1 u.2.2=0):p=q:=by
 obtain ⟨l,hl,rfl⟩:=ht
 obtain ⟨m,hm,rfl⟩:=hu
 have hlm:=F_ne hl hm
 unfold crF sc at h1 h2
 cases p with
 | none=>cases q with
  | none=>rfl
  | some q=>exact absurd (by simp only [rep] at h2; grind) hlm
 | some p=>cases q with
  | none=>exact absurd (by simp only [rep] at h2; grind) hlm
  | some q =>
   obtain ⟨x1,y1⟩:=p
   obtain ⟨x2,y2⟩:=q
   simp only [rep] at h1 h2
   have e1:l * m * x1=l * m * x2:=by grind
   have e2:l * m * y1=l * m * y2:=by grind
   rw [F_cancel hlm e1,F_cancel hlm e2]
noncomputable def gP:Pt:=some (gX,gY)
theorem gP_ok:okP gP:=by
 show mk (GY:Int) * mk (GY:Int)=mk (GX:Int) * mk (GX:Int) * mk (GX:Int) - mk 3 * mk (GX:Int)+mk (B256:Int)
 exact mk_eq.2 (by unfold eqm; decide +kernel)
theorem sum_ok {p q:Pt} (hp:okP p) (hq:okP q):okP (sumF p q):=(sum_step p q hp hq).1
theorem sum_as (p q:Pt) (hp:okP p) (hq:okP q):sumF (sumF p q) gP=sumF p (sumF q gP):=by
 cases p with
 | none=>rfl
 | some p=>cases q with
  | none=>rfl
  | some q =>
   have h:=f_as (x1:=p.1) (y1:=p.2) (x2:=q.1) (y2:=q.2) hp hq
   exact Is_eq (Is_sum (Is_sum (Is_rep (some p)) (Is_rep (some q)) hp hq) (Is_rep gP) (sum_ok hp hq) gP_ok) (Is_sum (Is_rep (some p)) (Is_sum (Is_rep (some q)) (Is_rep gP) hq gP_ok) hp (sum_ok hq gP_ok)) h.1 h.2.1
noncomputable def sG:Nat → Pt
 | 0=>none
 | n+1=>sumF (sG n) gP
theorem sG_ok : ∀ n,okP (sG n)
 | 0=>trivial
 | n+1=>sum_ok (sG_ok n) gP_ok
theorem sG_add (a:Nat) : ∀ b,sumF (sG a) (sG b)=sG (a+b)
 | 0=>sum_none _
 | b+1=>by
  show sumF (sG a) (sumF (sG b) gP)=sumF (sG (a+b)) gP
  rw [← sum_as _ _ (sG_ok a) (sG_ok b),sG_add a b]
end Go.Nt
end

section
namespace Go.Nt
abbrev N3:=Nat × Nat × Nat
def kN (n:Nat):Nat:=n
def cN (p q:N3):N3:=cAdd rN kN p q
def mkNt (t:N3):F3:=(mk (t.1:Int),mk (t.2.1:Int),mk (t.2.2:Int))
theorem mkNt_c (p q:N3):mkNt (cN p q)=cF (mkNt p) (mkNt q):=by
 have h:=R_cAdd (k:=kN) sndN (fun n => .refl _) (p:=p) (q:=q) (p':=((p.1:Int),(p.2.1:Int),(p.2.2:Int))) (q':=((q.1:Int),(q.2.1:Int),(q.2.2:Int))) ⟨.refl _, .refl _, .refl _⟩ ⟨.refl _, .refl _, .refl _⟩
 have e:=mkC ((p.1:Int),(p.2.1:Int),(p.2.2:Int)) ((q.1:Int),(q.2.1:Int),(q.2.2:Int))
 refine Eq.trans ?_ e
 exact Prod.ext (mk_eq.2 h.1) (Prod.ext (mk_eq.2 h.2.1) (mk_eq.2 h.2.2))
def mulN:Nat → N3 → Nat → N3
 | 0,_,_=>(0,1,0)
 | f+1,p,e=>if e=0 then (0,1,0) else if e % 2=1 then cN p (mulN f (cN p p) (e / 2)) else mulN f (cN p p) (e / 2)
theorem mulN_is : ∀ (f:Nat) (p:N3) (k e:Nat),Is (mkNt p) (sG k) → e<2 ^ f → Is (mkNt (mulN f p e)) (sG (k * e))
 | 0,p,k,e,h,he=>by
  have:e=0:=by rw [Nat.pow_zero] at he; omega
  subst this
  exact Is_rep none
 | f+1,p,k,e,h,he=>by
  unfold mulN
  by_cases h0:e=0
  ·rw [if_pos h0,h0]; exact Is_rep none
  rw [if_neg h0]
  have hd:Is (mkNt (cN p p)) (sG (k+k)):=by
   rw [mkNt_c, ← sG_add]
   exact Is_sum h h (sG_ok k) (sG_ok k)
  have ih:=mulN_is f (cN p p) (k+k) (e / 2) hd (by rw [Nat.pow_succ] at he; omega)
  by_cases h1:e % 2=1
  ·rw [if_pos h1,mkNt_c]
   have e2:k * e=k+(k+k) * (e / 2):=by
    have:e=1+2 * (e / 2):=by omega
    generalize e / 2=m at *
    subst this
    rw [Nat.mul_add,Nat.mul_one, ← Nat.two_mul,Nat.mul_comm 2 k,Nat.mul_assoc]
   rw [e2, ← sG_add]
   exact Is_sum h ih (sG_ok _) (sG_ok _)
  ·rw [if_neg h1]
   have e2:k * e=(k+k) * (e / 2):=by
    have:e=2 * (e / 2):=by omega
    generalize e / 2=m at *
    subst this
    rw [← Nat.two_mul,Nat.mul_comm 2 k,Nat.mul_assoc]
   rw [e2]; exact ih
theorem ord_z:(mulN 256 (GX,GY,1) N256).2.2=0:=by decide +kernel
theorem Is_none {t:F3} {p:Pt} (h:Is t p) (hz:t.2.2=0):p=none:=by
 obtain ⟨l,hl,rfl⟩:=h
 cases p with
 | none=>rfl
 | some p =>
  refine absurd ?_ hl
  have:l * 1=0:=hz
  grind
theorem sG_ord:sG N256=none:=by
 have h:=mulN_is 256 (GX,GY,1) 1 N256 (Is_rep gP) (by decide)
 rw [Nat.one_mul] at h
 refine Is_none h ?_
 show mk (((mulN 256 (GX,GY,1) N256).2.2:Nat):Int)=0
 rw [ord_z]; rfl
theorem sG_mod (n:Nat):sG n=sG (n % N256):=by
 have h : ∀ q,sG (N256 * q)=none:=fun q=>by
  induction q with
  | zero=>rfl
  | succ q ih=>rw [Nat.mul_succ, ← sG_add,ih,sG_ord]; rfl
 have:sG (N256 * (n / N256)+n % N256)=sG (n % N256):=by rw [← sG_add,h]; rfl
 rwa [Nat.div_add_mod] at this
end Go.Nt
end

/-
  Part 6 of the proof of EcdsaTwins.
-/
import Derived.Test.YtiofnmmggblcgaaEcdsaTwinsA1
import Derived.Test.YtiofnmmggblcgaaEcdsaTwinsA2
import Derived.Test.YtiofnmmggblcgaaEcdsaTwinsA3
import Derived.Test.YtiofnmmggblcgaaEcdsaTwinsA4
import Derived.Test.YtiofnmmggblcgaaEcdsaTwinsA5
set_option linter.unusedVariables false
set_option linter.unusedSimpArgs false
section
namespace Go.Nt
section
variable {α:Type} {r:Rg α} {ev:α → Int} {k:Nat → α} (h:Snd r ev) (hk : ∀ n,eqm (ev (k n)) (n:Int))
include h in
theorem R_add {a b:α} {x y:Int} (ha:eqm (ev a) x) (hb:eqm (ev b) y):eqm (ev (r.add a b)) (rI.add x y):=(h.add a b).trans (ha.add hb)
include h in
theorem R_mul {a b:α} {x y:Int} (ha:eqm (ev a) x) (hb:eqm (ev b) y):eqm (ev (r.mul a b)) (rI.mul x y):=(h.mul a b).trans (ha.mul hb)
include h hk
theorem R_ng {a:α} {x:Int} (ha:eqm (ev a) x):eqm (ev (ng r k a)) (ng rI kI x):=R_mul h (hk _) ha
theorem R_sb {a b:α} {x y:Int} (ha:eqm (ev a) x) (hb:eqm (ev b) y):eqm (ev (sb r k a b)) (sb rI kI x y):=R_add h ha (R_ng h hk hb)
theorem R_cU {a b c:α} {x y z:Int} (ha:eqm (ev a) x) (hb:eqm (ev b) y) (hc:eqm (ev c) z):eqm (ev (cU r k a b c)) (cU rI kI x y z):=R_add h hb (R_add h (R_mul h (hk _) ha) (R_ng h hk (R_mul h (hk _) hc)))
theorem R_cV {a b c:α} {x y z:Int} (ha:eqm (ev a) x) (hb:eqm (ev b) y) (hc:eqm (ev c) z):eqm (ev (cV r k a b c)) (cV rI kI x y z):=R_add h hb (R_add h (R_ng h hk (R_mul h (hk _) ha)) (R_mul h (hk _) hc))
theorem R_cW {a b c:α} {x y z:Int} (ha:eqm (ev a) x) (hb:eqm (ev b) y) (hc:eqm (ev c) z):eqm (ev (cW r k a b c)) (cW rI kI x y z):=R_add h (R_ng h hk (R_mul h (hk _) ha)) (R_add h (R_mul h (hk _) hb) (R_ng h hk (R_mul h (hk _) hc)))
theorem R_cT {a c:α} {x z:Int} (ha:eqm (ev a) x) (hc:eqm (ev c) z):eqm (ev (cT r k a c)) (cT rI kI x z):=R_add h (R_mul h (hk _) ha) (R_ng h hk (R_mul h (hk _) hc))
def R3v (ev:α → Int) (t:α × α × α) (v:Int × Int × Int):Prop:=eqm (ev t.1) v.1∧eqm (ev t.2.1) v.2.1∧eqm (ev t.2.2) v.2.2
theorem R_cAdd {p q:α × α × α} {p' q':Int × Int × Int} (hp:R3v ev p p') (hq:R3v ev q q'):R3v ev (cAdd r k p q) (cAdd rI kI p' q'):=by
 obtain ⟨a1,a2,a3⟩:=hp
 obtain ⟨b1,b2,b3⟩:=hq
 have xx:=R_mul h a1 b1
 have yy:=R_mul h a2 b2
 have zz:=R_mul h a3 b3
 have xy:=R_add h (R_mul h a1 b2) (R_mul h b1 a2)
 have yz:=R_add h (R_mul h a2 b3) (R_mul h b2 a3)
 have xz:=R_add h (R_mul h a1 b3) (R_mul h b1 a3)
 have u:=R_cU h hk xz yy zz
 have v:=R_cV h hk xz yy zz
 have w:=R_cW h hk xx xz zz
 have t:=R_cT h hk xx zz
 exact ⟨R_sb h hk (R_mul h xy u) (R_mul h yz w),R_add h (R_mul h t w) (R_mul h v u),R_add h (R_mul h yz v) (R_mul h xy t)⟩
theorem R_chX {a b c d:α} {x y n m:Int} (ha:eqm (ev a) x) (hb:eqm (ev b) y) (hc:eqm (ev c) n) (hd:eqm (ev d) m):eqm (ev (chX r k a b c d)) (chX rI kI x y n m):=R_sb h hk (R_mul h hc hc) (R_mul h (R_add h ha hb) (R_mul h hd hd))
theorem R_chY {a b c d e:α} {x y n m z:Int} (ha:eqm (ev a) x) (hb:eqm (ev b) y) (hc:eqm (ev c) n) (hd:eqm (ev d) m) (he:eqm (ev e) z):eqm (ev (chY r k a b c d e)) (chY rI kI x y n m z) :=
 R_sb h hk (R_mul h hc (R_sb h hk (R_mul h ha (R_mul h hd hd)) he)) (R_mul h hb (R_mul h hd (R_mul h hd hd)))
theorem R_onJ {a b c:α} {x y z:Int} (ha:eqm (ev a) x) (hb:eqm (ev b) y) (hc:eqm (ev c) z):eqm (ev (onJ r k a b c)) (onJ rI kI x y z) :=
 R_sb h hk (R_mul h hb hb) (R_add h (R_mul h ha (R_mul h ha ha)) (R_mul h (R_mul h (R_mul h hc hc) (R_mul h hc hc)) (R_add h (R_ng h hk (R_mul h (hk _) ha)) (R_mul h (hk _) (R_mul h hc hc)))))
theorem R_cross {a b c d:α} {x y z w:Int} (ha:eqm (ev a) x) (hb:eqm (ev b) y) (hc:eqm (ev c) z) (hd:eqm (ev d) w):eqm (ev (cross r k a b c d)) (cross rI kI x y z w):=R_sb h hk (R_mul h ha hd) (R_mul h hb hc)
end
def onC (x y:Int):Prop:=eqm (y * y) (cub x)
def e1 (x1:Int):R1 → Int:=lev (fun n:Nat=>(n:Int)) x1
def e2 (x1 y1:Int):R2 → Int:=evP (e1 x1) y1
def e3 (x1 y1 x2:Int):R3 → Int:=lev (e2 x1 y1) x2
def e4 (x1 y1 x2 y2:Int):R4 → Int:=evP (e3 x1 y1 x2) y2
theorem snd4 {x1 y1 x2 y2:Int} (h1:onC x1 y1) (h2:onC x2 y2):Snd r4 (e4 x1 y1 x2 y2):=by
 refine sndP (sndL (sndP (sndL sndN x1) y1 _ ?_) x2) y2 _ ?_
 ·exact h1
 ·have:lev (evP (lev (fun n:Nat=>(n:Int)) x1) y1) x2 [([B256],[]),([P256 - 3],[]),([],[]),([1],[])]=cub x2:=by
   simp only [lev,evP,cub,Int.mul_zero,Int.add_zero,Int.zero_mul]
   simp
  rw [this]; exact h2
section
variable {x1 y1 x2 y2:Int} (h1:onC x1 y1) (h2:onC x2 y2)
theorem k4_ev (n:Nat):eqm (e4 x1 y1 x2 y2 (k4 n)) (n:Int):=by
 have:e4 x1 y1 x2 y2 (k4 n)=(n:Int):=by simp [e4,e3,e2,e1,evP,lev,k4]
 rw [this]; exact .refl _
theorem vx1_ev:eqm (e4 x1 y1 x2 y2 vx1) x1:=by
 have:e4 x1 y1 x2 y2 vx1=x1:=by simp [e4,e3,e2,e1,evP,lev,vx1]
 rw [this]; exact .refl _
theorem vy1_ev:eqm (e4 x1 y1 x2 y2 vy1) y1:=by
 have:e4 x1 y1 x2 y2 vy1=y1:=by simp [e4,e3,e2,e1,evP,lev,vy1]
 rw [this]; exact .refl _
theorem vx2_ev:eqm (e4 x1 y1 x2 y2 vx2) x2:=by
 have:e4 x1 y1 x2 y2 vx2=x2:=by simp [e4,e3,e2,e1,evP,lev,vx2]
 rw [this]; exact .refl _
theorem vy2_ev:eqm (e4 x1 y1 x2 y2 vy2) y2:=by
 have:e4 x1 y1 x2 y2 vy2=y2:=by simp [e4,e3,e2,e1,evP,lev,vy2]
 rw [this]; exact .refl _
theorem p4_ev:R3v (e4 x1 y1 x2 y2) p4 (x1,y1,1):=⟨vx1_ev,vy1_ev,k4_ev 1⟩
theorem q4_ev:R3v (e4 x1 y1 x2 y2) q4 (x2,y2,1):=⟨vx2_ev,vy2_ev,k4_ev 1⟩
theorem g4_ev:R3v (e4 x1 y1 x2 y2) g4 ((GX:Int),(GY:Int),1):=⟨k4_ev GX,k4_ev GY,k4_ev 1⟩
theorem nought {a:R4} {z:Int} (hs:Snd r4 (e4 x1 y1 x2 y2)) (ha:r4.isz a=true) (hz:eqm (e4 x1 y1 x2 y2 a) z):eqm z 0:=hz.symm.trans (hs.isz a ha)
abbrev cI:=cAdd rI kI
abbrev sI (a b:Int):Int:=sb rI kI a b
include h1 h2
theorem z_chX:eqm (cross rI kI (cI (x1,y1,1) (x2,y2,1)).1 (cI (x1,y1,1) (x2,y2,1)).2.2 (chX rI kI x1 x2 (sI y2 y1) (sI x2 x1)) (rI.mul (sI x2 x1) (sI x2 x1))) 0:=by
 have s:=snd4 h1 h2
 have c:=R_cAdd s k4_ev p4_ev q4_ev
 have d:=R_sb s k4_ev vx2_ev vx1_ev
 have n:=R_sb s k4_ev vy2_ev vy1_ev
 exact nought s id_chX (R_cross s k4_ev c.1 c.2.2 (R_chX s k4_ev vx1_ev vx2_ev n d) (R_mul s d d))
theorem z_chY:eqm (cross rI kI (cI (x1,y1,1) (x2,y2,1)).2.1 (cI (x1,y1,1) (x2,y2,1)).2.2 (chY rI kI x1 y1 (sI y2 y1) (sI x2 x1) (chX rI kI x1 x2 (sI y2 y1) (sI x2 x1))) (rI.mul (sI x2 x1) (rI.mul (sI x2 x1) (sI x2 x1)))) 0:=by
 have s:=snd4 h1 h2
 have c:=R_cAdd s k4_ev p4_ev q4_ev
 have d:=R_sb s k4_ev vx2_ev vx1_ev
 have n:=R_sb s k4_ev vy2_ev vy1_ev
 exact nought s id_chY (R_cross s k4_ev c.2.1 c.2.2 (R_chY s k4_ev vx1_ev vy1_ev n d (R_chX s k4_ev vx1_ev vx2_ev n d)) (R_mul s d (R_mul s d d)))
theorem z_chZ:eqm (sI (cI (x1,y1,1) (x2,y2,1)).2.2 (chY rI kI x1 y1 (sI (ng rI kI y2) y1) (sI x2 x1) (chX rI kI x1 x2 (sI (ng rI kI y2) y1) (sI x2 x1)))) 0:=by
 have s:=snd4 h1 h2
 have c:=R_cAdd s k4_ev p4_ev q4_ev
 have d:=R_sb s k4_ev vx2_ev vx1_ev
 have n:=R_sb s k4_ev (R_ng s k4_ev vy2_ev) vy1_ev
 exact nought s id_chZ (R_sb s k4_ev c.2.2 (R_chY s k4_ev vx1_ev vy1_ev n d (R_chX s k4_ev vx1_ev vx2_ev n d)))
theorem z_onP:eqm (onJ rI kI (chX rI kI x1 x2 (sI y2 y1) (sI x2 x1)) (chY rI kI x1 y1 (sI y2 y1) (sI x2 x1) (chX rI kI x1 x2 (sI y2 y1) (sI x2 x1))) (sI x2 x1)) 0:=by
 have s:=snd4 h1 h2
 have d:=R_sb s k4_ev vx2_ev vx1_ev
 have n:=R_sb s k4_ev vy2_ev vy1_ev
 have x:=R_chX s k4_ev vx1_ev vx2_ev n d
 exact nought s id_onP (R_onJ s k4_ev x (R_chY s k4_ev vx1_ev vy1_ev n d x) d)
theorem z_onM:eqm (onJ rI kI (chX rI kI x1 x2 (sI (ng rI kI y2) y1) (sI x2 x1)) (chY rI kI x1 y1 (sI (ng rI kI y2) y1) (sI x2 x1) (chX rI kI x1 x2 (sI (ng rI kI y2) y1) (sI x2 x1))) (sI x2 x1)) 0:=by
 have s:=snd4 h1 h2
 have d:=R_sb s k4_ev vx2_ev vx1_ev
 have n:=R_sb s k4_ev (R_ng s k4_ev vy2_ev) vy1_ev
 have x:=R_chX s k4_ev vx1_ev vx2_ev n d
 exact nought s id_onM (R_onJ s k4_ev x (R_chY s k4_ev vx1_ev vy1_ev n d x) d)
theorem z_as:let a:=cI (cI (x1,y1,1) (x2,y2,1)) ((GX:Int),(GY:Int),1); let b:=cI (x1,y1,1) (cI (x2,y2,1) ((GX:Int),(GY:Int),1));
  eqm (cross rI kI a.1 a.2.2 b.1 b.2.2) 0∧eqm (cross rI kI a.2.1 a.2.2 b.2.1 b.2.2) 0∧eqm (cross rI kI a.1 a.2.1 b.1 b.2.1) 0:=by
 have s:=snd4 h1 h2
 have a:=R_cAdd s k4_ev (R_cAdd s k4_ev p4_ev q4_ev) g4_ev
 have b:=R_cAdd s k4_ev p4_ev (R_cAdd s k4_ev q4_ev g4_ev)
 have ea:cAdd r4 k4 (cAdd r4 k4 p4 q4) g4=(sb_X,sb_Y,sb_Z):=by
  rw [show cAdd r4 k4 p4 q4=(saX,saY,saZ) from esa]; exact esb_
 have eb:cAdd r4 k4 p4 (cAdd r4 k4 q4 g4)=(sdX,sdY,sdZ):=by
  rw [show cAdd r4 k4 q4 g4=(scX,scY,scZ) from esc]; exact esd
 rw [ea] at a
 rw [eb] at b
 exact ⟨nought s cra (R_cross s k4_ev a.1 a.2.2 b.1 b.2.2),nought s crb (R_cross s k4_ev a.2.1 a.2.2 b.2.1 b.2.2),nought s crc (R_cross s k4_ev a.1 a.2.1 b.1 b.2.1)⟩
end
section
variable {x y:Int} (h1:onC x y)
abbrev tI (x:Int):Int:=rI.add (rI.mul 3 (rI.mul x x)) ((P256 - 3:Nat):Int)
abbrev wI (y:Int):Int:=rI.add y y
include h1
theorem z_ta:eqm (cross rI kI (cI (x,y,1) (x,y,1)).1 (cI (x,y,1) (x,y,1)).2.2 (chX rI kI x x (tI x) (wI y)) (rI.mul (wI y) (wI y))) 0
  ∧ eqm (cross rI kI (cI (x,y,1) (x,y,1)).2.1 (cI (x,y,1) (x,y,1)).2.2 (chY rI kI x y (tI x) (wI y) (chX rI kI x x (tI x) (wI y))) (rI.mul (wI y) (rI.mul (wI y) (wI y)))) 0
  ∧ eqm (sI (cI (x,y,1) (x,y,1)).2.2 (rI.mul (wI y) (rI.mul (wI y) (wI y)))) 0
  ∧ eqm (onJ rI kI (chX rI kI x x (tI x) (wI y)) (chY rI kI x y (tI x) (wI y) (chX rI kI x x (tI x) (wI y))) (wI y)) 0:=by
 have s:Snd r4 (e4 x y x y):=snd4 h1 h1
 have c:=R_cAdd s k4_ev p4_ev p4_ev
 have t:=R_add s (R_mul s (k4_ev 3) (R_mul s vx1_ev vx1_ev)) (k4_ev (P256 - 3))
 have w:=R_add s vy1_ev vy1_ev
 have X:=R_chX s k4_ev vx1_ev vx1_ev t w
 have Y:=R_chY s k4_ev vx1_ev vy1_ev t w X
 have w3:=R_mul s w (R_mul s w w)
 exact ⟨nought s id_taX (R_cross s k4_ev c.1 c.2.2 X (R_mul s w w)),nought s id_taY (R_cross s k4_ev c.2.1 c.2.2 Y w3),nought s id_taZ (R_sb s k4_ev c.2.2 w3),nought s id_onT (R_onJ s k4_ev X Y w)⟩
theorem z_op:eqm (cI (x,y,1) (x,ng rI kI y,1)).1 0∧eqm (cI (x,y,1) (x,ng rI kI y,1)).2.2 0∧eqm (sI (cI (x,y,1) (x,ng rI kI y,1)).2.1 (chY rI kI x y (tI x) (wI y) (chX rI kI x x (tI x) (wI y)))) 0:=by
 have s:Snd r4 (e4 x y x y):=snd4 h1 h1
 have c:=R_cAdd s k4_ev (p4_ev (x1:=x) (y1:=y) (x2:=x) (y2:=y)) (q:=o4) (q':=(x,ng rI kI y,1)) ⟨vx1_ev,R_ng s k4_ev vy1_ev,k4_ev 1⟩
 have t:=R_add s (R_mul s (k4_ev 3) (R_mul s vx1_ev vx1_ev)) (k4_ev (P256 - 3))
 have w:=R_add s vy1_ev vy1_ev
 have X:=R_chX s k4_ev vx1_ev vx1_ev t w
 exact ⟨nought s id_opX c.1,nought s id_opZ c.2.2,nought s id_opY (R_sb s k4_ev c.2.1 (R_chY s k4_ev vx1_ev vy1_ev t w X))⟩
end
end Go.Nt
end

section
namespace Go.Nt
instance stm:Setoid Int:=⟨eqm,⟨eqm.refl,eqm.symm,eqm.trans⟩⟩
def Fp:Type:=Quotient stm
def mk (a:Int):Fp:=Quotient.mk stm a
theorem mk_eq {a b:Int}:mk a=mk b ↔ eqm a b:=⟨Quotient.exact,Quotient.sound (s:=stm)⟩
theorem mk_ex (x:Fp) : ∃ a,x=mk a:=by
 induction x using Quotient.ind with | _ a=>exact ⟨a,rfl⟩
instance:Add Fp:=⟨Quotient.lift₂ (fun a b=>mk (a+b)) fun _ _ _ _ h k=>mk_eq.2 (eqm.add h k)⟩
instance:Mul Fp:=⟨Quotient.lift₂ (fun a b=>mk (a * b)) fun _ _ _ _ h k=>mk_eq.2 (eqm.mul h k)⟩
instance:Neg Fp:=⟨Quotient.lift (fun a=>mk (-a)) fun _ _ h=>mk_eq.2 (eqm.neg h)⟩
instance:Sub Fp:=⟨Quotient.lift₂ (fun a b=>mk (a - b)) fun _ _ _ _ h k=>mk_eq.2 (eqm.sub h k)⟩
instance:NatCast Fp:=⟨fun n=>mk (n:Int)⟩
instance:IntCast Fp:=⟨mk⟩
instance (n:Nat):OfNat Fp n:=⟨mk (n:Int)⟩
def npowF (x:Fp):Nat → Fp
 | 0=>mk 1
 | n+1=>npowF x n * x
instance:HPow Fp Nat Fp:=⟨npowF⟩
instance:SMul Nat Fp:=⟨fun n x=>(n:Fp) * x⟩
instance:SMul Int Fp:=⟨fun n x=>(n:Fp) * x⟩
theorem mk_add (a b:Int):mk a+mk b=mk (a+b):=rfl
theorem mk_mul (a b:Int):mk a * mk b=mk (a * b):=rfl
theorem mk_sub (a b:Int):mk a - mk b=mk (a - b):=rfl
instance:Lean.Grind.CommRing Fp where
 nsmul:=inferInstance
 zsmul:=inferInstance
 npow:=inferInstance
 natCast:=inferInstance
 intCast:=inferInstance
 ofNat:=inferInstance
 add_zero a:=by obtain ⟨x,rfl⟩:=mk_ex a; exact congrArg mk (Int.add_zero x)
 add_comm a b:=by obtain ⟨x,rfl⟩:=mk_ex a; obtain ⟨y,rfl⟩:=mk_ex b; exact congrArg mk (Int.add_comm x y)
 add_assoc a b c:=by obtain ⟨x,rfl⟩:=mk_ex a; obtain ⟨y,rfl⟩:=mk_ex b; obtain ⟨z,rfl⟩:=mk_ex c; exact congrArg mk (Int.add_assoc x y z)
 mul_comm a b:=by obtain ⟨x,rfl⟩:=mk_ex a; obtain ⟨y,rfl⟩:=mk_ex b; exact congrArg mk (Int.mul_comm x y)
 mul_assoc a b c:=by obtain ⟨x,rfl⟩:=mk_ex a; obtain ⟨y,rfl⟩:=mk_ex b; obtain ⟨z,rfl⟩:=mk_ex c; exact congrArg mk (Int.mul_assoc x y z)
 mul_one a:=by obtain ⟨x,rfl⟩:=mk_ex a; exact congrArg mk (Int.mul_one x)
 one_mul a:=by obtain ⟨x,rfl⟩:=mk_ex a; exact congrArg mk (Int.one_mul x)
 mul_zero a:=by obtain ⟨x,rfl⟩:=mk_ex a; exact congrArg mk (Int.mul_zero x)
 right_distrib a b c:=by obtain ⟨x,rfl⟩:=mk_ex a; obtain ⟨y,rfl⟩:=mk_ex b; obtain ⟨z,rfl⟩:=mk_ex c; exact congrArg mk (Int.add_mul x y z)
 left_distrib a b c:=by obtain ⟨x,rfl⟩:=mk_ex a; obtain ⟨y,rfl⟩:=mk_ex b; obtain ⟨z,rfl⟩:=mk_ex c; exact congrArg mk (Int.mul_add x y z)
 zero_mul a:=by obtain ⟨x,rfl⟩:=mk_ex a; exact congrArg mk (Int.zero_mul x)
 pow_zero a:=rfl
 pow_succ a n:=rfl
 ofNat_succ a:=congrArg mk (Int.natCast_succ a)
 ofNat_eq_natCast n:=rfl
 nsmul_eq_natCast_mul n a:=rfl
 neg_add_cancel a:=by obtain ⟨x,rfl⟩:=mk_ex a; exact congrArg mk (Int.add_left_neg x)
 sub_eq_add_neg a b:=by obtain ⟨x,rfl⟩:=mk_ex a; obtain ⟨y,rfl⟩:=mk_ex b; exact congrArg mk (Int.sub_eq_add_neg)
 neg_zsmul i a:=by obtain ⟨x,rfl⟩:=mk_ex a; exact congrArg mk (Int.neg_mul i x)
 zsmul_natCast_eq_nsmul n a:=rfl
 intCast_ofNat n:=rfl
 intCast_neg i:=rfl
theorem mk0 (a:Int):mk a=0 ↔ eqm a 0:=mk_eq
theorem F_mul0 {a b:Fp} (h:a * b=0):a=0 ∨ b=0:=by
 obtain ⟨x,rfl⟩:=mk_ex a
 obtain ⟨y,rfl⟩:=mk_ex b
 rw [mk0,mk0]
 exact eqm_mul0 ((mk0 _).1 h)
theorem F_inv {a:Fp} (h:a ≠ 0) : ∃ b:Fp,a * b=1:=by
 obtain ⟨x,rfl⟩:=mk_ex a
 obtain ⟨y,hy⟩:=eqm_inv (fun c=>h ((mk0 x).2 c))
 exact ⟨mk y,mk_eq.2 hy⟩
open Classical in
noncomputable def invF (a:Fp):Fp:=if h:a ≠ 0 then Classical.choose (F_inv h) else 0
theorem invF_mul {a:Fp} (h:a ≠ 0):a * invF a=1:=by
 unfold invF
 rw [dif_pos h]
 exact Classical.choose_spec (F_inv h)
theorem F_cancel {a b c:Fp} (hc:c ≠ 0) (h:c * a=c * b):a=b:=by
 have h0:c * (a - b)=0:=by grind
 rcases F_mul0 h0 with h1 | h1
 ·exact absurd h1 hc
 ·grind
theorem F_ne {a b:Fp} (ha:a ≠ 0) (hb:b ≠ 0):a * b ≠ 0:=fun h=>(F_mul0 h).elim ha hb
theorem F_10:(1:Fp) ≠ 0:=fun h=>one_ne (mk_eq.1 h)
def fB:Fp:=mk (B256:Int)
def onF (x y:Fp):Prop:=y * y=x * x * x - 3 * x+fB
theorem onC_of {a b:Int} (h:onF (mk a) (mk b)):onC a b:=by
 unfold onC
 refine (mk_eq.1 h).trans ?_
 refine eqm.trans ?_ (cub_eq a).symm
 exact mk_eq.1 (by show mk (a * a * a - 3 * a+B256)=mk (a * (a * a) - 3 * a+B256); rw [Int.mul_assoc])
theorem F_root (x:Fp):x * x * x - 3 * x+fB ≠ 0:=by
 obtain ⟨a,rfl⟩:=mk_ex x
 intro h
 refine no_root a ((cub_eq a).trans ?_)
 have:mk (a * a * a - 3 * a+B256)=mk 0:=h
 rw [Int.mul_assoc] at this
 exact mk_eq.1 this
theorem onF_y {x y:Fp} (h:onF x y):y ≠ 0:=by
 rintro rfl
 refine F_root x ?_
 unfold onF at h
 grind
end Go.Nt
end

section
namespace Go.Nt
theorem mkM (a b:Int):mk (rI.mul a b)=mk a * mk b:=rfl
theorem mkA (a b:Int):mk (rI.add a b)=mk a+mk b:=rfl
theorem mkS (a b:Int):mk (sb rI kI a b)=mk a - mk b:=mk_eq.2 (sI_eqm a b)
theorem mkN (a:Int):mk (ng rI kI a) = - mk a:=mk_eq.2 (ng_eqm a)
theorem mk3:mk (kI 3)=(3:Fp):=rfl
theorem mk9:mk (kI 9)=(9:Fp):=rfl
theorem mkB:mk (kI B256)=fB:=rfl
theorem mk3B:mk (kI (3 * B256 % P256))=3 * fB:=mk_eq.2 (by
 refine (eqm_nat (3 * B256)).trans ?_
 rw [Int.natCast_mul]; exact .refl _)
theorem mkP3:mk ((P256 - 3:Nat):Int)=(-3:Fp):=by
 refine mk_eq.2 ?_
 have h3:3≤P256:=by decide
 have:(((P256 - 3:Nat)):Int) = -3+(P256:Int) * 1:=by omega
 rw [this]; exact eqm_add_mul _ _
abbrev F3:=Fp × Fp × Fp
def mkT (t:Int × Int × Int):F3:=(mk t.1,mk t.2.1,mk t.2.2)
def cR' (xy yz u v w t:Fp):F3:=(xy * u - yz * w,t * w+v * u,yz * v+xy * t)
def cS' (xx yy zz xy yz xz:Fp):F3:=cR' xy yz (yy+(3 * xz + -(3 * fB * zz))) (yy+(-(3 * xz)+3 * fB * zz)) (-(3 * xx)+(3 * fB * xz + -(9 * zz))) (3 * xx + -(3 * zz))
def cF (p q:F3):F3:=cS' (p.1 * q.1) (p.2.1 * q.2.1) (p.2.2 * q.2.2) (p.1 * q.2.1+q.1 * p.2.1) (p.2.1 * q.2.2+q.2.1 * p.2.2) (p.1 * q.2.2+q.1 * p.2.2)
theorem mkC (p q:Int × Int × Int):mkT (cI p q)=cF (mkT p) (mkT q):=by
 unfold cF cS' cR' mkT
 simp only [cI,cAdd,cS,cR,cU,cV,cW,cT,mkM,mkA,mkS,mkN,mk3,mk9,mk3B]
def crF (a b c d:Fp):Fp:=a * d - b * c
def chXF (x1 x2 n d:Fp):Fp:=n * n - (x1+x2) * (d * d)
def chYF (x1 y1 n d x:Fp):Fp:=n * (x1 * (d * d) - x) - y1 * (d * (d * d))
def onJF (x y z:Fp):Fp:=y * y - (x * (x * x)+z * z * (z * z) * (-(3 * x)+fB * (z * z)))
theorem mkCr (a b c d:Int):mk (cross rI kI a b c d)=crF (mk a) (mk b) (mk c) (mk d):=by simp only [cross,crF,mkM,mkA,mkS,mkN]
theorem mkX (a b c d:Int):mk (chX rI kI a b c d)=chXF (mk a) (mk b) (mk c) (mk d):=by simp only [chX,chXF,mkM,mkA,mkS,mkN]
theorem mkY (a b c d e:Int):mk (chY rI kI a b c d e)=chYF (mk a) (mk b) (mk c) (mk d) (mk e):=by simp only [chY,chYF,mkM,mkA,mkS,mkN]
theorem mkO (a b c:Int):mk (onJ rI kI a b c)=onJF (mk a) (mk b) (mk c):=by simp only [onJ,onJF,mkM,mkA,mkS,mkN,mk3,mkB]
theorem mkT1 (a b:Int):mkT (a,b,1)=(mk a,mk b,1):=rfl
def gX:Fp:=mk (GX:Int)
def gY:Fp:=mk (GY:Int)
section
variable {x1 y1 x2 y2:Fp} (h1:onF x1 y1) (h2:onF x2 y2)
include h1 h2
theorem f_chX:(cF (x1,y1,1) (x2,y2,1)).1 * ((x2 - x1) * (x2 - x1))=(cF (x1,y1,1) (x2,y2,1)).2.2 * chXF x1 x2 (y2 - y1) (x2 - x1):=by
 obtain ⟨a,rfl⟩:=mk_ex x1; obtain ⟨b,rfl⟩:=mk_ex y1; obtain ⟨c,rfl⟩:=mk_ex x2; obtain ⟨d,rfl⟩:=mk_ex y2
 have z:=(mk0 _).2 (z_chX (onC_of h1) (onC_of h2))
 have e:=mkC (a,b,1) (c,d,1)
 rw [mkT1,mkT1] at e
 rw [← e]
 rw [mkCr,mkX,mkM,mkS,mkS] at z
 unfold crF at z
 show mk _ * _=mk _ * _
 grind
theorem f_chY:(cF (x1,y1,1) (x2,y2,1)).2.1 * ((x2 - x1) * ((x2 - x1) * (x2 - x1)))=(cF (x1,y1,1) (x2,y2,1)).2.2 * chYF x1 y1 (y2 - y1) (x2 - x1) (chXF x1 x2 (y2 - y1) (x2 - x1)):=by
 obtain ⟨a,rfl⟩:=mk_ex x1; obtain ⟨b,rfl⟩:=mk_ex y1; obtain ⟨c,rfl⟩:=mk_ex x2; obtain ⟨d,rfl⟩:=mk_ex y2
 have z:=(mk0 _).2 (z_chY (onC_of h1) (onC_of h2))
 have e:=mkC (a,b,1) (c,d,1)
 rw [mkT1,mkT1] at e
 rw [← e]
 rw [mkCr,mkY,mkX,mkM,mkM,mkS,mkS] at z
 unfold crF at z
 show mk _ * _=mk _ * _
 grind
theorem f_chZ:(cF (x1,y1,1) (x2,y2,1)).2.2=chYF x1 y1 (-y2 - y1) (x2 - x1) (chXF x1 x2 (-y2 - y1) (x2 - x1)):=by
 obtain ⟨a,rfl⟩:=mk_ex x1; obtain ⟨b,rfl⟩:=mk_ex y1; obtain ⟨c,rfl⟩:=mk_ex x2; obtain ⟨d,rfl⟩:=mk_ex y2
 have z:=(mk0 _).2 (z_chZ (onC_of h1) (onC_of h2))
 have e:=mkC (a,b,1) (c,d,1)
 rw [mkT1,mkT1] at e
 rw [← e]
 rw [mkS,mkY,mkX,mkS,mkS,mkN] at z
 show mk _=_
 grind
theorem f_onP:onJF (chXF x1 x2 (y2 - y1) (x2 - x1)) (chYF x1 y1 (y2 - y1) (x2 - x1) (chXF x1 x2 (y2 - y1) (x2 - x1))) (x2 - x1)=0:=by
 obtain ⟨a,rfl⟩:=mk_ex x1; obtain ⟨b,rfl⟩:=mk_ex y1; obtain ⟨c,rfl⟩:=mk_ex x2; obtain ⟨d,rfl⟩:=mk_ex y2
 have z:=(mk0 _).2 (z_onP (onC_of h1) (onC_of h2))
 rw [mkO,mkY,mkX,mkS,mkS] at z
 exact z
theorem f_onM:onJF (chXF x1 x2 (-y2 - y1) (x2 - x1)) (chYF x1 y1 (-y2 - y1) (x2 - x1) (chXF x1 x2 (-y2 - y1) (x2 - x1))) (x2 - x1)=0:=by
 obtain ⟨a,rfl⟩:=mk_ex x1; obtain ⟨b,rfl⟩:=mk_ex y1; obtain ⟨c,rfl⟩:=mk_ex x2; obtain ⟨d,rfl⟩:=mk_ex y2
 have z:=(mk0 _).2 (z_onM (onC_of h1) (onC_of h2))
 rw [mkO,mkY,mkX,mkS,mkS,mkN] at z
 exact z
theorem f_as:let a:=cF (cF (x1,y1,1) (x2,y2,1)) (gX,gY,1); let b:=cF (x1,y1,1) (cF (x2,y2,1) (gX,gY,1));
  crF a.1 a.2.2 b.1 b.2.2=0∧crF a.2.1 a.2.2 b.2.1 b.2.2=0∧crF a.1 a.2.1 b.1 b.2.1=0:=by
 obtain ⟨a,rfl⟩:=mk_ex x1; obtain ⟨b,rfl⟩:=mk_ex y1; obtain ⟨c,rfl⟩:=mk_ex x2; obtain ⟨d,rfl⟩:=mk_ex y2
 obtain ⟨za,zb,zc⟩:=z_as (onC_of h1) (onC_of h2)
 have za:=(mk0 _).2 za
 have zb:=(mk0 _).2 zb
 have zc:=(mk0 _).2 zc
 rw [mkCr] at za zb zc
 have ea:cF (cF (mk a,mk b,1) (mk c,mk d,1)) (gX,gY,1)=mkT (cI (cI (a,b,1) (c,d,1)) ((GX:Int),(GY:Int),1)):=by
  rw [mkC (cI (a,b,1) (c,d,1)) ((GX:Int),(GY:Int),1),mkC (a,b,1) (c,d,1)]; rfl
 have eb:cF (mk a,mk b,1) (cF (mk c,mk d,1) (gX,gY,1))=mkT (cI (a,b,1) (cI (c,d,1) ((GX:Int),(GY:Int),1))):=by
  rw [mkC (a,b,1) (cI (c,d,1) ((GX:Int),(GY:Int),1)),mkC (c,d,1) ((GX:Int),(GY:Int),1)]; rfl
 intro A B
 have hA:A=_:=ea
 have hB:B=_:=eb
 rw [hA,hB]
 exact ⟨za,zb,zc⟩
end
section
variable {x y:Fp} (h:onF x y)
include h
abbrev tF (x:Fp):Fp:=3 * (x * x) + -3
theorem f_ta:(cF (x,y,1) (x,y,1)).1 * ((y+y) * (y+y))=(cF (x,y,1) (x,y,1)).2.2 * chXF x x (tF x) (y+y)
  ∧ (cF (x,y,1) (x,y,1)).2.1 * ((y+y) * ((y+y) * (y+y)))=(cF (x,y,1) (x,y,1)).2.2 * chYF x y (tF x) (y+y) (chXF x x (tF x) (y+y))
  ∧ (cF (x,y,1) (x,y,1)).2.2=(y+y) * ((y+y) * (y+y))
  ∧ onJF (chXF x x (tF x) (y+y)) (chYF x y (tF x) (y+y) (chXF x x (tF x) (y+y))) (y+y)=0:=by
 obtain ⟨a,rfl⟩:=mk_ex x; obtain ⟨b,rfl⟩:=mk_ex y
 obtain ⟨z1,z2,z3,z4⟩:=z_ta (onC_of h)
 have z1:=(mk0 _).2 z1
 have z2:=(mk0 _).2 z2
 have z3:=(mk0 _).2 z3
 have z4:=(mk0 _).2 z4
 have et:mk (tI a)=tF (mk a):=by
  show mk (rI.add (rI.mul 3 (rI.mul a a)) _)=_
  rw [mkA,mkM,mkM,mkP3]; rfl
 have ew:mk (wI b)=mk b+mk b:=rfl
 have e:=mkC (a,b,1) (a,b,1)
 rw [mkT1] at e
 rw [← e]
 rw [mkCr,mkX,mkM,et,ew] at z1
 rw [mkCr,mkY,mkX,mkM,mkM,et,ew] at z2
 rw [mkS,mkM,mkM,ew] at z3
 rw [mkO,mkY,mkX,et,ew] at z4
 unfold crF at z1 z2
 refine ⟨?_,?_,?_,z4⟩
 ·show mk _ * _=mk _ * _
  grind
 ·show mk _ * _=mk _ * _
  grind
 ·show mk _=_
  grind
theorem f_op:(cF (x,y,1) (x, -y,1)).1=0∧(cF (x,y,1) (x, -y,1)).2.2=0∧(cF (x,y,1) (x, -y,1)).2.1=chYF x y (tF x) (y+y) (chXF x x (tF x) (y+y)):=by
 obtain ⟨a,rfl⟩:=mk_ex x; obtain ⟨b,rfl⟩:=mk_ex y
 obtain ⟨z1,z2,z3⟩:=z_op (onC_of h)
 have z1:=(mk0 _).2 z1
 have z2:=(mk0 _).2 z2
 have z3:=(mk0 _).2 z3
 have et:mk (tI a)=tF (mk a):=by
  show mk (rI.add (rI.mul 3 (rI.mul a a)) _)=_
  rw [mkA,mkM,mkM,mkP3]; rfl
 have ew:mk (wI b)=mk b+mk b:=rfl
 have e:=mkC (a,b,1) (a,ng rI kI b,1)
 rw [mkT1,mkT1,mkN] at e
 rw [← e]
 rw [mkS,mkY,mkX,et,ew] at z3
 refine ⟨z1,z2,?_⟩
 show mk _=_
 grind
end
end Go.Nt
end

section
namespace Go.Nt
def sc (l:Fp) (t:F3):F3:=(l * t.1,l * t.2.1,l * t.2.2)
theorem sc_sc (l m:Fp) (t:F3):sc l (sc m t)=sc (l * m) t:=by
 unfold sc
 refine Prod.ext ?_ (Prod.ext ?_ ?_) <;> dsimp only <;> grind
theorem cS_sc (k xx yy zz xy yz xz:Fp):cS' (k * xx) (k * yy) (k * zz) (k * xy) (k * yz) (k * xz)=sc (k * k) (cS' xx yy zz xy yz xz):=by
 unfold cS' cR' sc
 refine Prod.ext ?_ (Prod.ext ?_ ?_) <;> dsimp only <;> grind
theorem cF_sc (l m:Fp) (p q:F3):cF (sc l p) (sc m q)=sc (l * m * (l * m)) (cF p q):=by
 unfold cF
 rw [← cS_sc]
 unfold sc
 dsimp only
 congr 1 <;> grind
abbrev Pt:=Option (Fp × Fp)
def rep:Pt → F3
 | none=>(0,1,0)
 | some p=>(p.1,p.2,1)
def okP:Pt → Prop
 | none=>True
 | some p=>onF p.1 p.2
noncomputable def ptF (x1 y1 x2 n d:Fp):Fp × Fp:=((n * invF d) * (n * invF d) - x1 - x2,(n * invF d) * (x1 - ((n * invF d) * (n * invF d) - x1 - x2)) - y1)
theorem ptF_X {d:Fp} (hd:d ≠ 0) (x1 y1 x2 n:Fp):chXF x1 x2 n d=d * d * (ptF x1 y1 x2 n d).1:=by
 have h:=invF_mul hd
 unfold chXF ptF
 dsimp only
 generalize invF d=e at h
 grind
theorem ptF_Y {d:Fp} (hd:d ≠ 0) (x1 y1 x2 n:Fp):chYF x1 y1 n d (chXF x1 x2 n d)=d * (d * d) * (ptF x1 y1 x2 n d).2:=by
 have h:=invF_mul hd
 unfold chXF chYF ptF
 dsimp only
 generalize invF d=e at h
 have e1:n=d * (n * e):=by grind
 generalize n * e=l at e1
 subst e1
 grind
theorem onJ_F {d x y:Fp} (hd:d ≠ 0) (h:onJF (d * d * x) (d * (d * d) * y) d=0):onF x y:=by
 have e:onJF (d * d * x) (d * (d * d) * y) d=(d * d * d) * (d * d * d) * (y * y - (x * x * x - 3 * x+fB)):=by
  unfold onJF; grind
 rw [e] at h
 have h3:=F_ne (F_ne hd hd) hd
 rcases F_mul0 h with c | c
 ·exact absurd c (F_ne h3 h3)
 ·unfold onF; grind
theorem two_ne:(2:Fp) ≠ 0:=fun h=>by
 have:=eqm_dvd.1 (mk_eq.1 h)
 exact absurd this (by decide)
theorem dbl_ne {y:Fp} (h:y ≠ 0):y+y ≠ 0:=by
 have e:y+y=2 * y:=by grind
 rw [e]; exact F_ne two_ne h
open Classical in
noncomputable def sumF:Pt → Pt → Pt
 | none,q=>q
 | some p,none=>some p
 | some p,some q=>if p.1=q.1 then (if p.2=q.2 then some (ptF p.1 p.2 p.1 (tF p.1) (p.2+p.2)) else none) else some (ptF p.1 p.2 q.1 (q.2 - p.2) (q.1 - p.1))
theorem sum_none (p:Pt):sumF p none=p:=by cases p <;> rfl
theorem sum_step : ∀ (p q:Pt),okP p → okP q → okP (sumF p q) ∧ ∃ l,l ≠ 0∧cF (rep p) (rep q)=sc l (rep (sumF p q))
 | none,none,_,_=>⟨trivial,1,F_10,by
  unfold cF cS' cR' sc
  refine Prod.ext ?_ (Prod.ext ?_ ?_) <;> simp only [rep,sumF] <;> grind⟩
 | none,some (x,y),_,h=>⟨h,y,onF_y h,by
  unfold cF cS' cR' sc
  refine Prod.ext ?_ (Prod.ext ?_ ?_) <;> simp only [rep,sumF] <;> grind⟩
 | some (x,y),none,h,_=>⟨h,y,onF_y h,by
  unfold cF cS' cR' sc
  refine Prod.ext ?_ (Prod.ext ?_ ?_) <;> simp only [rep,sumF] <;> grind⟩
 | some (x1,y1),some (x2,y2),h1,h2=>by
  have o1:onF x1 y1:=h1
  have o2:onF x2 y2:=h2
  by_cases hx:x1=x2
  ·subst hx
   obtain ⟨t1,t2,t3,t4⟩:=f_ta o1
   have hd:=dbl_ne (onF_y o1)
   rw [ptF_Y hd,ptF_X hd x1 y1] at t4
   have on3:=onJ_F hd t4
   by_cases hy:y1=y2
   ·subst hy
    have es:sumF (some (x1,y1)) (some (x1,y1))=some (ptF x1 y1 x1 (tF x1) (y1+y1)):=(if_pos rfl).trans (if_pos rfl)
    rw [es]
    refine ⟨on3,(y1+y1) * ((y1+y1) * (y1+y1)),F_ne hd (F_ne hd hd),?_⟩
    rw [ptF_X hd x1 y1] at t1
    rw [ptF_Y hd] at t2
    show cF (x1,y1,1) (x1,y1,1)=_
    unfold sc rep
    dsimp only
    rw [← t3]
    refine Prod.ext ?_ (Prod.ext ?_ ?_)
    ·refine F_cancel (F_ne hd hd) ?_
     dsimp only
     grind
    ·refine F_cancel (F_ne hd (F_ne hd hd)) ?_
     dsimp only
     grind
    ·dsimp only
     grind
   ·have es:sumF (some (x1,y1)) (some (x1,y2))=none:=(if_pos rfl).trans (if_neg hy)
    rw [es]
    have hyy:y2 = -y1:=by
     have:(y1 - y2) * (y1+y2)=0:=by unfold onF at o1 o2; grind
     rcases F_mul0 this with c | c
     ·exact absurd (by grind) hy
     ·grind
    subst hyy
    obtain ⟨p1,p2,p3⟩:=f_op o1
    rw [ptF_Y hd] at p3
    refine ⟨trivial,(cF (x1,y1,1) (x1, -y1,1)).2.1,?_,?_⟩
    ·rw [p3]; exact F_ne (F_ne hd (F_ne hd hd)) (onF_y on3)
    ·show cF (x1,y1,1) (x1, -y1,1)=_
     unfold sc rep
     refine Prod.ext ?_ (Prod.ext ?_ ?_)
     ·rw [p1]; dsimp only; grind
     ·dsimp only; grind
     ·rw [p2]; dsimp only; grind
  ·have hd:x2 - x1 ≠ 0:=fun h=>hx (by grind)
   have es:sumF (some (x1,y1)) (some (x2,y2))=some (ptF x1 y1 x2 (y2 - y1) (x2 - x1)):=if_neg hx
   rw [es]
   have c1:=f_chX o1 o2
   have c2:=f_chY o1 o2
   have c3:=f_chZ o1 o2
   have c4:=f_onP o1 o2
   have c5:=f_onM o1 o2
   rw [ptF_Y hd,ptF_X hd x1 y1] at c4 c5
   rw [ptF_X hd x1 y1] at c1
   rw [ptF_Y hd] at c2 c3
   refine ⟨onJ_F hd c4,(cF (x1,y1,1) (x2,y2,1)).2.2,?_,?_⟩
   ·rw [c3]; exact F_ne (F_ne hd (F_ne hd hd)) (onF_y (onJ_F hd c5))
   ·show cF (x1,y1,1) (x2,y2,1)=_
    unfold sc rep
    clear c3 c4 c5
    generalize cF (x1,y1,1) (x2,y2,1)=C at *
    generalize ptF x1 y1 x2 (y2 - y1) (x2 - x1)=Q at *
    generalize x2 - x1=D at *
    refine Prod.ext ?_ (Prod.ext ?_ ?_)
    ·refine F_cancel (F_ne hd hd) ?_
     dsimp only
     grind
    ·refine F_cancel (F_ne hd (F_ne hd hd)) ?_
     dsimp only
     grind
    ·dsimp only
     grind
def Is (t:F3) (p:Pt):Prop := ∃ l,l ≠ 0∧t=sc l (rep p)
theorem Is_rep (p:Pt):Is (rep p) p:=⟨1,F_10,by unfold sc; refine Prod.ext ?_ (Prod.ext ?_ ?_) <;> dsimp only <;> grind⟩
theorem Is_sum {t u:F3} {p q:Pt} (ht:Is t p) (hu:Is u q) (hp:okP p) (hq:okP q):Is (cF t u) (sumF p q):=by
 obtain ⟨l,hl,rfl⟩:=ht
 obtain ⟨m,hm,rfl⟩:=hu
 obtain ⟨-,k,hk,e⟩:=sum_step p q hp hq
 have:=F_ne hl hm
 exact ⟨l * m * (l * m) * k,F_ne (F_ne this this) hk,by rw [cF_sc,e,sc_sc]⟩
theorem Is_eq {t u:F3} {p q:Pt} (ht:Is t p) (hu:Is u q) (h1:crF t.1 t.2.2 u.1 u.2.2=0) (h2:crF t.2.1 t.2.2 u.2.1 u.2.2=0):p=q:=by
 obtain ⟨l,hl,rfl⟩:=ht
 obtain ⟨m,hm,rfl⟩:=hu
 have hlm:=F_ne hl hm
 unfold crF sc at h1 h2
 cases p with
 | none=>cases q with
  | none=>rfl
  | some q=>exact absurd (by simp only [rep] at h2; grind) hlm
 | some p=>cases q with
  | none=>exact absurd (by simp only [rep] at h2; grind) hlm
  | some q =>
   obtain ⟨x1,y1⟩:=p
   obtain ⟨x2,y2⟩:=q
   simp only [rep] at h1 h2
   have e1:l * m * x1=l * m * x2:=by grind
   have e2:l * m * y1=l * m * y2:=by grind
   rw [F_cancel hlm e1,F_cancel hlm e2]
noncomputable def gP:Pt:=some (gX,gY)
theorem gP_ok:okP gP:=by
 show mk (GY:Int) * mk (GY:Int)=mk (GX:Int) * mk (GX:Int) * mk (GX:Int) - mk 3 * mk (GX:Int)+mk (B256:Int)
 exact mk_eq.2 (by unfold eqm; decide +kernel)
theorem sum_ok {p q:Pt} (hp:okP p) (hq:okP q):okP (sumF p q):=(sum_step p q hp hq).1
theorem sum_as (p q:Pt) (hp:okP p) (hq:okP q):sumF (sumF p q) gP=sumF p (sumF q gP):=by
 cases p with
 | none=>rfl
 | some p=>cases q with
  | none=>rfl
  | some q =>
   have h:=f_as (x1:=p.1) (y1:=p.2) (x2:=q.1) (y2:=q.2) hp hq
   exact Is_eq (Is_sum (Is_sum (Is_rep (some p)) (Is_rep (some q)) hp hq) (Is_rep gP) (sum_ok hp hq) gP_ok) (Is_sum (Is_rep (some p)) (Is_sum (Is_rep (some q)) (Is_rep gP) hq gP_ok) hp (sum_ok hq gP_ok)) h.1 h.2.1
noncomputable def sG:Nat → Pt
 | 0=>none
 | n+1=>sumF (sG n) gP
theorem sG_ok : ∀ n,okP (sG n)
 | 0=>trivial
 | n+1=>sum_ok (sG_ok n) gP_ok
theorem sG_add (a:Nat) : ∀ b,sumF (sG a) (sG b)=sG (a+b)
 | 0=>sum_none _
 | b+1=>by
  show sumF (sG a) (sumF (sG b) gP)=sumF (sG (a+b)) gP
  rw [← sum_as _ _ (sG_ok a) (sG_ok b),sG_add a b]
end Go.Nt
end

section
namespace Go.Nt
abbrev N3:=Nat × Nat × Nat
def kN (n:Nat):Nat:=n
def cN (p q:N3):N3:=cAdd rN kN p q
def mkNt (t:N3):F3:=(mk (t.1:Int),mk (t.2.1:Int),mk (t.2.2:Int))
theorem mkNt_c (p q:N3):mkNt (cN p q)=cF (mkNt p) (mkNt q):=by
 have h:=R_cAdd (k:=kN) sndN (fun n => .refl _) (p:=p) (q:=q) (p':=((p.1:Int),(p.2.1:Int),(p.2.2:Int))) (q':=((q.1:Int),(q.2.1:Int),(q.2.2:Int))) ⟨.refl _, .refl _, .refl _⟩ ⟨.refl _, .refl _, .refl _⟩
 have e:=mkC ((p.1:Int),(p.2.1:Int),(p.2.2:Int)) ((q.1:Int),(q.2.1:Int),(q.2.2:Int))
 refine Eq.trans ?_ e
 exact Prod.ext (mk_eq.2 h.1) (Prod.ext (mk_eq.2 h.2.1) (mk_eq.2 h.2.2))
def mulN:Nat → N3 → Nat → N3
 | 0,_,_=>(0,1,0)
 | f+1,p,e=>if e=0 then (0,1,0) else if e % 2=1 then cN p (mulN f (cN p p) (e / 2)) else mulN f (cN p p) (e / 2)
theorem mulN_is : ∀ (f:Nat) (p:N3) (k e:Nat),Is (mkNt p) (sG k) → e<2 ^ f → Is (mkNt (mulN f p e)) (sG (k * e))
 | 0,p,k,e,h,he=>by
  have:e=0:=by rw [Nat.pow_zero] at he; omega
  subst this
  exact Is_rep none
 | f+1,p,k,e,h,he=>by
  unfold mulN
  by_cases h0:e=0
  ·rw [if_pos h0,h0]; exact Is_rep none
  rw [if_neg h0]
  have hd:Is (mkNt (cN p p)) (sG (k+k)):=by
   rw [mkNt_c, ← sG_add]
   exact Is_sum h h (sG_ok k) (sG_ok k)
  have ih:=mulN_is f (cN p p) (k+k) (e / 2) hd (by rw [Nat.pow_succ] at he; omega)
  by_cases h1:e % 2=1
  ·rw [if_pos h1,mkNt_c]
   have e2:k * e=k+(k+k) * (e / 2):=by
    have:e=1+2 * (e / 2):=by omega
    generalize e / 2=m at *
    subst this
    rw [Nat.mul_add,Nat.mul_one, ← Nat.two_mul,Nat.mul_comm 2 k,Nat.mul_assoc]
   rw [e2, ← sG_add]
   exact Is_sum h ih (sG_ok _) (sG_ok _)
  ·rw [if_neg h1]
   have e2:k * e=(k+k) * (e / 2):=by
    have:e=2 * (e / 2):=by omega
    generalize e / 2=m at *
    subst this
    rw [← Nat.two_mul,Nat.mul_comm 2 k,Nat.mul_assoc]
   rw [e2]; exact ih
theorem ord_z:(mulN 256 (GX,GY,1) N256).2.2=0:=by decide +kernel
theorem Is_none {t:F3} {p:Pt} (h:Is t p) (hz:t.2.2=0):p=none:=by
 obtain ⟨l,hl,rfl⟩:=h
 cases p with
 | none=>rfl
 | some p =>
  refine absurd ?_ hl
  have:l * 1=0:=hz
  grind
theorem sG_ord:sG N256=none:=by
 have h:=mulN_is 256 (GX,GY,1) 1 N256 (Is_rep gP) (by decide)
 rw [Nat.one_mul] at h
 refine Is_none h ?_
 show mk (((mulN 256 (GX,GY,1) N256).2.2:Nat):Int)=0
 rw [ord_z]; rfl
theorem sG_mod (n:Nat):sG n=sG (n % N256):=by
 have h : ∀ q,sG (N256 * q)=none:=fun q=>by
  induction q with
  | zero=>rfl
  | succ q ih=>rw [Nat.mul_succ, ← sG_add,ih,sG_ord]; rfl
 have:sG (N256 * (n / N256)+n % N256)=sG (n % N256):=by rw [← sG_add,h]; rfl
 rwa [Nat.div_add_mod] at this
end Go.Nt
end

section
namespace Go.Nt
theorem P_pos:(0:Int)<(P256:Int):=by decide
def toN (f:Fp):Nat:=Quotient.lift (fun a:Int=>(a % (P256:Int)).toNat) (fun a b (h:eqm a b)=>by show (a % (P256:Int)).toNat=(b % (P256:Int)).toNat; rw [show a % (P256:Int)=b % (P256:Int) from h]) f
theorem toN_mk (a:Int):toN (mk a)=(a % (P256:Int)).toNat:=rfl
theorem toN_nat (n:Nat):toN (mk (n:Int))=n % P256:=by rw [toN_mk]; omega
theorem toN_lt (f:Fp):toN f<P256:=by
 obtain ⟨a,rfl⟩:=mk_ex f
 rw [toN_mk]
 have h1:=Int.emod_nonneg a (show (P256:Int) ≠ 0 by decide)
 have h2:=Int.emod_lt_of_pos a P_pos
 omega
theorem mk_toN (f:Fp):mk (toN f:Int)=f:=by
 obtain ⟨a,rfl⟩:=mk_ex f
 rw [toN_mk]
 have h1:=Int.emod_nonneg a (show (P256:Int) ≠ 0 by decide)
 refine mk_eq.2 ?_
 rw [Int.toNat_of_nonneg h1]
 exact Int.emod_emod_of_dvd a (Int.dvd_refl _)
theorem toN_inj {f g:Fp} (h:toN f=toN g):f=g:=by rw [← mk_toN f, ← mk_toN g,h]
theorem toN_add (f g:Fp):toN (f+g)=(toN f+toN g) % P256:=by
 rw [← toN_nat]
 conv=>lhs; rw [← mk_toN f, ← mk_toN g,mk_add]
 rfl
theorem toN_mul (f g:Fp):toN (f * g)=toN f * toN g % P256:=by
 rw [← toN_nat]
 conv=>lhs; rw [← mk_toN f, ← mk_toN g,mk_mul]
 rfl
theorem toN_sub (f g:Fp):toN (f - g)=(toN f+(P256 - toN g)) % P256:=by
 rw [← toN_nat]
 refine congrArg toN ?_
 conv=>lhs; rw [← mk_toN f, ← mk_toN g,mk_sub]
 refine mk_eq.2 ?_
 have:=toN_lt g
 show ((toN f:Int) - toN g) % (P256:Int)=(((toN f+(P256 - toN g):Nat)):Int) % (P256:Int)
 rw [show (((toN f+(P256 - toN g):Nat)):Int)=((toN f:Int) - toN g)+P256 by omega,Int.add_emod_right]
theorem toN_0:toN 0=0:=rfl
theorem sG_mul0 {i:Nat} (h:sG i=none) : ∀ u,sG (u * i)=none
 | 0=>by rw [Nat.zero_mul]; rfl
 | u+1=>by rw [Nat.succ_mul, ← sG_add,sG_mul0 h u,h]; rfl
theorem sG_none {i:Nat} (h:sG i=none):i % N256=0:=by
 by_cases h0:i % N256=0
 ·exact h0
 ·exfalso
  have hnd : ¬ N256 ∣ i:=fun hd=>h0 (Nat.mod_eq_zero_of_dvd hd)
  have hf:=fermat2 pr_N hnd
  have e:i ^ (N256 - 1)=i ^ (N256 - 2) * i:=by
   rw [← Nat.pow_succ]
   exact congrArg (fun z=>i ^ z) (by decide)
  rw [e] at hf
  have h1:=sG_mul0 h (i ^ (N256 - 2))
  rw [sG_mod,hf] at h1
  cases h1
end Go.Nt
end

section
namespace Go.Nt
def isJ (t:F3) (p:Pt):Prop:=match p with
 | none=>t.2.2=0
 | some q=>t.2.2 ≠ 0∧t.1=q.1 * (t.2.2 * t.2.2)∧t.2.1=q.2 * (t.2.2 * (t.2.2 * t.2.2))
def aF (X Z:Fp):Fp:=(X - Z * Z) * (X+Z * Z)+((X - Z * Z) * (X+Z * Z)+(X - Z * Z) * (X+Z * Z))
def bF (X Y:Fp):Fp:=X * (Y * Y)
def b4F (X Y:Fp):Fp:=(bF X Y+bF X Y)+(bF X Y+bF X Y)
def g8F (Y:Fp):Fp:=((Y * Y * (Y * Y)+Y * Y * (Y * Y))+(Y * Y * (Y * Y)+Y * Y * (Y * Y)))+((Y * Y * (Y * Y)+Y * Y * (Y * Y))+(Y * Y * (Y * Y)+Y * Y * (Y * Y)))
def dX (X Y Z:Fp):Fp:=aF X Z * aF X Z - (b4F X Y+b4F X Y)
def jDbl (t:F3):F3:=(dX t.1 t.2.1 t.2.2,aF t.1 t.2.2 * (b4F t.1 t.2.1 - dX t.1 t.2.1 t.2.2) - g8F t.2.1,t.2.1 * t.2.2+t.2.1 * t.2.2)
theorem isJ_dbl {t:F3} {p:Pt} (hp:okP p) (h:isJ t p):isJ (jDbl t) (sumF p p):=by
 obtain ⟨X,Y,Z⟩:=t
 cases p with
 | none =>
  have hz:Z=0:=h
  show Y * Z+Y * Z=0
  rw [hz]; grind
 | some q =>
  obtain ⟨x,y⟩:=q
  have ho:onF x y:=hp
  obtain ⟨hz,hX,hY⟩:=h
  dsimp only at hz hX hY
  have hd:=dbl_ne (onF_y ho)
  rw [show sumF (some (x,y)) (some (x,y))=some (ptF x y x (tF x) (y+y)) from (if_pos rfl).trans (if_pos rfl)]
  have hi:=invF_mul hd
  unfold isJ ptF jDbl dX b4F bF aF g8F
  dsimp only
  generalize invF (y+y)=e at hi
  have ht:tF x=3 * (x * x) - 3:=by unfold tF; grind
  rw [ht]
  have hl:(y+y) * ((3 * (x * x) - 3) * e)=3 * (x * x) - 3:=by grind
  generalize (3 * (x * x) - 3) * e=l at hl
  clear hi
  subst hX hY
  have hzz:=F_ne hz (F_ne hz hz)
  refine ⟨?_,?_,?_⟩
  ·have:y * (Z * (Z * Z)) * Z+y * (Z * (Z * Z)) * Z=(y+y) * (Z * (Z * (Z * Z))):=by grind
   rw [this]
   exact F_ne hd (F_ne hz hzz)
  ·have e1:(x * (Z * Z) - Z * Z) * (x * (Z * Z)+Z * Z)+((x * (Z * Z) - Z * Z) * (x * (Z * Z)+Z * Z)+(x * (Z * Z) - Z * Z) * (x * (Z * Z)+Z * Z))=(y+y) * l * (Z * Z * (Z * Z)):=by rw [hl]; grind
   rw [e1]
   clear e1 hl
   grind
  ·have e1:(x * (Z * Z) - Z * Z) * (x * (Z * Z)+Z * Z)+((x * (Z * Z) - Z * Z) * (x * (Z * Z)+Z * Z)+(x * (Z * Z) - Z * Z) * (x * (Z * Z)+Z * Z))=(y+y) * l * (Z * Z * (Z * Z)):=by rw [hl]; grind
   rw [e1]
   clear e1 hl
   grind
open Classical in
noncomputable def jAdd (t u:F3):F3 :=
 if t.2.2=0 then u else if u.2.2=0 then t else
  let U:=t.1 * (u.2.2 * u.2.2); let V:=u.1 * (t.2.2 * t.2.2)
  let S:=t.2.1 * (u.2.2 * (u.2.2 * u.2.2)); let T:=u.2.1 * (t.2.2 * (t.2.2 * t.2.2))
  let H:=V - U; let R:=T - S
  if H=0 then (if R=0 then jDbl t else (0,0,0)) else
   let X:=R * R - H * (H * H) - (U * (H * H)+U * (H * H))
   (X,R * (U * (H * H) - X) - S * (H * (H * H)),H * (t.2.2 * u.2.2))
theorem isJ_add {t u:F3} {p q:Pt} (hp:okP p) (hq:okP q) (ht:isJ t p) (hu:isJ u q):isJ (jAdd t u) (sumF p q):=by
 obtain ⟨X1,Y1,Z1⟩:=t
 obtain ⟨X2,Y2,Z2⟩:=u
 cases p with
 | none =>
  have hz:Z1=0:=ht
  have e:jAdd (X1,Y1,Z1) (X2,Y2,Z2)=(X2,Y2,Z2):=if_pos hz
  rw [e]; exact hu
 | some p =>
  cases q with
  | none =>
   have hz1:Z1 ≠ 0:=ht.1
   have hz:Z2=0:=hu
   have e:jAdd (X1,Y1,Z1) (X2,Y2,Z2)=(X1,Y1,Z1):=(if_neg hz1).trans (if_pos hz)
   rw [e]; exact ht
  | some q =>
   obtain ⟨x1,y1⟩:=p
   obtain ⟨x2,y2⟩:=q
   have h2:=ht
   obtain ⟨hz1,hX1,hY1⟩:=ht
   obtain ⟨hz2,hX2,hY2⟩:=hu
   dsimp only at hz1 hX1 hY1 hz2 hX2 hY2
   have hzz:Z1 * Z2 ≠ 0:=F_ne hz1 hz2
   have eH:X2 * (Z1 * Z1) - X1 * (Z2 * Z2)=(x2 - x1) * (Z1 * Z2 * (Z1 * Z2)):=by subst hX1 hX2; grind
   have eR:Y2 * (Z1 * (Z1 * Z1)) - Y1 * (Z2 * (Z2 * Z2))=(y2 - y1) * (Z1 * Z2 * (Z1 * Z2 * (Z1 * Z2))):=by subst hY1 hY2; grind
   unfold jAdd
   rw [if_neg hz1,if_neg hz2]
   dsimp only
   rw [eH,eR]
   by_cases hx:x1=x2
   ·have hH:(x2 - x1) * (Z1 * Z2 * (Z1 * Z2))=0:=by rw [hx]; grind
    rw [if_pos hH]
    by_cases hy:y1=y2
    ·have hR:(y2 - y1) * (Z1 * Z2 * (Z1 * Z2 * (Z1 * Z2)))=0:=by rw [hy]; grind
     rw [if_pos hR]
     have:(x1,y1)=(x2,y2):=Prod.ext hx hy
     rw [← this]
     exact isJ_dbl hp h2
    ·have hR:(y2 - y1) * (Z1 * Z2 * (Z1 * Z2 * (Z1 * Z2))) ≠ 0:=F_ne (fun h=>hy (by grind)) (F_ne hzz (F_ne hzz hzz))
     rw [if_neg hR,show sumF (some (x1,y1)) (some (x2,y2))=none from (if_pos hx).trans (if_neg hy)]
     rfl
   ·have hd:x2 - x1 ≠ 0:=fun h=>hx (by grind)
    have hH:(x2 - x1) * (Z1 * Z2 * (Z1 * Z2)) ≠ 0:=F_ne hd (F_ne hzz hzz)
    rw [if_neg hH,show sumF (some (x1,y1)) (some (x2,y2))=some (ptF x1 y1 x2 (y2 - y1) (x2 - x1)) from if_neg hx]
    have hi:=invF_mul hd
    unfold isJ ptF
    dsimp only
    generalize invF (x2 - x1)=e at hi
    have hl:(x2 - x1) * ((y2 - y1) * e)=y2 - y1:=by grind
    generalize (y2 - y1) * e=l at hl
    rw [← hl]
    have hx2:x2=x1+(x2 - x1):=by grind
    generalize x2 - x1=d at *
    clear hi hl eH eR hY2 hX2 h2 hq hp
    subst hX1 hY1
    subst hx2
    refine ⟨F_ne (F_ne hd (F_ne hzz hzz)) hzz,?_,?_⟩
    ·grind
    ·grind
end Go.Nt
end

section
namespace Go.Proofs
open Go Go.Kx
open Vector (replicate)
def pcurve_curve_double (cM:Vx 64 4) (cI:BitVec 64) (cO:Vx 64 4) (cT:Vx 64 4) (c_b:Vx 64 4) (p_x:Vx 64 4) (p_y:Vx 64 4) (p_z:Vx 64 4):Option (Vx 64 4 × Vx 64 4 × Vx 64 4) :=
 (num_Field_Mul cM cI cO cT p_z p_z).bind fun (r_1:Vx 64 4)=>((num_Field_Mul cM cI cO cT p_y p_y).bind fun (r_2:Vx 64 4)=>((num_Field_Mul cM cI cO cT p_x r_2).bind fun (r_3:Vx 64 4)=>((num_Field_Sub cM cI cO cT p_x r_1).bind fun (r_4:Vx 64 4)=>((num_Field_Add cM cI cO cT p_x r_1).bind fun (r_5:Vx 64 4)=>((num_Field_Mul cM cI cO cT r_4 r_5).bind fun (r_6:Vx 64 4)=>((num_Field_Add cM cI cO cT r_6 r_6).bind fun (r_7:Vx 64 4)=>((num_Field_Add cM cI cO cT r_6 r_7).bind fun (r_8:Vx 64 4)=>((num_Field_Add cM cI cO cT r_3 r_3).bind fun (r_9:Vx 64 4)=>((num_Field_Add cM cI cO cT r_9 r_9).bind fun (r_10:Vx 64 4)=>((num_Field_Mul cM cI cO cT r_8 r_8).bind fun (r_11:Vx 64 4)=>((num_Field_Add cM cI cO cT r_10 r_10).bind fun (r_12:Vx 64 4)=>((num_Field_Sub cM cI cO cT r_11 r_12).bind fun (r_13:Vx 64 4)=>((num_Field_Add cM cI cO cT p_y p_z).bind fun (r_14:Vx 64 4)=>((num_Field_Mul cM cI cO cT r_14 r_14).bind fun (r_15:Vx 64 4)=>((num_Field_Sub cM cI cO cT r_15 r_2).bind fun (r_16:Vx 64 4)=>((num_Field_Sub cM cI cO cT r_16 r_1).bind fun (r_17:Vx 64 4)=>((num_Field_Mul cM cI cO cT r_2 r_2).bind fun (r_18:Vx 64 4)=>((num_Field_Add cM cI cO cT r_18 r_18).bind fun (r_19:Vx 64 4)=>((num_Field_Add cM cI cO cT r_19 r_19).bind fun (r_20:Vx 64 4)=>((num_Field_Sub cM cI cO cT r_10 r_13).bind fun (r_21:Vx 64 4)=>((num_Field_Mul cM cI cO cT r_8 r_21).bind fun (r_22:Vx 64 4)=>((num_Field_Add cM cI cO cT r_20 r_20).bind fun (r_23:Vx 64 4)=>((num_Field_Sub cM cI cO cT r_22 r_23).bind fun (r_24:Vx 64 4)=>(some (r_13,r_24,r_17)))))))))))))))))))))))))
set_option maxHeartbeats 4000000 in
set_option maxRecDepth 20000 in
theorem F74_calls (bc:Nat) (obc:Nat) (bF:Nat) (oF:Nat) (cM:Vx 64 4) (cI:BitVec 64) (cO:Vx 64 4) (cT:Vx 64 4) (c_b:Vx 64 4) (p_x:Vx 64 4) (p_y:Vx 64 4) (p_z:Vx 64 4) (r:Vx 64 4 × Vx 64 4 × Vx 64 4) (H:pcurve_curve_double cM cI cO cT c_b p_x p_y p_z=some r) :
  Does Try.prog 74 [ptr (some (bc,obc)) 0,aG [(4,e64 p_x.toList),(4,e64 p_y.toList),(4,e64 p_z.toList)]] [] [⟨some (bc,obc),[ptr (some (bF,oF)) 0]⟩,⟨some (bc,obc+1),e64 c_b.toList⟩,⟨some (bF,oF),e64 cM.toList⟩,⟨some (bF,oF+4),[v64 cI]⟩,⟨some (bF,oF+5),e64 cO.toList⟩,⟨some (bF,oF+9),e64 cT.toList⟩] (Γ:=Unit) (fun g=>aG [(4,e64 r.1.toList),(4,e64 r.2.1.toList),(4,e64 r.2.2.toList)]) (fun g=>[]):=by
 intro w hmem hro hd
 refine calls_of (N:=184) (m0:=[(0,ptr (some (bc,obc)) 0),(1,aG [(4,e64 p_x.toList),(4,e64 p_y.toList),(4,e64 p_z.toList)])]) Try.func74 rfl Try.ntmps74 (argM_ok [ptr (some (bc,obc)) 0,aG [(4,e64 p_x.toList),(4,e64 p_y.toList),(4,e64 p_z.toList)]]) rfl hmem hro hd ?_
 unfold pcurve_curve_double at H
 refine TC_seq (TC_region (TLe (E_boxP [(4,e64 p_x.toList),(4,e64 p_y.toList),(4,e64 p_z.toList)] rfl rfl ⟨(lenV (f:=v64) p_x),(lenV (f:=v64) p_y),(lenV (f:=v64) p_z),trivial⟩) (fun b1=>?_)))
 refine TLe (E_allocP [(4,e64 ((replicate 4 0#64).toList)),(4,e64 ((replicate 4 0#64).toList)),(4,e64 ((replicate 4 0#64).toList))] TryI.inf64 TryI.zer64 ⟨(lenV (f:=v64) (replicate 4 0#64)),(lenV (f:=v64) (replicate 4 0#64)),(lenV (f:=v64) (replicate 4 0#64)),trivial⟩) (fun b2=>?_)
 refine TL_nil (TX_next (TC_seq ?_))
 obtain ⟨r_1,hr_1,H⟩:=bind_elim H
 obtain ⟨r_2,hr_2,H⟩:=bind_elim H
 refine TA_begin [] 22 (by kernel_rfl) (N:=22) rfl ?_
 refine TA_mix (is:=[]) (done':=dn 22 1048575) [itV 0 14 (ptr (some (bc,obc)) 0) [],itV 1 15 (ptr (some (bc,obc)) 0) [0],itV 2 16 (ptr (some (bc,obc)) 0) [1],itV 3 17 (ptr (some (bF,oF)) 0) [2],itV 4 18 (ptr (some (b1,8)) 0) [],itV 5 19 (aG [(4,e64 p_z.toList)]) [4],itV 6 20 (ptr (some (b1,8)) 0) [],itV 7 21 (aG [(4,e64 p_z.toList)]) [6],itV 8 22 (aG [(4,e64 r_1.toList)]) [3,5,7],itV 9 23 (ptr (some (bc,obc)) 0) [],itV 10 24 (ptr (some (bc,obc)) 0) [9],itV 11 25 (ptr (some (bc,obc)) 0) [10],itV 12 26 (ptr (some (bF,oF)) 0) [11],itV 13 27 (ptr (some (b1,4)) 0) [],itV 14 28 (aG [(4,e64 p_y.toList)]) [13],itV 15 29 (ptr (some (b1,4)) 0) [],itV 16 30 (aG [(4,e64 p_y.toList)]) [15],itV 17 31 (aG [(4,e64 r_2.toList)]) [12,14,16],itA64 18 5 4,itA64 19 6 4] [] 2 (by kernel_rfl) (QP.then QP.body) (by kernel_rfl) rfl (.v rfl (V_move rfl) (.v rfl (V_nilCheck rfl) (.v rfl (V_fe Try.underlying100 TryI.inf82) (.v rfl (V_load rfl (.r 0) rfl Try.isAgg82) (.v rfl (V_fe Try.underlying64 TryI.inf57) (.v rfl (V_lag (.o 5) Try.isAgg57 TryI.inf57) (.v rfl (V_fe Try.underlying64 TryI.inf57) (.v rfl (V_lag (.o 5) Try.isAgg57 TryI.inf57) (.e rfl (E_cu (F58_calls bF oF cM cI cO cT p_z p_z r_1 hr_1) Try.call58 ⟨.r 2, .r 3, .r 4, .r 5,trivial⟩) (.v rfl (V_move rfl) (.v rfl (V_nilCheck rfl) (.v rfl (V_fe Try.underlying100 TryI.inf82) (.v rfl (V_load rfl (.r 0) rfl Try.isAgg82) (.v rfl (V_fe Try.underlying64 TryI.inf57) (.v rfl (V_lag (.o 4) Try.isAgg57 TryI.inf57) (.v rfl (V_fe Try.underlying64 TryI.inf57) (.v rfl (V_lag (.o 4) Try.isAgg57 TryI.inf57) (.e rfl (E_cu (F58_calls bF oF cM cI cO cT p_y p_y r_2 hr_2) Try.call58 ⟨.r 2, .r 3, .r 4, .r 5,trivial⟩) (.c rfl (fun _ _=>(E_al64 4 TryI.inf57 TryI.zer57)) (.c rfl (fun _ _=>(E_al64 4 TryI.inf57 TryI.zer57)) .nil)))))))))))))))))))) .nil (by kernel_rfl) rfl (fun γ=>?_)
 refine TA_cut [(6,ptr (some ((γ 19),0)) 0),(5,ptr (some ((γ 18),0)) 0),(31,aG [(4,e64 r_2.toList)]),(22,aG [(4,e64 r_1.toList)]),(4,ptr (some (b2,0)) 0),(3,ptr (some (b1,0)) 0),(0,ptr (some (bc,obc)) 0)] [⟨some ((γ 19),0),e64 ((replicate 4 0#64).toList)⟩,⟨some ((γ 18),0),e64 ((replicate 4 0#64).toList)⟩,⟨some (b2,0),e64 ((replicate 4 0#64).toList)⟩,⟨some (b2,4),e64 ((replicate 4 0#64).toList)⟩,⟨some (b2,8),e64 ((replicate 4 0#64).toList)⟩,⟨some (b1,0),e64 p_x.toList⟩,⟨some (b1,4),e64 p_y.toList⟩,⟨some (b1,8),e64 p_z.toList⟩] ⟨rfl,rfl,rfl,rfl,rfl,rfl,rfl,trivial⟩ rfl ?_
 generalize γ 18=b3
 generalize γ 19=b4
 refine TA_all (rs:=[20]) (by kernel_rfl) rfl ?_
 refine ⟨?_,trivial⟩
 refine TO_n (is:=[]) (done':=dn 22 2097151) rfl rfl rfl (by kernel_rfl) (E_sv (vs:=e64 r_1.toList) 1 TryI.inf57) (fun _ _=>rfl) (fun _=>?_)
 refine TA_all (rs:=[21]) (by kernel_rfl) rfl ?_
 refine ⟨?_,trivial⟩
 refine TO_n (is:=[]) (done':=dn 22 4194303) rfl rfl rfl (by kernel_rfl) (E_sv (vs:=e64 r_2.toList) 0 TryI.inf57) (fun _ _=>rfl) (fun _=>?_)
 refine TA_done (by kernel_rfl) ?_ 0
 refine TX_next (TC_seq ?_)
 obtain ⟨r_3,hr_3,H⟩:=bind_elim H
 refine TA_begin [] 10 (by kernel_rfl) (N:=10) rfl ?_
 refine TA_mix (is:=[]) (done':=dn 10 511) [itV 0 32 (ptr (some (bc,obc)) 0) [],itV 1 33 (ptr (some (bc,obc)) 0) [0],itV 2 34 (ptr (some (bc,obc)) 0) [1],itV 3 35 (ptr (some (bF,oF)) 0) [2],itV 4 36 (ptr (some (b1,0)) 0) [],itV 5 37 (aG [(4,e64 p_x.toList)]) [4],itV 6 38 (aG [(4,e64 r_2.toList)]) [],itV 7 39 (aG [(4,e64 r_3.toList)]) [3,5,6],itA64 8 7 4] [] 1 (by kernel_rfl) (QP.then QP.body) (by kernel_rfl) rfl (.v rfl (V_move rfl) (.v rfl (V_nilCheck rfl) (.v rfl (V_fe Try.underlying100 TryI.inf82) (.v rfl (V_load rfl (.r 0) rfl Try.isAgg82) (.v rfl (V_fe Try.underlying64 TryI.inf57) (.v rfl (V_lag (.o 5) Try.isAgg57 TryI.inf57) (.v rfl (V_lag (.o 0) Try.isAgg57 TryI.inf57) (.e rfl (E_cu (F58_calls bF oF cM cI cO cT p_x r_2 r_3 hr_3) Try.call58 ⟨.r 2, .r 3, .r 4, .r 5,trivial⟩) (.c rfl (fun _ _=>(E_al64 4 TryI.inf57 TryI.zer57)) .nil))))))))) .nil (by kernel_rfl) rfl (fun γ=>?_)
 refine TA_cut [(7,ptr (some ((γ 8),0)) 0),(39,aG [(4,e64 r_3.toList)]),(6,ptr (some (b4,0)) 0),(5,ptr (some (b3,0)) 0),(4,ptr (some (b2,0)) 0),(3,ptr (some (b1,0)) 0),(0,ptr (some (bc,obc)) 0)] [⟨some ((γ 8),0),e64 ((replicate 4 0#64).toList)⟩,⟨some (b4,0),e64 r_2.toList⟩,⟨some (b3,0),e64 r_1.toList⟩,⟨some (b2,0),e64 ((replicate 4 0#64).toList)⟩,⟨some (b2,4),e64 ((replicate 4 0#64).toList)⟩,⟨some (b2,8),e64 ((replicate 4 0#64).toList)⟩,⟨some (b1,0),e64 p_x.toList⟩,⟨some (b1,4),e64 p_y.toList⟩,⟨some (b1,8),e64 p_z.toList⟩] ⟨rfl,rfl,rfl,rfl,rfl,rfl,rfl,trivial⟩ rfl ?_
 generalize γ 8=b5
 refine TA_all (rs:=[9]) (by kernel_rfl) rfl ?_
 refine ⟨?_,trivial⟩
 refine TO_n (is:=[]) (done':=dn 10 1023) rfl rfl rfl (by kernel_rfl) (E_sv (vs:=e64 r_3.toList) 0 TryI.inf57) (fun _ _=>rfl) (fun _=>?_)
 refine TA_done (by kernel_rfl) ?_ 0
 refine TX_next (TC_seq ?_)
 obtain ⟨r_4,hr_4,H⟩:=bind_elim H
 obtain ⟨r_5,hr_5,H⟩:=bind_elim H
 obtain ⟨r_6,hr_6,H⟩:=bind_elim H
 refine TA_begin [] 23 (by kernel_rfl) (N:=23) rfl ?_
 refine TA_mix (is:=[]) (done':=dn 23 4194303) [itV 0 40 (ptr (some (bc,obc)) 0) [],itV 1 41 (ptr (some (bc,obc)) 0) [0],itV 2 42 (ptr (some (bc,obc)) 0) [1],itV 3 43 (ptr (some (bF,oF)) 0) [2],itV 4 44 (ptr (some (bc,obc)) 0) [],itV 5 45 (ptr (some (bc,obc)) 0) [4],itV 6 46 (ptr (some (bc,obc)) 0) [5],itV 7 47 (ptr (some (bF,oF)) 0) [6],itV 8 48 (ptr (some (b1,0)) 0) [],itV 9 49 (aG [(4,e64 p_x.toList)]) [8],itV 10 50 (aG [(4,e64 r_1.toList)]) [],itV 11 51 (aG [(4,e64 r_4.toList)]) [9,10,7],itV 12 52 (ptr (some (bc,obc)) 0) [],itV 13 53 (ptr (some (bc,obc)) 0) [12],itV 14 54 (ptr (some (bc,obc)) 0) [13],itV 15 55 (ptr (some (bF,oF)) 0) [14],itV 16 56 (ptr (some (b1,0)) 0) [],itV 17 57 (aG [(4,e64 p_x.toList)]) [16],itV 18 58 (aG [(4,e64 r_1.toList)]) [],itV 19 59 (aG [(4,e64 r_5.toList)]) [17,18,15],itV 20 60 (aG [(4,e64 r_6.toList)]) [11,3,19],itA64 21 8 4] [] 1 (by kernel_rfl) (QP.then QP.body) (by kernel_rfl) rfl (.v rfl (V_move rfl) (.v rfl (V_nilCheck rfl) (.v rfl (V_fe Try.underlying100 TryI.inf82) (.v rfl (V_load rfl (.r 0) rfl Try.isAgg82) (.v rfl (V_move rfl) (.v rfl (V_nilCheck rfl) (.v rfl (V_fe Try.underlying100 TryI.inf82) (.v rfl (V_load rfl (.r 0) rfl Try.isAgg82) (.v rfl (V_fe Try.underlying64 TryI.inf57) (.v rfl (V_lag (.o 6) Try.isAgg57 TryI.inf57) (.v rfl (V_lag (.o 2) Try.isAgg57 TryI.inf57) (.e rfl (E_cu (F77_calls bF oF cM cI cO cT p_x r_1 r_4 hr_4) Try.call77 ⟨.r 2, .r 3, .r 4, .r 5,trivial⟩) (.v rfl (V_move rfl) (.v rfl (V_nilCheck rfl) (.v rfl (V_fe Try.underlying100 TryI.inf82) (.v rfl (V_load rfl (.r 0) rfl Try.isAgg82) (.v rfl (V_fe Try.underlying64 TryI.inf57) (.v rfl (V_lag (.o 6) Try.isAgg57 TryI.inf57) (.v rfl (V_lag (.o 2) Try.isAgg57 TryI.inf57) (.e rfl (E_cu (F59_calls bF oF cM cI cO cT p_x r_1 r_5 hr_5) Try.call59 ⟨.r 2, .r 3, .r 4, .r 5,trivial⟩) (.e rfl (E_cu (F58_calls bF oF cM cI cO cT r_4 r_5 r_6 hr_6) Try.call58 ⟨.r 2, .r 3, .r 4, .r 5,trivial⟩) (.c rfl (fun _ _=>(E_al64 4 TryI.inf57 TryI.zer57)) .nil)))))))))))))))))))))) .nil (by kernel_rfl) rfl (fun γ=>?_)
 refine TA_cut [(8,ptr (some ((γ 21),0)) 0),(60,aG [(4,e64 r_6.toList)]),(7,ptr (some (b5,0)) 0),(6,ptr (some (b4,0)) 0),(5,ptr (some (b3,0)) 0),(4,ptr (some (b2,0)) 0),(3,ptr (some (b1,0)) 0),(0,ptr (some (bc,obc)) 0)] [⟨some ((γ 21),0),e64 ((replicate 4 0#64).toList)⟩,⟨some (b5,0),e64 r_3.toList⟩,⟨some (b4,0),e64 r_2.toList⟩,⟨some (b3,0),e64 r_1.toList⟩,⟨some (b2,0),e64 ((replicate 4 0#64).toList)⟩,⟨some (b2,4),e64 ((replicate 4 0#64).toList)⟩,⟨some (b2,8),e64 ((replicate 4 0#64).toList)⟩,⟨some (b1,0),e64 p_x.toList⟩,⟨some (b1,4),e64 p_y.toList⟩,⟨some (b1,8),e64 p_z.toList⟩] ⟨rfl,rfl,rfl,rfl,rfl,rfl,rfl,rfl,trivial⟩ rfl ?_
 generalize γ 21=b6
 refine TA_all (rs:=[22]) (by kernel_rfl) rfl ?_
 refine ⟨?_,trivial⟩
 refine TO_n (is:=[]) (done':=dn 23 8388607) rfl rfl rfl (by kernel_rfl) (E_sv (vs:=e64 r_6.toList) 0 TryI.inf57) (fun _ _=>rfl) (fun _=>?_)
 refine TA_done (by kernel_rfl) ?_ 0
 refine TX_next (TC_seq ?_)
 obtain ⟨r_7,hr_7,H⟩:=bind_elim H
 obtain ⟨r_8,hr_8,H⟩:=bind_elim H
 refine TA_begin [] 14 (by kernel_rfl) (N:=14) rfl ?_
 refine TA_mix (is:=[]) (done':=dn 14 8191) [itV 0 61 (ptr (some (bc,obc)) 0) [],itV 1 62 (ptr (some (bc,obc)) 0) [0],itV 2 63 (ptr (some (bc,obc)) 0) [1],itV 3 64 (ptr (some (bF,oF)) 0) [2],itV 4 65 (aG [(4,e64 r_6.toList)]) [],itV 5 66 (ptr (some (bc,obc)) 0) [],itV 6 67 (ptr (some (bc,obc)) 0) [5],itV 7 68 (ptr (some (bc,obc)) 0) [6],itV 8 69 (ptr (some (bF,oF)) 0) [7],itV 9 70 (aG [(4,e64 r_6.toList)]) [],itV 10 71 (aG [(4,e64 r_6.toList)]) [],itV 11 72 (aG [(4,e64 r_7.toList)]) [8,9,10],itV 12 73 (aG [(4,e64 r_8.toList)]) [3,4,11]] [] 1 (by kernel_rfl) (QP.then QP.body) (by kernel_rfl) rfl (.v rfl (V_move rfl) (.v rfl (V_nilCheck rfl) (.v rfl (V_fe Try.underlying100 TryI.inf82) (.v rfl (V_load rfl (.r 0) rfl Try.isAgg82) (.v rfl (V_lag (.o 0) Try.isAgg57 TryI.inf57) (.v rfl (V_move rfl) (.v rfl (V_nilCheck rfl) (.v rfl (V_fe Try.underlying100 TryI.inf82) (.v rfl (V_load rfl (.r 0) rfl Try.isAgg82) (.v rfl (V_lag (.o 0) Try.isAgg57 TryI.inf57) (.v rfl (V_lag (.o 0) Try.isAgg57 TryI.inf57) (.e rfl (E_cu (F59_calls bF oF cM cI cO cT r_6 r_6 r_7 hr_7) Try.call59 ⟨.r 2, .r 3, .r 4, .r 5,trivial⟩) (.e rfl (E_cu (F59_calls bF oF cM cI cO cT r_6 r_7 r_8 hr_8) Try.call59 ⟨.r 2, .r 3, .r 4, .r 5,trivial⟩) .nil))))))))))))) .nil (by kernel_rfl) rfl (fun γ=>?_)
 refine TA_cut [(73,aG [(4,e64 r_8.toList)]),(8,ptr (some (b6,0)) 0),(7,ptr (some (b5,0)) 0),(6,ptr (some (b4,0)) 0),(5,ptr (some (b3,0)) 0),(4,ptr (some (b2,0)) 0),(3,ptr (some (b1,0)) 0),(0,ptr (some (bc,obc)) 0)] [⟨some (b6,0),e64 r_6.toList⟩,⟨some (b5,0),e64 r_3.toList⟩,⟨some (b4,0),e64 r_2.toList⟩,⟨some (b3,0),e64 r_1.toList⟩,⟨some (b2,0),e64 ((replicate 4 0#64).toList)⟩,⟨some (b2,4),e64 ((replicate 4 0#64).toList)⟩,⟨some (b2,8),e64 ((replicate 4 0#64).toList)⟩,⟨some (b1,0),e64 p_x.toList⟩,⟨some (b1,4),e64 p_y.toList⟩,⟨some (b1,8),e64 p_z.toList⟩] ⟨rfl,rfl,rfl,rfl,rfl,rfl,rfl,rfl,trivial⟩ rfl ?_
 refine TA_all (rs:=[13]) (by kernel_rfl) rfl ?_
 refine ⟨?_,trivial⟩
 refine TO_n (is:=[]) (done':=dn 14 16383) rfl rfl rfl (by kernel_rfl) (E_sv (vs:=e64 r_8.toList) 0 TryI.inf57) (fun _ _=>rfl) (fun _=>?_)
 refine TA_done (by kernel_rfl) ?_ 0
 refine TX_next (TC_seq ?_)
 obtain ⟨r_9,hr_9,H⟩:=bind_elim H
 refine TA_begin [] 9 (by kernel_rfl) (N:=9) rfl ?_
 refine TA_mix (is:=[]) (done':=dn 9 255) [itV 0 74 (ptr (some (bc,obc)) 0) [],itV 1 75 (ptr (some (bc,obc)) 0) [0],itV 2 76 (ptr (some (bc,obc)) 0) [1],itV 3 77 (ptr (some (bF,oF)) 0) [2],itV 4 78 (aG [(4,e64 r_3.toList)]) [],itV 5 79 (aG [(4,e64 r_3.toList)]) [],itV 6 80 (aG [(4,e64 r_9.toList)]) [3,4,5],itA64 7 9 4] [] 1 (by kernel_rfl) (QP.then QP.body) (by kernel_rfl) rfl (.v rfl (V_move rfl) (.v rfl (V_nilCheck rfl) (.v rfl (V_fe Try.underlying100 TryI.inf82) (.v rfl (V_load rfl (.r 0) rfl Try.isAgg82) (.v rfl (V_lag (.o 1) Try.isAgg57 TryI.inf57) (.v rfl (V_lag (.o 1) Try.isAgg57 TryI.inf57) (.e rfl (E_cu (F59_calls bF oF cM cI cO cT r_3 r_3 r_9 hr_9) Try.call59 ⟨.r 2, .r 3, .r 4, .r 5,trivial⟩) (.c rfl (fun _ _=>(E_al64 4 TryI.inf57 TryI.zer57)) .nil)))))))) .nil (by kernel_rfl) rfl (fun γ=>?_)
 refine TA_cut [(9,ptr (some ((γ 7),0)) 0),(80,aG [(4,e64 r_9.toList)]),(8,ptr (some (b6,0)) 0),(6,ptr (some (b4,0)) 0),(5,ptr (some (b3,0)) 0),(4,ptr (some (b2,0)) 0),(3,ptr (some (b1,0)) 0),(0,ptr (some (bc,obc)) 0)] [⟨some ((γ 7),0),e64 ((replicate 4 0#64).toList)⟩,⟨some (b6,0),e64 r_8.toList⟩,⟨some (b5,0),e64 r_3.toList⟩,⟨some (b4,0),e64 r_2.toList⟩,⟨some (b3,0),e64 r_1.toList⟩,⟨some (b2,0),e64 ((replicate 4 0#64).toList)⟩,⟨some (b2,4),e64 ((replicate 4 0#64).toList)⟩,⟨some (b2,8),e64 ((replicate 4 0#64).toList)⟩,⟨some (b1,0),e64 p_x.toList⟩,⟨some (b1,4),e64 p_y.toList⟩,⟨some (b1,8),e64 p_z.toList⟩] ⟨rfl,rfl,rfl,rfl,rfl,rfl,rfl,rfl,trivial⟩ rfl ?_
 generalize γ 7=b7
 refine TA_all (rs:=[8]) (by kernel_rfl) rfl ?_
 refine ⟨?_,trivial⟩
 refine TO_n (is:=[]) (done':=dn 9 511) rfl rfl rfl (by kernel_rfl) (E_sv (vs:=e64 r_9.toList) 0 TryI.inf57) (fun _ _=>rfl) (fun _=>?_)
 refine TA_done (by kernel_rfl) ?_ 0
 refine TX_next (TC_seq ?_)
 obtain ⟨r_10,hr_10,H⟩:=bind_elim H
 refine TA_begin [] 8 (by kernel_rfl) (N:=8) rfl ?_
 refine TA_mix (is:=[]) (done':=dn 8 127) [itV 0 81 (ptr (some (bc,obc)) 0) [],itV 1 82 (ptr (some (bc,obc)) 0) [0],itV 2 83 (ptr (some (bc,obc)) 0) [1],itV 3 84 (ptr (some (bF,oF)) 0) [2],itV 4 85 (aG [(4,e64 r_9.toList)]) [],itV 5 86 (aG [(4,e64 r_9.toList)]) [],itV 6 87 (aG [(4,e64 r_10.toList)]) [3,4,5]] [] 1 (by kernel_rfl) (QP.then QP.body) (by kernel_rfl) rfl (.v rfl (V_move rfl) (.v rfl (V_nilCheck rfl) (.v rfl (V_fe Try.underlying100 TryI.inf82) (.v rfl (V_load rfl (.r 0) rfl Try.isAgg82) (.v rfl (V_lag (.o 0) Try.isAgg57 TryI.inf57) (.v rfl (V_lag (.o 0) Try.isAgg57 TryI.inf57) (.e rfl (E_cu (F59_calls bF oF cM cI cO cT r_9 r_9 r_10 hr_10) Try.call59 ⟨.r 2, .r 3, .r 4, .r 5,trivial⟩) .nil))))))) .nil (by kernel_rfl) rfl (fun γ=>?_)
 refine TA_cut [(87,aG [(4,e64 r_10.toList)]),(9,ptr (some (b7,0)) 0),(8,ptr (some (b6,0)) 0),(6,ptr (some (b4,0)) 0),(5,ptr (some (b3,0)) 0),(4,ptr (some (b2,0)) 0),(3,ptr (some (b1,0)) 0),(0,ptr (some (bc,obc)) 0)] [⟨some (b7,0),e64 r_9.toList⟩,⟨some (b6,0),e64 r_8.toList⟩,⟨some (b5,0),e64 r_3.toList⟩,⟨some (b4,0),e64 r_2.toList⟩,⟨some (b3,0),e64 r_1.toList⟩,⟨some (b2,0),e64 ((replicate 4 0#64).toList)⟩,⟨some (b2,4),e64 ((replicate 4 0#64).toList)⟩,⟨some (b2,8),e64 ((replicate 4 0#64).toList)⟩,⟨some (b1,0),e64 p_x.toList⟩,⟨some (b1,4),e64 p_y.toList⟩,⟨some (b1,8),e64 p_z.toList⟩] ⟨rfl,rfl,rfl,rfl,rfl,rfl,rfl,rfl,trivial⟩ rfl ?_
 refine TA_all (rs:=[7]) (by kernel_rfl) rfl ?_
 refine ⟨?_,trivial⟩
 refine TO_n (is:=[]) (done':=dn 8 255) rfl rfl rfl (by kernel_rfl) (E_sv (vs:=e64 r_10.toList) 0 TryI.inf57) (fun _ _=>rfl) (fun _=>?_)
 refine TA_done (by kernel_rfl) ?_ 0
 refine TX_next (TC_seq ?_)
 obtain ⟨r_11,hr_11,H⟩:=bind_elim H
 obtain ⟨r_12,hr_12,H⟩:=bind_elim H
 obtain ⟨r_13,hr_13,H⟩:=bind_elim H
 refine TA_begin [] 21 (by kernel_rfl) (N:=21) rfl ?_
 refine TA_mix (is:=[]) (done':=dn 21 1048575) [itV 0 88 (ptr (some (bc,obc)) 0) [],itV 1 89 (ptr (some (bc,obc)) 0) [0],itV 2 90 (ptr (some (bc,obc)) 0) [1],itV 3 91 (ptr (some (bF,oF)) 0) [2],itV 4 92 (ptr (some (bc,obc)) 0) [],itV 5 93 (ptr (some (bc,obc)) 0) [4],itV 6 94 (ptr (some (bc,obc)) 0) [5],itV 7 95 (ptr (some (bF,oF)) 0) [6],itV 8 96 (aG [(4,e64 r_8.toList)]) [],itV 9 97 (aG [(4,e64 r_8.toList)]) [],itV 10 98 (aG [(4,e64 r_11.toList)]) [8,9,7],itV 11 99 (ptr (some (bc,obc)) 0) [],itV 12 100 (ptr (some (bc,obc)) 0) [11],itV 13 101 (ptr (some (bc,obc)) 0) [12],itV 14 102 (ptr (some (bF,oF)) 0) [13],itV 15 103 (aG [(4,e64 r_10.toList)]) [],itV 16 104 (aG [(4,e64 r_10.toList)]) [],itV 17 105 (aG [(4,e64 r_12.toList)]) [16,14,15],itV 18 106 (aG [(4,e64 r_13.toList)]) [17,10,3],itA64 19 10 4] [] 1 (by kernel_rfl) (QP.then QP.body) (by kernel_rfl) rfl (.v rfl (V_move rfl) (.v rfl (V_nilCheck rfl) (.v rfl (V_fe Try.underlying100 TryI.inf82) (.v rfl (V_load rfl (.r 0) rfl Try.isAgg82) (.v rfl (V_move rfl) (.v rfl (V_nilCheck rfl) (.v rfl (V_fe Try.underlying100 TryI.inf82) (.v rfl (V_load rfl (.r 0) rfl Try.isAgg82) (.v rfl (V_lag (.o 1) Try.isAgg57 TryI.inf57) (.v rfl (V_lag (.o 1) Try.isAgg57 TryI.inf57) (.e rfl (E_cu (F58_calls bF oF cM cI cO cT r_8 r_8 r_11 hr_11) Try.call58 ⟨.r 2, .r 3, .r 4, .r 5,trivial⟩) (.v rfl (V_move rfl) (.v rfl (V_nilCheck rfl) (.v rfl (V_fe Try.underlying100 TryI.inf82) (.v rfl (V_load rfl (.r 0) rfl Try.isAgg82) (.v rfl (V_lag (.o 0) Try.isAgg57 TryI.inf57) (.v rfl (V_lag (.o 0) Try.isAgg57 TryI.inf57) (.e rfl (E_cu (F59_calls bF oF cM cI cO cT r_10 r_10 r_12 hr_12) Try.call59 ⟨.r 2, .r 3, .r 4, .r 5,trivial⟩) (.e rfl (E_cu (F77_calls bF oF cM cI cO cT r_11 r_12 r_13 hr_13) Try.call77 ⟨.r 2, .r 3, .r 4, .r 5,trivial⟩) (.c rfl (fun _ _=>(E_al64 4 TryI.inf57 TryI.zer57)) .nil)))))))))))))))))))) .nil (by kernel_rfl) rfl (fun γ=>?_)
 refine TA_cut [(10,ptr (some ((γ 19),0)) 0),(106,aG [(4,e64 r_13.toList)]),(9,ptr (some (b7,0)) 0),(8,ptr (some (b6,0)) 0),(6,ptr (some (b4,0)) 0),(5,ptr (some (b3,0)) 0),(4,ptr (some (b2,0)) 0),(3,ptr (some (b1,0)) 0),(0,ptr (some (bc,obc)) 0)] [⟨some ((γ 19),0),e64 ((replicate 4 0#64).toList)⟩,⟨some (b7,0),e64 r_10.toList⟩,⟨some (b6,0),e64 r_8.toList⟩,⟨some (b5,0),e64 r_3.toList⟩,⟨some (b4,0),e64 r_2.toList⟩,⟨some (b3,0),e64 r_1.toList⟩,⟨some (b2,0),e64 ((replicate 4 0#64).toList)⟩,⟨some (b2,4),e64 ((replicate 4 0#64).toList)⟩,⟨some (b2,8),e64 ((replicate 4 0#64).toList)⟩,⟨some (b1,0),e64 p_x.toList⟩,⟨some (b1,4),e64 p_y.toList⟩,⟨some (b1,8),e64 p_z.toList⟩] ⟨rfl,rfl,rfl,rfl,rfl,rfl,rfl,rfl,rfl,trivial⟩ rfl ?_
 generalize γ 19=b8
 refine TA_all (rs:=[20]) (by kernel_rfl) rfl ?_
 refine ⟨?_,trivial⟩
 refine TO_n (is:=[]) (done':=dn 21 2097151) rfl rfl rfl (by kernel_rfl) (E_sv (vs:=e64 r_13.toList) 0 TryI.inf57) (fun _ _=>rfl) (fun _=>?_)
 refine TA_done (by kernel_rfl) ?_ 0
 refine TX_next (TC_seq ?_)
 obtain ⟨r_14,hr_14,H⟩:=bind_elim H
 refine TA_begin [] 11 (by kernel_rfl) (N:=11) rfl ?_
 refine TA_mix (is:=[]) (done':=dn 11 1023) [itV 0 107 (ptr (some (bc,obc)) 0) [],itV 1 108 (ptr (some (bc,obc)) 0) [0],itV 2 109 (ptr (some (bc,obc)) 0) [1],itV 3 110 (ptr (some (bF,oF)) 0) [2],itV 4 111 (ptr (some (b1,4)) 0) [],itV 5 112 (aG [(4,e64 p_y.toList)]) [4],itV 6 113 (ptr (some (b1,8)) 0) [],itV 7 114 (aG [(4,e64 p_z.toList)]) [6],itV 8 115 (aG [(4,e64 r_14.toList)]) [5,7,3],itA64 9 11 4] [] 1 (by kernel_rfl) (QP.then QP.body) (by kernel_rfl) rfl (.v rfl (V_move rfl) (.v rfl (V_nilCheck rfl) (.v rfl (V_fe Try.underlying100 TryI.inf82) (.v rfl (V_load rfl (.r 0) rfl Try.isAgg82) (.v rfl (V_fe Try.underlying64 TryI.inf57) (.v rfl (V_lag (.o 10) Try.isAgg57 TryI.inf57) (.v rfl (V_fe Try.underlying64 TryI.inf57) (.v rfl (V_lag (.o 11) Try.isAgg57 TryI.inf57) (.e rfl (E_cu (F59_calls bF oF cM cI cO cT p_y p_z r_14 hr_14) Try.call59 ⟨.r 2, .r 3, .r 4, .r 5,trivial⟩) (.c rfl (fun _ _=>(E_al64 4 TryI.inf57 TryI.zer57)) .nil)))))))))) .nil (by kernel_rfl) rfl (fun γ=>?_)
 refine TA_cut [(11,ptr (some ((γ 9),0)) 0),(115,aG [(4,e64 r_14.toList)]),(10,ptr (some (b8,0)) 0),(9,ptr (some (b7,0)) 0),(8,ptr (some (b6,0)) 0),(6,ptr (some (b4,0)) 0),(5,ptr (some (b3,0)) 0),(4,ptr (some (b2,0)) 0),(0,ptr (some (bc,obc)) 0)] [⟨some ((γ 9),0),e64 ((replicate 4 0#64).toList)⟩,⟨some (b8,0),e64 r_13.toList⟩,⟨some (b7,0),e64 r_10.toList⟩,⟨some (b6,0),e64 r_8.toList⟩,⟨some (b5,0),e64 r_3.toList⟩,⟨some (b4,0),e64 r_2.toList⟩,⟨some (b3,0),e64 r_1.toList⟩,⟨some (b2,0),e64 ((replicate 4 0#64).toList)⟩,⟨some (b2,4),e64 ((replicate 4 0#64).toList)⟩,⟨some (b2,8),e64 ((replicate 4 0#64).toList)⟩,⟨some (b1,0),e64 p_x.toList⟩,⟨some (b1,4),e64 p_y.toList⟩,⟨some (b1,8),e64 p_z.toList⟩] ⟨rfl,rfl,rfl,rfl,rfl,rfl,rfl,rfl,rfl,trivial⟩ rfl ?_
 generalize γ 9=b9
 refine TA_all (rs:=[10]) (by kernel_rfl) rfl ?_
 refine ⟨?_,trivial⟩
 refine TO_n (is:=[]) (done':=dn 11 2047) rfl rfl rfl (by kernel_rfl) (E_sv (vs:=e64 r_14.toList) 0 TryI.inf57) (fun _ _=>rfl) (fun _=>?_)
 refine TA_done (by kernel_rfl) ?_ 0
 refine TX_next (TC_seq ?_)
 obtain ⟨r_15,hr_15,H⟩:=bind_elim H
 obtain ⟨r_16,hr_16,H⟩:=bind_elim H
 obtain ⟨r_17,hr_17,H⟩:=bind_elim H
 refine TA_begin [] 21 (by kernel_rfl) (N:=21) rfl ?_
 refine TA_mix (is:=[]) (done':=dn 21 1048575) [itV 0 116 (ptr (some (bc,obc)) 0) [],itV 1 117 (ptr (some (bc,obc)) 0) [0],itV 2 118 (ptr (some (bc,obc)) 0) [1],itV 3 119 (ptr (some (bF,oF)) 0) [2],itV 4 120 (ptr (some (bc,obc)) 0) [],itV 5 121 (ptr (some (bc,obc)) 0) [4],itV 6 122 (ptr (some (bc,obc)) 0) [5],itV 7 123 (ptr (some (bF,oF)) 0) [6],itV 8 124 (ptr (some (bc,obc)) 0) [],itV 9 125 (ptr (some (bc,obc)) 0) [8],itV 10 126 (ptr (some (bc,obc)) 0) [9],itV 11 127 (ptr (some (bF,oF)) 0) [10],itV 12 128 (aG [(4,e64 r_14.toList)]) [],itV 13 129 (aG [(4,e64 r_14.toList)]) [],itV 14 130 (aG [(4,e64 r_15.toList)]) [12,13,11],itV 15 131 (aG [(4,e64 r_2.toList)]) [],itV 16 132 (aG [(4,e64 r_16.toList)]) [14,7,15],itV 17 133 (aG [(4,e64 r_1.toList)]) [],itV 18 134 (aG [(4,e64 r_17.toList)]) [16,17,3],itA64 19 12 4] [] 1 (by kernel_rfl) (QP.then QP.body) (by kernel_rfl) rfl (.v rfl (V_move rfl) (.v rfl (V_nilCheck rfl) (.v rfl (V_fe Try.underlying100 TryI.inf82) (.v rfl (V_load rfl (.r 0) rfl Try.isAgg82) (.v rfl (V_move rfl) (.v rfl (V_nilCheck rfl) (.v rfl (V_fe Try.underlying100 TryI.inf82) (.v rfl (V_load rfl (.r 0) rfl Try.isAgg82) (.v rfl (V_move rfl) (.v rfl (V_nilCheck rfl) (.v rfl (V_fe Try.underlying100 TryI.inf82) (.v rfl (V_load rfl (.r 0) rfl Try.isAgg82) (.v rfl (V_lag (.o 0) Try.isAgg57 TryI.inf57) (.v rfl (V_lag (.o 0) Try.isAgg57 TryI.inf57) (.e rfl (E_cu (F58_calls bF oF cM cI cO cT r_14 r_14 r_15 hr_15) Try.call58 ⟨.r 2, .r 3, .r 4, .r 5,trivial⟩) (.v rfl (V_lag (.o 5) Try.isAgg57 TryI.inf57) (.e rfl (E_cu (F77_calls bF oF cM cI cO cT r_15 r_2 r_16 hr_16) Try.call77 ⟨.r 2, .r 3, .r 4, .r 5,trivial⟩) (.v rfl (V_lag (.o 6) Try.isAgg57 TryI.inf57) (.e rfl (E_cu (F77_calls bF oF cM cI cO cT r_16 r_1 r_17 hr_17) Try.call77 ⟨.r 2, .r 3, .r 4, .r 5,trivial⟩) (.c rfl (fun _ _=>(E_al64 4 TryI.inf57 TryI.zer57)) .nil)))))))))))))))))))) .nil (by kernel_rfl) rfl (fun γ=>?_)
 refine TA_cut [(12,ptr (some ((γ 19),0)) 0),(134,aG [(4,e64 r_17.toList)]),(10,ptr (some (b8,0)) 0),(9,ptr (some (b7,0)) 0),(8,ptr (some (b6,0)) 0),(6,ptr (some (b4,0)) 0),(4,ptr (some (b2,0)) 0),(0,ptr (some (bc,obc)) 0)] [⟨some ((γ 19),0),e64 ((replicate 4 0#64).toList)⟩,⟨some (b9,0),e64 r_14.toList⟩,⟨some (b8,0),e64 r_13.toList⟩,⟨some (b7,0),e64 r_10.toList⟩,⟨some (b6,0),e64 r_8.toList⟩,⟨some (b5,0),e64 r_3.toList⟩,⟨some (b4,0),e64 r_2.toList⟩,⟨some (b3,0),e64 r_1.toList⟩,⟨some (b2,0),e64 ((replicate 4 0#64).toList)⟩,⟨some (b2,4),e64 ((replicate 4 0#64).toList)⟩,⟨some (b2,8),e64 ((replicate 4 0#64).toList)⟩,⟨some (b1,0),e64 p_x.toList⟩,⟨some (b1,4),e64 p_y.toList⟩,⟨some (b1,8),e64 p_z.toList⟩] ⟨rfl,rfl,rfl,rfl,rfl,rfl,rfl,rfl,trivial⟩ rfl ?_
 generalize γ 19=b10
 refine TA_all (rs:=[20]) (by kernel_rfl) rfl ?_
 refine ⟨?_,trivial⟩
 refine TO_n (is:=[]) (done':=dn 21 2097151) rfl rfl rfl (by kernel_rfl) (E_sv (vs:=e64 r_17.toList) 0 TryI.inf57) (fun _ _=>rfl) (fun _=>?_)
 refine TA_done (by kernel_rfl) ?_ 0
 refine TX_next (TC_seq ?_)
 obtain ⟨r_18,hr_18,H⟩:=bind_elim H
 refine TA_begin [] 9 (by kernel_rfl) (N:=9) rfl ?_
 refine TA_mix (is:=[]) (done':=dn 9 255) [itV 0 135 (ptr (some (bc,obc)) 0) [],itV 1 136 (ptr (some (bc,obc)) 0) [0],itV 2 137 (ptr (some (bc,obc)) 0) [1],itV 3 138 (ptr (some (bF,oF)) 0) [2],itV 4 139 (aG [(4,e64 r_2.toList)]) [],itV 5 140 (aG [(4,e64 r_2.toList)]) [],itV 6 141 (aG [(4,e64 r_18.toList)]) [3,4,5],itA64 7 13 4] [] 1 (by kernel_rfl) (QP.then QP.body) (by kernel_rfl) rfl (.v rfl (V_move rfl) (.v rfl (V_nilCheck rfl) (.v rfl (V_fe Try.underlying100 TryI.inf82) (.v rfl (V_load rfl (.r 0) rfl Try.isAgg82) (.v rfl (V_lag (.o 6) Try.isAgg57 TryI.inf57) (.v rfl (V_lag (.o 6) Try.isAgg57 TryI.inf57) (.e rfl (E_cu (F58_calls bF oF cM cI cO cT r_2 r_2 r_18 hr_18) Try.call58 ⟨.r 2, .r 3, .r 4, .r 5,trivial⟩) (.c rfl (fun _ _=>(E_al64 4 TryI.inf57 TryI.zer57)) .nil)))))))) .nil (by kernel_rfl) rfl (fun γ=>?_)
 refine TA_cut [(13,ptr (some ((γ 7),0)) 0),(141,aG [(4,e64 r_18.toList)]),(12,ptr (some (b10,0)) 0),(10,ptr (some (b8,0)) 0),(9,ptr (some (b7,0)) 0),(8,ptr (some (b6,0)) 0),(4,ptr (some (b2,0)) 0),(0,ptr (some (bc,obc)) 0)] [⟨some ((γ 7),0),e64 ((replicate 4 0#64).toList)⟩,⟨some (b10,0),e64 r_17.toList⟩,⟨some (b9,0),e64 r_14.toList⟩,⟨some (b8,0),e64 r_13.toList⟩,⟨some (b7,0),e64 r_10.toList⟩,⟨some (b6,0),e64 r_8.toList⟩,⟨some (b5,0),e64 r_3.toList⟩,⟨some (b4,0),e64 r_2.toList⟩,⟨some (b3,0),e64 r_1.toList⟩,⟨some (b2,0),e64 ((replicate 4 0#64).toList)⟩,⟨some (b2,4),e64 ((replicate 4 0#64).toList)⟩,⟨some (b2,8),e64 ((replicate 4 0#64).toList)⟩,⟨some (b1,0),e64 p_x.toList⟩,⟨some (b1,4),e64 p_y.toList⟩,⟨some (b1,8),e64 p_z.toList⟩] ⟨rfl,rfl,rfl,rfl,rfl,rfl,rfl,rfl,trivial⟩ rfl ?_
 generalize γ 7=b11
 refine TA_all (rs:=[8]) (by kernel_rfl) rfl ?_
 refine ⟨?_,trivial⟩
 refine TO_n (is:=[]) (done':=dn 9 511) rfl rfl rfl (by kernel_rfl) (E_sv (vs:=e64 r_18.toList) 0 TryI.inf57) (fun _ _=>rfl) (fun _=>?_)
 refine TA_done (by kernel_rfl) ?_ 0
 refine TX_next (TC_seq ?_)
 obtain ⟨r_19,hr_19,H⟩:=bind_elim H
 refine TA_begin [] 8 (by kernel_rfl) (N:=8) rfl ?_
 refine TA_mix (is:=[]) (done':=dn 8 127) [itV 0 142 (ptr (some (bc,obc)) 0) [],itV 1 143 (ptr (some (bc,obc)) 0) [0],itV 2 144 (ptr (some (bc,obc)) 0) [1],itV 3 145 (ptr (some (bF,oF)) 0) [2],itV 4 146 (aG [(4,e64 r_18.toList)]) [],itV 5 147 (aG [(4,e64 r_18.toList)]) [],itV 6 148 (aG [(4,e64 r_19.toList)]) [3,4,5]] [] 1 (by kernel_rfl) (QP.then QP.body) (by kernel_rfl) rfl (.v rfl (V_move rfl) (.v rfl (V_nilCheck rfl) (.v rfl (V_fe Try.underlying100 TryI.inf82) (.v rfl (V_load rfl (.r 0) rfl Try.isAgg82) (.v rfl (V_lag (.o 0) Try.isAgg57 TryI.inf57) (.v rfl (V_lag (.o 0) Try.isAgg57 TryI.inf57) (.e rfl (E_cu (F59_calls bF oF cM cI cO cT r_18 r_18 r_19 hr_19) Try.call59 ⟨.r 2, .r 3, .r 4, .r 5,trivial⟩) .nil))))))) .nil (by kernel_rfl) rfl (fun γ=>?_)
 refine TA_cut [(148,aG [(4,e64 r_19.toList)]),(13,ptr (some (b11,0)) 0),(12,ptr (some (b10,0)) 0),(10,ptr (some (b8,0)) 0),(9,ptr (some (b7,0)) 0),(8,ptr (some (b6,0)) 0),(4,ptr (some (b2,0)) 0),(0,ptr (some (bc,obc)) 0)] [⟨some (b11,0),e64 r_18.toList⟩,⟨some (b10,0),e64 r_17.toList⟩,⟨some (b9,0),e64 r_14.toList⟩,⟨some (b8,0),e64 r_13.toList⟩,⟨some (b7,0),e64 r_10.toList⟩,⟨some (b6,0),e64 r_8.toList⟩,⟨some (b5,0),e64 r_3.toList⟩,⟨some (b4,0),e64 r_2.toList⟩,⟨some (b3,0),e64 r_1.toList⟩,⟨some (b2,0),e64 ((replicate 4 0#64).toList)⟩,⟨some (b2,4),e64 ((replicate 4 0#64).toList)⟩,⟨some (b2,8),e64 ((replicate 4 0#64).toList)⟩,⟨some (b1,0),e64 p_x.toList⟩,⟨some (b1,4),e64 p_y.toList⟩,⟨some (b1,8),e64 p_z.toList⟩] ⟨rfl,rfl,rfl,rfl,rfl,rfl,rfl,rfl,trivial⟩ rfl ?_
 refine TA_all (rs:=[7]) (by kernel_rfl) rfl ?_
 refine ⟨?_,trivial⟩
 refine TO_n (is:=[]) (done':=dn 8 255) rfl rfl rfl (by kernel_rfl) (E_sv (vs:=e64 r_19.toList) 0 TryI.inf57) (fun _ _=>rfl) (fun _=>?_)
 refine TA_done (by kernel_rfl) ?_ 0
 refine TX_next (TC_seq ?_)
 obtain ⟨r_20,hr_20,H⟩:=bind_elim H
 refine TA_begin [] 8 (by kernel_rfl) (N:=8) rfl ?_
 refine TA_mix (is:=[]) (done':=dn 8 127) [itV 0 149 (ptr (some (bc,obc)) 0) [],itV 1 150 (ptr (some (bc,obc)) 0) [0],itV 2 151 (ptr (some (bc,obc)) 0) [1],itV 3 152 (ptr (some (bF,oF)) 0) [2],itV 4 153 (aG [(4,e64 r_19.toList)]) [],itV 5 154 (aG [(4,e64 r_19.toList)]) [],itV 6 155 (aG [(4,e64 r_20.toList)]) [3,4,5]] [] 1 (by kernel_rfl) (QP.then QP.body) (by kernel_rfl) rfl (.v rfl (V_move rfl) (.v rfl (V_nilCheck rfl) (.v rfl (V_fe Try.underlying100 TryI.inf82) (.v rfl (V_load rfl (.r 0) rfl Try.isAgg82) (.v rfl (V_lag (.o 0) Try.isAgg57 TryI.inf57) (.v rfl (V_lag (.o 0) Try.isAgg57 TryI.inf57) (.e rfl (E_cu (F59_calls bF oF cM cI cO cT r_19 r_19 r_20 hr_20) Try.call59 ⟨.r 2, .r 3, .r 4, .r 5,trivial⟩) .nil))))))) .nil (by kernel_rfl) rfl (fun γ=>?_)
 refine TA_cut [(155,aG [(4,e64 r_20.toList)]),(13,ptr (some (b11,0)) 0),(12,ptr (some (b10,0)) 0),(10,ptr (some (b8,0)) 0),(9,ptr (some (b7,0)) 0),(8,ptr (some (b6,0)) 0),(4,ptr (some (b2,0)) 0),(0,ptr (some (bc,obc)) 0)] [⟨some (b11,0),e64 r_19.toList⟩,⟨some (b10,0),e64 r_17.toList⟩,⟨some (b9,0),e64 r_14.toList⟩,⟨some (b8,0),e64 r_13.toList⟩,⟨some (b7,0),e64 r_10.toList⟩,⟨some (b6,0),e64 r_8.toList⟩,⟨some (b5,0),e64 r_3.toList⟩,⟨some (b4,0),e64 r_2.toList⟩,⟨some (b3,0),e64 r_1.toList⟩,⟨some (b2,0),e64 ((replicate 4 0#64).toList)⟩,⟨some (b2,4),e64 ((replicate 4 0#64).toList)⟩,⟨some (b2,8),e64 ((replicate 4 0#64).toList)⟩,⟨some (b1,0),e64 p_x.toList⟩,⟨some (b1,4),e64 p_y.toList⟩,⟨some (b1,8),e64 p_z.toList⟩] ⟨rfl,rfl,rfl,rfl,rfl,rfl,rfl,rfl,trivial⟩ rfl ?_
 refine TA_all (rs:=[7]) (by kernel_rfl) rfl ?_
 refine ⟨?_,trivial⟩
 refine TO_n (is:=[]) (done':=dn 8 255) rfl rfl rfl (by kernel_rfl) (E_sv (vs:=e64 r_20.toList) 0 TryI.inf57) (fun _ _=>rfl) (fun _=>?_)
 refine TA_done (by kernel_rfl) ?_ 0
 refine TX_next (TC_seq ?_)
 obtain ⟨r_21,hr_21,H⟩:=bind_elim H
 obtain ⟨r_22,hr_22,H⟩:=bind_elim H
 obtain ⟨r_23,hr_23,H⟩:=bind_elim H
 obtain ⟨r_24,hr_24,H⟩:=bind_elim H
 refine TA_begin [] 29 (by kernel_rfl) (N:=29) rfl ?_
 refine TA_mix (is:=[]) (done':=dn 29 268435455) [itV 0 156 (aG [(4,e64 r_13.toList)]) [],itV 1 157 (ptr (some (bc,obc)) 0) [],itV 2 158 (ptr (some (bc,obc)) 0) [1],itV 3 159 (ptr (some (bc,obc)) 0) [2],itV 4 160 (ptr (some (bF,oF)) 0) [3],itV 5 161 (ptr (some (bc,obc)) 0) [],itV 6 162 (ptr (some (bc,obc)) 0) [5],itV 7 163 (ptr (some (bc,obc)) 0) [6],itV 8 164 (ptr (some (bF,oF)) 0) [7],itV 9 165 (aG [(4,e64 r_8.toList)]) [],itV 10 166 (ptr (some (bc,obc)) 0) [],itV 11 167 (ptr (some (bc,obc)) 0) [10],itV 12 168 (ptr (some (bc,obc)) 0) [11],itV 13 169 (ptr (some (bF,oF)) 0) [12],itV 14 170 (aG [(4,e64 r_10.toList)]) [],itV 15 171 (aG [(4,e64 r_13.toList)]) [],itV 16 172 (aG [(4,e64 r_21.toList)]) [13,14,15],itV 17 173 (aG [(4,e64 r_22.toList)]) [16,8,9],itV 18 174 (ptr (some (bc,obc)) 0) [],itV 19 175 (ptr (some (bc,obc)) 0) [18],itV 20 176 (ptr (some (bc,obc)) 0) [19],itV 21 177 (ptr (some (bF,oF)) 0) [20],itV 22 178 (aG [(4,e64 r_20.toList)]) [],itV 23 179 (aG [(4,e64 r_20.toList)]) [],itV 24 180 (aG [(4,e64 r_23.toList)]) [21,22,23],itV 25 181 (aG [(4,e64 r_24.toList)]) [4,24,17],itV 26 182 (aG [(4,e64 r_17.toList)]) [],itV 27 183 (aG [(4,e64 r_13.toList),(4,e64 r_24.toList),(4,e64 r_17.toList)]) [0,25,26]] [] 1 (by kernel_rfl) (QP.then QP.body) (by kernel_rfl) rfl (.v rfl (V_lag (.o 3) Try.isAgg57 TryI.inf57) (.v rfl (V_move rfl) (.v rfl (V_nilCheck rfl) (.v rfl (V_fe Try.underlying100 TryI.inf82) (.v rfl (V_load rfl (.r 0) rfl Try.isAgg82) (.v rfl (V_move rfl) (.v rfl (V_nilCheck rfl) (.v rfl (V_fe Try.underlying100 TryI.inf82) (.v rfl (V_load rfl (.r 0) rfl Try.isAgg82) (.v rfl (V_lag (.o 5) Try.isAgg57 TryI.inf57) (.v rfl (V_move rfl) (.v rfl (V_nilCheck rfl) (.v rfl (V_fe Try.underlying100 TryI.inf82) (.v rfl (V_load rfl (.r 0) rfl Try.isAgg82) (.v rfl (V_lag (.o 4) Try.isAgg57 TryI.inf57) (.v rfl (V_lag (.o 3) Try.isAgg57 TryI.inf57) (.e rfl (E_cu (F77_calls bF oF cM cI cO cT r_10 r_13 r_21 hr_21) Try.call77 ⟨.r 2, .r 3, .r 4, .r 5,trivial⟩) (.e rfl (E_cu (F58_calls bF oF cM cI cO cT r_8 r_21 r_22 hr_22) Try.call58 ⟨.r 2, .r 3, .r 4, .r 5,trivial⟩) (.v rfl (V_move rfl) (.v rfl (V_nilCheck rfl) (.v rfl (V_fe Try.underlying100 TryI.inf82) (.v rfl (V_load rfl (.r 0) rfl Try.isAgg82) (.v rfl (V_lag (.o 0) Try.isAgg57 TryI.inf57) (.v rfl (V_lag (.o 0) Try.isAgg57 TryI.inf57) (.e rfl (E_cu (F59_calls bF oF cM cI cO cT r_20 r_20 r_23 hr_23) Try.call59 ⟨.r 2, .r 3, .r 4, .r 5,trivial⟩) (.e rfl (E_cu (F77_calls bF oF cM cI cO cT r_22 r_23 r_24 hr_24) Try.call77 ⟨.r 2, .r 3, .r 4, .r 5,trivial⟩) (.v rfl (V_lag (.o 1) Try.isAgg57 TryI.inf57) (.v rfl (V_buildStruct (pv:=[(0,aG [(4,e64 r_13.toList)]),(1,aG [(4,e64 r_24.toList)]),(2,aG [(4,e64 r_17.toList)])]) (pl:=[(0,4),(4,4),(8,4)]) rfl rfl Try.underlying64 TryI.inf64 TryI.places64 TryI.zer64 (cs:=flat [(4,e64 r_13.toList),(4,e64 r_24.toList),(4,e64 r_17.toList)]) (fill_part [] [(4,e64 ((replicate 4 0#64).toList)),(4,e64 ((replicate 4 0#64).toList))] rfl rfl trivial rfl (lenV (f:=v64) (replicate 4 0#64)) (lenV (f:=v64) r_13) (fill_part [(4,e64 r_13.toList)] [(4,e64 ((replicate 4 0#64).toList))] rfl rfl ⟨(lenV (f:=v64) r_13),trivial⟩ rfl (lenV (f:=v64) (replicate 4 0#64)) (lenV (f:=v64) r_24) (fill_part [(4,e64 r_13.toList),(4,e64 r_24.toList)] [] rfl rfl ⟨(lenV (f:=v64) r_13),(lenV (f:=v64) r_24),trivial⟩ rfl (lenV (f:=v64) (replicate 4 0#64)) (lenV (f:=v64) r_17) fill_end)))) .nil)))))))))))))))))))))))))))) .nil (by kernel_rfl) rfl (fun γ=>?_)
 refine TA_cut [(183,aG [(4,e64 r_13.toList),(4,e64 r_24.toList),(4,e64 r_17.toList)]),(4,ptr (some (b2,0)) 0)] [⟨some (b11,0),e64 r_20.toList⟩,⟨some (b10,0),e64 r_17.toList⟩,⟨some (b9,0),e64 r_14.toList⟩,⟨some (b8,0),e64 r_13.toList⟩,⟨some (b7,0),e64 r_10.toList⟩,⟨some (b6,0),e64 r_8.toList⟩,⟨some (b5,0),e64 r_3.toList⟩,⟨some (b4,0),e64 r_2.toList⟩,⟨some (b3,0),e64 r_1.toList⟩,⟨some (b2,0),e64 ((replicate 4 0#64).toList)⟩,⟨some (b2,4),e64 ((replicate 4 0#64).toList)⟩,⟨some (b2,8),e64 ((replicate 4 0#64).toList)⟩,⟨some (b1,0),e64 p_x.toList⟩,⟨some (b1,4),e64 p_y.toList⟩,⟨some (b1,8),e64 p_z.toList⟩] ⟨rfl,rfl,trivial⟩ rfl ?_
 refine TA_all (rs:=[28]) (by kernel_rfl) rfl ?_
 refine ⟨?_,trivial⟩
 refine TO_n (is:=[]) (done':=dn 29 536870911) rfl rfl rfl (by kernel_rfl) (E_sp (b:=b2) (o:=0) [9,9,9] [(4,e64 ((replicate 4 0#64).toList)),(4,e64 ((replicate 4 0#64).toList)),(4,e64 ((replicate 4 0#64).toList))] [(4,e64 r_13.toList),(4,e64 r_24.toList),(4,e64 r_17.toList)] rfl TryI.inf64 ⟨(lenV (f:=v64) (replicate 4 0#64)),(lenV (f:=v64) (replicate 4 0#64)),(lenV (f:=v64) (replicate 4 0#64)),trivial⟩ ⟨(lenV (f:=v64) r_13),(lenV (f:=v64) r_24),(lenV (f:=v64) r_17),trivial⟩ ⟨(OneC.map (fun _=>rfl) _),(OneC.map (fun _=>rfl) _),(OneC.map (fun _=>rfl) _),trivial⟩) (fun _ _=>rfl) (fun _=>?_)
 refine TA_done (by kernel_rfl) ?_ 0
 refine TX_next (TC_ret ?_)
 have hrv:=Option.some.inj H
 subst hrv
 exact TX_ret (rs:=[.cell 4 64]) (vs:=[aG [(4,e64 r_13.toList),(4,e64 r_24.toList),(4,e64 r_17.toList)]]) rfl ⟨(Res_agg (n:=12) (cs:=flat [(4,e64 r_13.toList),(4,e64 r_24.toList),(4,e64 r_17.toList)]) rfl (by simp) (SrcEnts (b:=b2) [(4,e64 r_13.toList),(4,e64 r_24.toList),(4,e64 r_17.toList)] 0 ⟨(lenV (f:=v64) r_13),(lenV (f:=v64) r_24),(lenV (f:=v64) r_17),trivial⟩ (AllSrc.all (M:=ents b2 0 [(4,e64 r_13.toList),(4,e64 r_24.toList),(4,e64 r_17.toList)]) ⟨Src.own (j:=0) rfl,Src.own (j:=1) rfl,Src.own (j:=2) rfl,trivial⟩)) Try.isAgg64 TryI.inf64 rfl (by simp [flat])),trivial⟩ (fun w' hs'=>⟨(),rfl,Step.left (Step.pulled (is:=[]) (A:=[]) hs' rfl)⟩)
end Go.Proofs
end

section
namespace Go.Proofs
open Go Go.Kx
open Vector (replicate)
def pcurve_curve_add (cM:Vx 64 4) (cI:BitVec 64) (cO:Vx 64 4) (cT:Vx 64 4) (c_b:Vx 64 4) (p_x:Vx 64 4) (p_y:Vx 64 4) (p_z:Vx 64 4) (q_x:Vx 64 4) (q_y:Vx 64 4) (q_z:Vx 64 4):Option (Vx 64 4 × Vx 64 4 × Vx 64 4) :=
 (num_Nat_Zero p_z).bind fun (r_1:Bool)=>(if r_1=true then (some (q_x,q_y,q_z)) else ((num_Nat_Zero q_z).bind fun (r_2:Bool)=>(if r_2=true then (some (p_x,p_y,p_z)) else ((num_Field_Mul cM cI cO cT p_z p_z).bind fun (r_3:Vx 64 4)=>((num_Field_Mul cM cI cO cT q_z q_z).bind fun (r_4:Vx 64 4)=>((num_Field_Mul cM cI cO cT p_x r_4).bind fun (r_5:Vx 64 4)=>((num_Field_Mul cM cI cO cT q_x r_3).bind fun (r_6:Vx 64 4)=>((num_Field_Mul cM cI cO cT q_z r_4).bind fun (r_7:Vx 64 4)=>((num_Field_Mul cM cI cO cT p_y r_7).bind fun (r_8:Vx 64 4)=>((num_Field_Mul cM cI cO cT p_z r_3).bind fun (r_9:Vx 64 4)=>((num_Field_Mul cM cI cO cT q_y r_9).bind fun (r_10:Vx 64 4)=>((num_Field_Sub cM cI cO cT r_6 r_5).bind fun (r_11:Vx 64 4)=>((num_Field_Sub cM cI cO cT r_10 r_8).bind fun (r_12:Vx 64 4)=>((num_Nat_Zero r_11).bind fun (r_13:Bool)=>(if r_13=true then ((num_Nat_Zero r_12).bind fun (r_14:Bool)=>(if r_14=true then ((pcurve_curve_double cM cI cO cT c_b p_x p_y p_z).bind fun (r_15:Vx 64 4 × Vx 64 4 × Vx 64 4)=>(some (r_15.1,r_15.2.1,r_15.2.2))) else (some (replicate 4 0#64,replicate 4 0#64,replicate 4 0#64)))) else ((num_Field_Mul cM cI cO cT r_11 r_11).bind fun (r_16:Vx 64 4)=>((num_Field_Mul cM cI cO cT r_11 r_16).bind fun (r_17:Vx 64 4)=>((num_Field_Mul cM cI cO cT r_5 r_16).bind fun (r_18:Vx 64 4)=>((num_Field_Mul cM cI cO cT r_12 r_12).bind fun (r_19:Vx 64 4)=>((num_Field_Sub cM cI cO cT r_19 r_17).bind fun (r_20:Vx 64 4)=>((num_Field_Add cM cI cO cT r_18 r_18).bind fun (r_21:Vx 64 4)=>((num_Field_Sub cM cI cO cT r_20 r_21).bind fun (r_22:Vx 64 4)=>((num_Field_Sub cM cI cO cT r_18 r_22).bind fun (r_23:Vx 64 4)=>((num_Field_Mul cM cI cO cT r_12 r_23).bind fun (r_24:Vx 64 4)=>((num_Field_Mul cM cI cO cT r_8 r_17).bind fun (r_25:Vx 64 4)=>((num_Field_Sub cM cI cO cT r_24 r_25).bind fun (r_26:Vx 64 4)=>((num_Field_Mul cM cI cO cT p_z q_z).bind fun (r_27:Vx 64 4)=>((num_Field_Mul cM cI cO cT r_11 r_27).bind fun (r_28:Vx 64 4)=>(some (r_22,r_26,r_28))))))))))))))))))))))))))))))
set_option maxHeartbeats 4000000 in
set_option maxRecDepth 20000 in
theorem F42_calls (bc:Nat) (obc:Nat) (bF:Nat) (oF:Nat) (cM:Vx 64 4) (cI:BitVec 64) (cO:Vx 64 4) (cT:Vx 64 4) (c_b:Vx 64 4) (p_x:Vx 64 4) (p_y:Vx 64 4) (p_z:Vx 64 4) (q_x:Vx 64 4) (q_y:Vx 64 4) (q_z:Vx 64 4) (r:Vx 64 4 × Vx 64 4 × Vx 64 4) (H:pcurve_curve_add cM cI cO cT c_b p_x p_y p_z q_x q_y q_z=some r) :
  Does Try.prog 42 [ptr (some (bc,obc)) 0,aG [(4,e64 p_x.toList),(4,e64 p_y.toList),(4,e64 p_z.toList)],aG [(4,e64 q_x.toList),(4,e64 q_y.toList),(4,e64 q_z.toList)]] [] [⟨some (bc,obc),[ptr (some (bF,oF)) 0]⟩,⟨some (bc,obc+1),e64 c_b.toList⟩,⟨some (bF,oF),e64 cM.toList⟩,⟨some (bF,oF+4),[v64 cI]⟩,⟨some (bF,oF+5),e64 cO.toList⟩,⟨some (bF,oF+9),e64 cT.toList⟩] (Γ:=Unit) (fun g=>aG [(4,e64 r.1.toList),(4,e64 r.2.1.toList),(4,e64 r.2.2.toList)]) (fun g=>[]):=by
 intro w hmem hro hd
 refine calls_of (N:=205) (m0:=[(0,ptr (some (bc,obc)) 0),(1,aG [(4,e64 p_x.toList),(4,e64 p_y.toList),(4,e64 p_z.toList)]),(2,aG [(4,e64 q_x.toList),(4,e64 q_y.toList),(4,e64 q_z.toList)])]) Try.func42 rfl Try.ntmps42 (argM_ok [ptr (some (bc,obc)) 0,aG [(4,e64 p_x.toList),(4,e64 p_y.toList),(4,e64 p_z.toList)],aG [(4,e64 q_x.toList),(4,e64 q_y.toList),(4,e64 q_z.toList)]]) rfl hmem hro hd ?_
 unfold pcurve_curve_add at H
 refine TC_seq (TC_region (TLe (E_boxP [(4,e64 p_x.toList),(4,e64 p_y.toList),(4,e64 p_z.toList)] rfl rfl ⟨(lenV (f:=v64) p_x),(lenV (f:=v64) p_y),(lenV (f:=v64) p_z),trivial⟩) (fun b1=>?_)))
 refine TLe (E_boxP [(4,e64 q_x.toList),(4,e64 q_y.toList),(4,e64 q_z.toList)] rfl rfl ⟨(lenV (f:=v64) q_x),(lenV (f:=v64) q_y),(lenV (f:=v64) q_z),trivial⟩) (fun b2=>?_)
 refine TLe (E_allocP [(4,e64 ((replicate 4 0#64).toList)),(4,e64 ((replicate 4 0#64).toList)),(4,e64 ((replicate 4 0#64).toList))] TryI.inf64 TryI.zer64 ⟨(lenV (f:=v64) (replicate 4 0#64)),(lenV (f:=v64) (replicate 4 0#64)),(lenV (f:=v64) (replicate 4 0#64)),trivial⟩) (fun b3=>?_)
 refine TL_nil (TX_next (TC_seq (TC_block (TC_seq (TC_region (TLv (V_fieldE rfl Try.underlying64 rfl rfl TryI.inf57 rfl (v:=ptr (some (b1,8)) 0) rfl) ?_))))))
 refine TLv (V_lag (.o 8) Try.isAgg57 TryI.inf57) ?_
 obtain ⟨r_1,hr_1,H⟩:=bind_elim H
 refine TLe (E_c0 (F43_calls p_z r_1 hr_1) Try.call43 .z) (fun g_1=>?_)
 refine TLv (V_assign rfl) ?_
 refine TL_nil (TX_next (TC_cond (b:=r_1) rfl (fun hc=>?_) (fun hc=>?_)))
 ·replace H:=ite_t hc H
  refine TC_seq (TC_region (TLv (V_loadAgg (n:=12) (cs:=flat [(4,e64 q_x.toList),(4,e64 q_y.toList),(4,e64 q_z.toList)]) rfl (by simp) (SrcEnts (b:=b2) [(4,e64 q_x.toList),(4,e64 q_y.toList),(4,e64 q_z.toList)] 0 ⟨(lenV (f:=v64) q_x),(lenV (f:=v64) q_y),(lenV (f:=v64) q_z),trivial⟩ (AllSrc.all (M:=ents b2 0 [(4,e64 q_x.toList),(4,e64 q_y.toList),(4,e64 q_z.toList)]) ⟨Src.own (j:=3) rfl,Src.own (j:=4) rfl,Src.own (j:=5) rfl,trivial⟩)) Try.isAgg64 TryI.inf64 rfl (flat_len ⟨(lenV (f:=v64) q_x),(lenV (f:=v64) q_y),(lenV (f:=v64) q_z),trivial⟩ rfl)) ?_))
  refine TLn (E_sp (b:=b3) (o:=0) [0,0,0] [(4,e64 ((replicate 4 0#64).toList)),(4,e64 ((replicate 4 0#64).toList)),(4,e64 ((replicate 4 0#64).toList))] [(4,e64 q_x.toList),(4,e64 q_y.toList),(4,e64 q_z.toList)] rfl TryI.inf64 ⟨(lenV (f:=v64) (replicate 4 0#64)),(lenV (f:=v64) (replicate 4 0#64)),(lenV (f:=v64) (replicate 4 0#64)),trivial⟩ ⟨(lenV (f:=v64) q_x),(lenV (f:=v64) q_y),(lenV (f:=v64) q_z),trivial⟩ ⟨(OneC.map (fun _=>rfl) _),(OneC.map (fun _=>rfl) _),(OneC.map (fun _=>rfl) _),trivial⟩) (fun _=>?_)
  refine TL_nil (TX_next (TC_ret (TX_block_ret (TX_then_ret ?_))))
  have hrv:=Option.some.inj H
  subst hrv
  exact TX_ret (rs:=[.cell 6 64]) (vs:=[aG [(4,e64 q_x.toList),(4,e64 q_y.toList),(4,e64 q_z.toList)]]) rfl ⟨(Res_agg (n:=12) (cs:=flat [(4,e64 q_x.toList),(4,e64 q_y.toList),(4,e64 q_z.toList)]) rfl (by simp) (SrcEnts (b:=b3) [(4,e64 q_x.toList),(4,e64 q_y.toList),(4,e64 q_z.toList)] 0 ⟨(lenV (f:=v64) q_x),(lenV (f:=v64) q_y),(lenV (f:=v64) q_z),trivial⟩ (AllSrc.all (M:=ents b3 0 [(4,e64 q_x.toList),(4,e64 q_y.toList),(4,e64 q_z.toList)]) ⟨Src.own (j:=0) rfl,Src.own (j:=1) rfl,Src.own (j:=2) rfl,trivial⟩)) Try.isAgg64 TryI.inf64 rfl (by simp [flat])),trivial⟩ (fun w' hs'=>⟨(),rfl,Step.left (Step.pulled (is:=[]) (A:=[]) hs' rfl)⟩)
 ·replace H:=ite_f (Bool.eq_false_iff.1 hc) H
  refine TC_seq (TC_region (TLv (V_fieldE rfl Try.underlying64 rfl rfl TryI.inf57 rfl (v:=ptr (some (b2,8)) 0) rfl) ?_))
  refine TLv (V_lag (.o 5) Try.isAgg57 TryI.inf57) ?_
  obtain ⟨r_2,hr_2,H⟩:=bind_elim H
  refine TLe (E_c0 (F43_calls q_z r_2 hr_2) Try.call43 .z) (fun g_2=>?_)
  refine TLv (V_assign rfl) ?_
  refine TL_nil (TX_next (TC_cond (b:=r_2) rfl (fun hc=>?_) (fun hc=>?_)))
  ·replace H:=ite_t hc H
   refine TC_seq (TC_region (TLv (V_loadAgg (n:=12) (cs:=flat [(4,e64 p_x.toList),(4,e64 p_y.toList),(4,e64 p_z.toList)]) rfl (by simp) (SrcEnts (b:=b1) [(4,e64 p_x.toList),(4,e64 p_y.toList),(4,e64 p_z.toList)] 0 ⟨(lenV (f:=v64) p_x),(lenV (f:=v64) p_y),(lenV (f:=v64) p_z),trivial⟩ (AllSrc.all (M:=ents b1 0 [(4,e64 p_x.toList),(4,e64 p_y.toList),(4,e64 p_z.toList)]) ⟨Src.own (j:=6) rfl,Src.own (j:=7) rfl,Src.own (j:=8) rfl,trivial⟩)) Try.isAgg64 TryI.inf64 rfl (flat_len ⟨(lenV (f:=v64) p_x),(lenV (f:=v64) p_y),(lenV (f:=v64) p_z),trivial⟩ rfl)) ?_))
   refine TLn (E_sp (b:=b3) (o:=0) [0,0,0] [(4,e64 ((replicate 4 0#64).toList)),(4,e64 ((replicate 4 0#64).toList)),(4,e64 ((replicate 4 0#64).toList))] [(4,e64 p_x.toList),(4,e64 p_y.toList),(4,e64 p_z.toList)] rfl TryI.inf64 ⟨(lenV (f:=v64) (replicate 4 0#64)),(lenV (f:=v64) (replicate 4 0#64)),(lenV (f:=v64) (replicate 4 0#64)),trivial⟩ ⟨(lenV (f:=v64) p_x),(lenV (f:=v64) p_y),(lenV (f:=v64) p_z),trivial⟩ ⟨(OneC.map (fun _=>rfl) _),(OneC.map (fun _=>rfl) _),(OneC.map (fun _=>rfl) _),trivial⟩) (fun _=>?_)
   refine TL_nil (TX_next (TC_ret (TX_block_ret (TX_then_ret ?_))))
   have hrv:=Option.some.inj H
   subst hrv
   exact TX_ret (rs:=[.cell 6 64]) (vs:=[aG [(4,e64 p_x.toList),(4,e64 p_y.toList),(4,e64 p_z.toList)]]) rfl ⟨(Res_agg (n:=12) (cs:=flat [(4,e64 p_x.toList),(4,e64 p_y.toList),(4,e64 p_z.toList)]) rfl (by simp) (SrcEnts (b:=b3) [(4,e64 p_x.toList),(4,e64 p_y.toList),(4,e64 p_z.toList)] 0 ⟨(lenV (f:=v64) p_x),(lenV (f:=v64) p_y),(lenV (f:=v64) p_z),trivial⟩ (AllSrc.all (M:=ents b3 0 [(4,e64 p_x.toList),(4,e64 p_y.toList),(4,e64 p_z.toList)]) ⟨Src.own (j:=0) rfl,Src.own (j:=1) rfl,Src.own (j:=2) rfl,trivial⟩)) Try.isAgg64 TryI.inf64 rfl (by simp [flat])),trivial⟩ (fun w' hs'=>⟨(),rfl,Step.left (Step.pulled (is:=[]) (A:=[]) hs' rfl)⟩)
  ·replace H:=ite_f (Bool.eq_false_iff.1 hc) H
   refine TC_skip (TX_block_normal (TX_next (TC_seq ?_)))
   obtain ⟨r_3,hr_3,H⟩:=bind_elim H
   obtain ⟨r_4,hr_4,H⟩:=bind_elim H
   refine TA_begin [] 22 (by kernel_rfl) (N:=22) rfl ?_
   refine TA_mix (is:=[]) (done':=dn 22 1048575) [itV 0 30 (ptr (some (bc,obc)) 0) [],itV 1 31 (ptr (some (bc,obc)) 0) [0],itV 2 32 (ptr (some (bc,obc)) 0) [1],itV 3 33 (ptr (some (bF,oF)) 0) [2],itV 4 34 (ptr (some (b1,8)) 0) [],itV 5 35 (aG [(4,e64 p_z.toList)]) [4],itV 6 36 (ptr (some (b1,8)) 0) [],itV 7 37 (aG [(4,e64 p_z.toList)]) [6],itV 8 38 (aG [(4,e64 r_3.toList)]) [3,5,7],itV 9 39 (ptr (some (bc,obc)) 0) [],itV 10 40 (ptr (some (bc,obc)) 0) [9],itV 11 41 (ptr (some (bc,obc)) 0) [10],itV 12 42 (ptr (some (bF,oF)) 0) [11],itV 13 43 (ptr (some (b2,8)) 0) [],itV 14 44 (aG [(4,e64 q_z.toList)]) [13],itV 15 45 (ptr (some (b2,8)) 0) [],itV 16 46 (aG [(4,e64 q_z.toList)]) [15],itV 17 47 (aG [(4,e64 r_4.toList)]) [12,14,16],itA64 18 7 4,itA64 19 8 4] [] 2 (by kernel_rfl) (QP.then QP.body) (by kernel_rfl) rfl (.v rfl (V_move rfl) (.v rfl (V_nilCheck rfl) (.v rfl (V_fe Try.underlying100 TryI.inf82) (.v rfl (V_load rfl (.r 0) rfl Try.isAgg82) (.v rfl (V_fe Try.underlying64 TryI.inf57) (.v rfl (V_lag (.o 8) Try.isAgg57 TryI.inf57) (.v rfl (V_fe Try.underlying64 TryI.inf57) (.v rfl (V_lag (.o 8) Try.isAgg57 TryI.inf57) (.e rfl (E_cu (F58_calls bF oF cM cI cO cT p_z p_z r_3 hr_3) Try.call58 ⟨.r 2, .r 3, .r 4, .r 5,trivial⟩) (.v rfl (V_move rfl) (.v rfl (V_nilCheck rfl) (.v rfl (V_fe Try.underlying100 TryI.inf82) (.v rfl (V_load rfl (.r 0) rfl Try.isAgg82) (.v rfl (V_fe Try.underlying64 TryI.inf57) (.v rfl (V_lag (.o 5) Try.isAgg57 TryI.inf57) (.v rfl (V_fe Try.underlying64 TryI.inf57) (.v rfl (V_lag (.o 5) Try.isAgg57 TryI.inf57) (.e rfl (E_cu (F58_calls bF oF cM cI cO cT q_z q_z r_4 hr_4) Try.call58 ⟨.r 2, .r 3, .r 4, .r 5,trivial⟩) (.c rfl (fun _ _=>(E_al64 4 TryI.inf57 TryI.zer57)) (.c rfl (fun _ _=>(E_al64 4 TryI.inf57 TryI.zer57)) .nil)))))))))))))))))))) .nil (by kernel_rfl) rfl (fun γ=>?_)
   refine TA_cut [(8,ptr (some ((γ 19),0)) 0),(7,ptr (some ((γ 18),0)) 0),(47,aG [(4,e64 r_4.toList)]),(38,aG [(4,e64 r_3.toList)]),(6,ptr (some (b3,0)) 0),(5,ptr (some (b2,0)) 0),(4,ptr (some (b1,0)) 0),(0,ptr (some (bc,obc)) 0)] [⟨some ((γ 19),0),e64 ((replicate 4 0#64).toList)⟩,⟨some ((γ 18),0),e64 ((replicate 4 0#64).toList)⟩,⟨some (b3,0),e64 ((replicate 4 0#64).toList)⟩,⟨some (b3,4),e64 ((replicate 4 0#64).toList)⟩,⟨some (b3,8),e64 ((replicate 4 0#64).toList)⟩,⟨some (b2,0),e64 q_x.toList⟩,⟨some (b2,4),e64 q_y.toList⟩,⟨some (b2,8),e64 q_z.toList⟩,⟨some (b1,0),e64 p_x.toList⟩,⟨some (b1,4),e64 p_y.toList⟩,⟨some (b1,8),e64 p_z.toList⟩] ⟨rfl,rfl,rfl,rfl,rfl,rfl,rfl,rfl,trivial⟩ rfl ?_
   generalize γ 18=b4
   generalize γ 19=b5
   refine TA_all (rs:=[20]) (by kernel_rfl) rfl ?_
   refine ⟨?_,trivial⟩
   refine TO_n (is:=[]) (done':=dn 22 2097151) rfl rfl rfl (by kernel_rfl) (E_sv (vs:=e64 r_3.toList) 1 TryI.inf57) (fun _ _=>rfl) (fun _=>?_)
   refine TA_all (rs:=[21]) (by kernel_rfl) rfl ?_
   refine ⟨?_,trivial⟩
   refine TO_n (is:=[]) (done':=dn 22 4194303) rfl rfl rfl (by kernel_rfl) (E_sv (vs:=e64 r_4.toList) 0 TryI.inf57) (fun _ _=>rfl) (fun _=>?_)
   refine TA_done (by kernel_rfl) ?_ 0
   refine TX_next (TC_seq ?_)
   obtain ⟨r_5,hr_5,H⟩:=bind_elim H
   obtain ⟨r_6,hr_6,H⟩:=bind_elim H
   refine TA_begin [] 20 (by kernel_rfl) (N:=20) rfl ?_
   refine TA_mix (is:=[]) (done':=dn 20 262143) [itV 0 48 (ptr (some (bc,obc)) 0) [],itV 1 49 (ptr (some (bc,obc)) 0) [0],itV 2 50 (ptr (some (bc,obc)) 0) [1],itV 3 51 (ptr (some (bF,oF)) 0) [2],itV 4 52 (ptr (some (b1,0)) 0) [],itV 5 53 (aG [(4,e64 p_x.toList)]) [4],itV 6 54 (aG [(4,e64 r_4.toList)]) [],itV 7 55 (aG [(4,e64 r_5.toList)]) [3,5,6],itV 8 56 (ptr (some (bc,obc)) 0) [],itV 9 57 (ptr (some (bc,obc)) 0) [8],itV 10 58 (ptr (some (bc,obc)) 0) [9],itV 11 59 (ptr (some (bF,oF)) 0) [10],itV 12 60 (ptr (some (b2,0)) 0) [],itV 13 61 (aG [(4,e64 q_x.toList)]) [12],itV 14 62 (aG [(4,e64 r_3.toList)]) [],itV 15 63 (aG [(4,e64 r_6.toList)]) [11,13,14],itA64 16 9 4,itA64 17 10 4] [] 2 (by kernel_rfl) (QP.then QP.body) (by kernel_rfl) rfl (.v rfl (V_move rfl) (.v rfl (V_nilCheck rfl) (.v rfl (V_fe Try.underlying100 TryI.inf82) (.v rfl (V_load rfl (.r 0) rfl Try.isAgg82) (.v rfl (V_fe Try.underlying64 TryI.inf57) (.v rfl (V_lag (.o 8) Try.isAgg57 TryI.inf57) (.v rfl (V_lag (.o 0) Try.isAgg57 TryI.inf57) (.e rfl (E_cu (F58_calls bF oF cM cI cO cT p_x r_4 r_5 hr_5) Try.call58 ⟨.r 2, .r 3, .r 4, .r 5,trivial⟩) (.v rfl (V_move rfl) (.v rfl (V_nilCheck rfl) (.v rfl (V_fe Try.underlying100 TryI.inf82) (.v rfl (V_load rfl (.r 0) rfl Try.isAgg82) (.v rfl (V_fe Try.underlying64 TryI.inf57) (.v rfl (V_lag (.o 5) Try.isAgg57 TryI.inf57) (.v rfl (V_lag (.o 1) Try.isAgg57 TryI.inf57) (.e rfl (E_cu (F58_calls bF oF cM cI cO cT q_x r_3 r_6 hr_6) Try.call58 ⟨.r 2, .r 3, .r 4, .r 5,trivial⟩) (.c rfl (fun _ _=>(E_al64 4 TryI.inf57 TryI.zer57)) (.c rfl (fun _ _=>(E_al64 4 TryI.inf57 TryI.zer57)) .nil)))))))))))))))))) .nil (by kernel_rfl) rfl (fun γ=>?_)
   refine TA_cut [(10,ptr (some ((γ 17),0)) 0),(9,ptr (some ((γ 16),0)) 0),(63,aG [(4,e64 r_6.toList)]),(55,aG [(4,e64 r_5.toList)]),(8,ptr (some (b5,0)) 0),(7,ptr (some (b4,0)) 0),(6,ptr (some (b3,0)) 0),(5,ptr (some (b2,0)) 0),(4,ptr (some (b1,0)) 0),(0,ptr (some (bc,obc)) 0)] [⟨some ((γ 17),0),e64 ((replicate 4 0#64).toList)⟩,⟨some ((γ 16),0),e64 ((replicate 4 0#64).toList)⟩,⟨some (b5,0),e64 r_4.toList⟩,⟨some (b4,0),e64 r_3.toList⟩,⟨some (b3,0),e64 ((replicate 4 0#64).toList)⟩,⟨some (b3,4),e64 ((replicate 4 0#64).toList)⟩,⟨some (b3,8),e64 ((replicate 4 0#64).toList)⟩,⟨some (b2,0),e64 q_x.toList⟩,⟨some (b2,4),e64 q_y.toList⟩,⟨some (b2,8),e64 q_z.toList⟩,⟨some (b1,0),e64 p_x.toList⟩,⟨some (b1,4),e64 p_y.toList⟩,⟨some (b1,8),e64 p_z.toList⟩] ⟨rfl,rfl,rfl,rfl,rfl,rfl,rfl,rfl,rfl,rfl,trivial⟩ rfl ?_
   generalize γ 16=b6
   generalize γ 17=b7
   refine TA_all (rs:=[18]) (by kernel_rfl) rfl ?_
   refine ⟨?_,trivial⟩
   refine TO_n (is:=[]) (done':=dn 20 524287) rfl rfl rfl (by kernel_rfl) (E_sv (vs:=e64 r_5.toList) 1 TryI.inf57) (fun _ _=>rfl) (fun _=>?_)
   refine TA_all (rs:=[19]) (by kernel_rfl) rfl ?_
   refine ⟨?_,trivial⟩
   refine TO_n (is:=[]) (done':=dn 20 1048575) rfl rfl rfl (by kernel_rfl) (E_sv (vs:=e64 r_6.toList) 0 TryI.inf57) (fun _ _=>rfl) (fun _=>?_)
   refine TA_done (by kernel_rfl) ?_ 0
   refine TX_next (TC_seq ?_)
   obtain ⟨r_7,hr_7,H⟩:=bind_elim H
   obtain ⟨r_8,hr_8,H⟩:=bind_elim H
   obtain ⟨r_9,hr_9,H⟩:=bind_elim H
   obtain ⟨r_10,hr_10,H⟩:=bind_elim H
   refine TA_begin [] 34 (by kernel_rfl) (N:=34) rfl ?_
   refine TA_mix (is:=[]) (done':=dn 34 4294967295) [itV 0 64 (ptr (some (bc,obc)) 0) [],itV 1 65 (ptr (some (bc,obc)) 0) [0],itV 2 66 (ptr (some (bc,obc)) 0) [1],itV 3 67 (ptr (some (bF,oF)) 0) [2],itV 4 68 (ptr (some (b1,4)) 0) [],itV 5 69 (aG [(4,e64 p_y.toList)]) [4],itV 6 70 (ptr (some (bc,obc)) 0) [],itV 7 71 (ptr (some (bc,obc)) 0) [6],itV 8 72 (ptr (some (bc,obc)) 0) [7],itV 9 73 (ptr (some (bF,oF)) 0) [8],itV 10 74 (ptr (some (b2,8)) 0) [],itV 11 75 (aG [(4,e64 q_z.toList)]) [10],itV 12 76 (aG [(4,e64 r_4.toList)]) [],itV 13 77 (aG [(4,e64 r_7.toList)]) [9,11,12],itV 14 78 (aG [(4,e64 r_8.toList)]) [3,13,5],itV 15 79 (ptr (some (bc,obc)) 0) [],itV 16 80 (ptr (some (bc,obc)) 0) [15],itV 17 81 (ptr (some (bc,obc)) 0) [16],itV 18 82 (ptr (some (bF,oF)) 0) [17],itV 19 83 (ptr (some (b2,4)) 0) [],itV 20 84 (aG [(4,e64 q_y.toList)]) [19],itV 21 85 (ptr (some (bc,obc)) 0) [],itV 22 86 (ptr (some (bc,obc)) 0) [21],itV 23 87 (ptr (some (bc,obc)) 0) [22],itV 24 88 (ptr (some (bF,oF)) 0) [23],itV 25 89 (ptr (some (b1,8)) 0) [],itV 26 90 (aG [(4,e64 p_z.toList)]) [25],itV 27 91 (aG [(4,e64 r_3.toList)]) [],itV 28 92 (aG [(4,e64 r_9.toList)]) [24,26,27],itV 29 93 (aG [(4,e64 r_10.toList)]) [18,20,28],itA64 30 11 4,itA64 31 12 4] [] 2 (by kernel_rfl) (QP.then QP.body) (by kernel_rfl) rfl (.v rfl (V_move rfl) (.v rfl (V_nilCheck rfl) (.v rfl (V_fe Try.underlying100 TryI.inf82) (.v rfl (V_load rfl (.r 0) rfl Try.isAgg82) (.v rfl (V_fe Try.underlying64 TryI.inf57) (.v rfl (V_lag (.o 11) Try.isAgg57 TryI.inf57) (.v rfl (V_move rfl) (.v rfl (V_nilCheck rfl) (.v rfl (V_fe Try.underlying100 TryI.inf82) (.v rfl (V_load rfl (.r 0) rfl Try.isAgg82) (.v rfl (V_fe Try.underlying64 TryI.inf57) (.v rfl (V_lag (.o 9) Try.isAgg57 TryI.inf57) (.v rfl (V_lag (.o 2) Try.isAgg57 TryI.inf57) (.e rfl (E_cu (F58_calls bF oF cM cI cO cT q_z r_4 r_7 hr_7) Try.call58 ⟨.r 2, .r 3, .r 4, .r 5,trivial⟩) (.e rfl (E_cu (F58_calls bF oF cM cI cO cT p_y r_7 r_8 hr_8) Try.call58 ⟨.r 2, .r 3, .r 4, .r 5,trivial⟩) (.v rfl (V_move rfl) (.v rfl (V_nilCheck rfl) (.v rfl (V_fe Try.underlying100 TryI.inf82) (.v rfl (V_load rfl (.r 0) rfl Try.isAgg82) (.v rfl (V_fe Try.underlying64 TryI.inf57) (.v rfl (V_lag (.o 8) Try.isAgg57 TryI.inf57) (.v rfl (V_move rfl) (.v rfl (V_nilCheck rfl) (.v rfl (V_fe Try.underlying100 TryI.inf82) (.v rfl (V_load rfl (.r 0) rfl Try.isAgg82) (.v rfl (V_fe Try.underlying64 TryI.inf57) (.v rfl (V_lag (.o 12) Try.isAgg57 TryI.inf57) (.v rfl (V_lag (.o 3) Try.isAgg57 TryI.inf57) (.e rfl (E_cu (F58_calls bF oF cM cI cO cT p_z r_3 r_9 hr_9) Try.call58 ⟨.r 2, .r 3, .r 4, .r 5,trivial⟩) (.e rfl (E_cu (F58_calls bF oF cM cI cO cT q_y r_9 r_10 hr_10) Try.call58 ⟨.r 2, .r 3, .r 4, .r 5,trivial⟩) (.c rfl (fun _ _=>(E_al64 4 TryI.inf57 TryI.zer57)) (.c rfl (fun _ _=>(E_al64 4 TryI.inf57 TryI.zer57)) .nil)))))))))))))))))))))))))))))))) .nil (by kernel_rfl) rfl (fun γ=>?_)
   refine TA_cut [(12,ptr (some ((γ 31),0)) 0),(11,ptr (some ((γ 30),0)) 0),(93,aG [(4,e64 r_10.toList)]),(78,aG [(4,e64 r_8.toList)]),(10,ptr (some (b7,0)) 0),(9,ptr (some (b6,0)) 0),(6,ptr (some (b3,0)) 0),(5,ptr (some (b2,0)) 0),(4,ptr (some (b1,0)) 0),(0,ptr (some (bc,obc)) 0)] [⟨some ((γ 31),0),e64 ((replicate 4 0#64).toList)⟩,⟨some ((γ 30),0),e64 ((replicate 4 0#64).toList)⟩,⟨some (b7,0),e64 r_6.toList⟩,⟨some (b6,0),e64 r_5.toList⟩,⟨some (b5,0),e64 r_4.toList⟩,⟨some (b4,0),e64 r_3.toList⟩,⟨some (b3,0),e64 ((replicate 4 0#64).toList)⟩,⟨some (b3,4),e64 ((replicate 4 0#64).toList)⟩,⟨some (b3,8),e64 ((replicate 4 0#64).toList)⟩,⟨some (b2,0),e64 q_x.toList⟩,⟨some (b2,4),e64 q_y.toList⟩,⟨some (b2,8),e64 q_z.toList⟩,⟨some (b1,0),e64 p_x.toList⟩,⟨some (b1,4),e64 p_y.toList⟩,⟨some (b1,8),e64 p_z.toList⟩] ⟨rfl,rfl,rfl,rfl,rfl,rfl,rfl,rfl,rfl,rfl,trivial⟩ rfl ?_
   generalize γ 30=b8
   generalize γ 31=b9
   refine TA_all (rs:=[32]) (by kernel_rfl) rfl ?_
   refine ⟨?_,trivial⟩
   refine TO_n (is:=[]) (done':=dn 34 8589934591) rfl rfl rfl (by kernel_rfl) (E_sv (vs:=e64 r_8.toList) 1 TryI.inf57) (fun _ _=>rfl) (fun _=>?_)
   refine TA_all (rs:=[33]) (by kernel_rfl) rfl ?_
   refine ⟨?_,trivial⟩
   refine TO_n (is:=[]) (done':=dn 34 17179869183) rfl rfl rfl (by kernel_rfl) (E_sv (vs:=e64 r_10.toList) 0 TryI.inf57) (fun _ _=>rfl) (fun _=>?_)
   refine TA_done (by kernel_rfl) ?_ 0
   refine TX_next (TC_seq ?_)
   obtain ⟨r_11,hr_11,H⟩:=bind_elim H
   obtain ⟨r_12,hr_12,H⟩:=bind_elim H
   refine TA_begin [] 18 (by kernel_rfl) (N:=18) rfl ?_
   refine TA_mix (is:=[]) (done':=dn 18 65535) [itV 0 94 (ptr (some (bc,obc)) 0) [],itV 1 95 (ptr (some (bc,obc)) 0) [0],itV 2 96 (ptr (some (bc,obc)) 0) [1],itV 3 97 (ptr (some (bF,oF)) 0) [2],itV 4 98 (aG [(4,e64 r_6.toList)]) [],itV 5 99 (aG [(4,e64 r_5.toList)]) [],itV 6 100 (aG [(4,e64 r_11.toList)]) [3,4,5],itV 7 101 (ptr (some (bc,obc)) 0) [],itV 8 102 (ptr (some (bc,obc)) 0) [7],itV 9 103 (ptr (some (bc,obc)) 0) [8],itV 10 104 (ptr (some (bF,oF)) 0) [9],itV 11 105 (aG [(4,e64 r_10.toList)]) [],itV 12 106 (aG [(4,e64 r_8.toList)]) [],itV 13 107 (aG [(4,e64 r_12.toList)]) [10,11,12],itA64 14 13 4,itA64 15 14 4] [] 2 (by kernel_rfl) (QP.then QP.body) (by kernel_rfl) rfl (.v rfl (V_move rfl) (.v rfl (V_nilCheck rfl) (.v rfl (V_fe Try.underlying100 TryI.inf82) (.v rfl (V_load rfl (.r 0) rfl Try.isAgg82) (.v rfl (V_lag (.o 2) Try.isAgg57 TryI.inf57) (.v rfl (V_lag (.o 3) Try.isAgg57 TryI.inf57) (.e rfl (E_cu (F77_calls bF oF cM cI cO cT r_6 r_5 r_11 hr_11) Try.call77 ⟨.r 2, .r 3, .r 4, .r 5,trivial⟩) (.v rfl (V_move rfl) (.v rfl (V_nilCheck rfl) (.v rfl (V_fe Try.underlying100 TryI.inf82) (.v rfl (V_load rfl (.r 0) rfl Try.isAgg82) (.v rfl (V_lag (.o 0) Try.isAgg57 TryI.inf57) (.v rfl (V_lag (.o 1) Try.isAgg57 TryI.inf57) (.e rfl (E_cu (F77_calls bF oF cM cI cO cT r_10 r_8 r_12 hr_12) Try.call77 ⟨.r 2, .r 3, .r 4, .r 5,trivial⟩) (.c rfl (fun _ _=>(E_al64 4 TryI.inf57 TryI.zer57)) (.c rfl (fun _ _=>(E_al64 4 TryI.inf57 TryI.zer57)) .nil)))))))))))))))) .nil (by kernel_rfl) rfl (fun γ=>?_)
   refine TA_cut [(14,ptr (some ((γ 15),0)) 0),(13,ptr (some ((γ 14),0)) 0),(107,aG [(4,e64 r_12.toList)]),(100,aG [(4,e64 r_11.toList)]),(11,ptr (some (b8,0)) 0),(9,ptr (some (b6,0)) 0),(6,ptr (some (b3,0)) 0),(5,ptr (some (b2,0)) 0),(4,ptr (some (b1,0)) 0),(0,ptr (some (bc,obc)) 0)] [⟨some ((γ 15),0),e64 ((replicate 4 0#64).toList)⟩,⟨some ((γ 14),0),e64 ((replicate 4 0#64).toList)⟩,⟨some (b9,0),e64 r_10.toList⟩,⟨some (b8,0),e64 r_8.toList⟩,⟨some (b7,0),e64 r_6.toList⟩,⟨some (b6,0),e64 r_5.toList⟩,⟨some (b5,0),e64 r_4.toList⟩,⟨some (b4,0),e64 r_3.toList⟩,⟨some (b3,0),e64 ((replicate 4 0#64).toList)⟩,⟨some (b3,4),e64 ((replicate 4 0#64).toList)⟩,⟨some (b3,8),e64 ((replicate 4 0#64).toList)⟩,⟨some (b2,0),e64 q_x.toList⟩,⟨some (b2,4),e64 q_y.toList⟩,⟨some (b2,8),e64 q_z.toList⟩,⟨some (b1,0),e64 p_x.toList⟩,⟨some (b1,4),e64 p_y.toList⟩,⟨some (b1,8),e64 p_z.toList⟩] ⟨rfl,rfl,rfl,rfl,rfl,rfl,rfl,rfl,rfl,rfl,trivial⟩ rfl ?_
   generalize γ 14=b10
   generalize γ 15=b11
   refine TA_all (rs:=[16]) (by kernel_rfl) rfl ?_
   refine ⟨?_,trivial⟩
   refine TO_n (is:=[]) (done':=dn 18 131071) rfl rfl rfl (by kernel_rfl) (E_sv (vs:=e64 r_11.toList) 1 TryI.inf57) (fun _ _=>rfl) (fun _=>?_)
   refine TA_all (rs:=[17]) (by kernel_rfl) rfl ?_
   refine ⟨?_,trivial⟩
   refine TO_n (is:=[]) (done':=dn 18 262143) rfl rfl rfl (by kernel_rfl) (E_sv (vs:=e64 r_12.toList) 0 TryI.inf57) (fun _ _=>rfl) (fun _=>?_)
   refine TA_done (by kernel_rfl) ?_ 0
   refine TX_next (TC_seq (TC_seq (TC_region (TLv (V_lag (.o 1) Try.isAgg57 TryI.inf57) ?_))))
   obtain ⟨r_13,hr_13,H⟩:=bind_elim H
   refine TLe (E_c0 (F43_calls r_11 r_13 hr_13) Try.call43 .z) (fun g_13=>?_)
   refine TL_nil (TX_next (TC_cond (b:=r_13) rfl (fun hc=>?_) (fun hc=>?_)))
   ·replace H:=ite_t hc H
    refine TC_seq (TC_seq (TC_region (TLv (V_lag (.o 0) Try.isAgg57 TryI.inf57) ?_)))
    obtain ⟨r_14,hr_14,H⟩:=bind_elim H
    refine TLe (E_c0 (F43_calls r_12 r_14 hr_14) Try.call43 .z) (fun g_14=>?_)
    refine TL_nil (TX_next (TC_cond (b:=r_14) rfl (fun hc=>?_) (fun hc=>?_)))
    ·replace H:=ite_t hc H
     refine TC_seq (TC_region (TLv (V_move rfl) ?_))
     refine TLv (V_loadAgg (n:=12) (cs:=flat [(4,e64 p_x.toList),(4,e64 p_y.toList),(4,e64 p_z.toList)]) rfl (by simp) (SrcEnts (b:=b1) [(4,e64 p_x.toList),(4,e64 p_y.toList),(4,e64 p_z.toList)] 0 ⟨(lenV (f:=v64) p_x),(lenV (f:=v64) p_y),(lenV (f:=v64) p_z),trivial⟩ (AllSrc.all (M:=ents b1 0 [(4,e64 p_x.toList),(4,e64 p_y.toList),(4,e64 p_z.toList)]) ⟨Src.own (j:=14) rfl,Src.own (j:=15) rfl,Src.own (j:=16) rfl,trivial⟩)) Try.isAgg64 TryI.inf64 rfl (flat_len ⟨(lenV (f:=v64) p_x),(lenV (f:=v64) p_y),(lenV (f:=v64) p_z),trivial⟩ rfl)) ?_
     obtain ⟨r_15,hr_15,H⟩:=bind_elim H
     refine TLe (E_c0 (F74_calls bc obc bF oF cM cI cO cT c_b p_x p_y p_z r_15 hr_15) Try.call74 ⟨.r 0, .r 1, .r 2, .r 3, .r 4, .r 5,trivial⟩) (fun g_15=>?_)
     refine TLn (E_sp (b:=b3) (o:=0) [8,8,8] [(4,e64 ((replicate 4 0#64).toList)),(4,e64 ((replicate 4 0#64).toList)),(4,e64 ((replicate 4 0#64).toList))] [(4,e64 r_15.1.toList),(4,e64 r_15.2.1.toList),(4,e64 r_15.2.2.toList)] rfl TryI.inf64 ⟨(lenV (f:=v64) (replicate 4 0#64)),(lenV (f:=v64) (replicate 4 0#64)),(lenV (f:=v64) (replicate 4 0#64)),trivial⟩ ⟨(lenV (f:=v64) r_15.1),(lenV (f:=v64) r_15.2.1),(lenV (f:=v64) r_15.2.2),trivial⟩ ⟨(OneC.map (fun _=>rfl) _),(OneC.map (fun _=>rfl) _),(OneC.map (fun _=>rfl) _),trivial⟩) (fun _=>?_)
     refine TL_nil (TX_next (TC.sub (m':=[(6,ptr (some (b3,0)) 0)]) ⟨rfl,trivial⟩ ?_))
     refine TC.pull (is:=[0,0,0]) (L':=[⟨some (b3,0),e64 r_15.1.toList⟩,⟨some (b3,4),e64 r_15.2.1.toList⟩,⟨some (b3,8),e64 r_15.2.2.toList⟩]) rfl ?_
     refine TC_ret (TX_then_ret (TX_then_ret ?_))
     have hrv:=Option.some.inj H
     subst hrv
     exact TX_ret (rs:=[.cell 6 64]) (vs:=[aG [(4,e64 r_15.1.toList),(4,e64 r_15.2.1.toList),(4,e64 r_15.2.2.toList)]]) rfl ⟨(Res_agg (n:=12) (cs:=flat [(4,e64 r_15.1.toList),(4,e64 r_15.2.1.toList),(4,e64 r_15.2.2.toList)]) rfl (by simp) (SrcEnts (b:=b3) [(4,e64 r_15.1.toList),(4,e64 r_15.2.1.toList),(4,e64 r_15.2.2.toList)] 0 ⟨(lenV (f:=v64) r_15.1),(lenV (f:=v64) r_15.2.1),(lenV (f:=v64) r_15.2.2),trivial⟩ (AllSrc.all (M:=ents b3 0 [(4,e64 r_15.1.toList),(4,e64 r_15.2.1.toList),(4,e64 r_15.2.2.toList)]) ⟨Src.own (j:=0) rfl,Src.own (j:=1) rfl,Src.own (j:=2) rfl,trivial⟩)) Try.isAgg64 TryI.inf64 rfl (by simp [flat])),trivial⟩ (fun w' hs'=>⟨(),rfl,Step.left (Step.pulled (is:=[]) (A:=[]) hs' rfl)⟩)
    ·replace H:=ite_f (Bool.eq_false_iff.1 hc) H
     refine TC_skip (TX_next (TC_seq (TC_region (TLv (V_buildStruct (pv:=[]) (pl:=[(0,4),(4,4),(8,4)]) rfl rfl Try.underlying64 TryI.inf64 TryI.places64 TryI.zer64 (cs:=flat [(4,e64 ((replicate 4 0#64).toList)),(4,e64 ((replicate 4 0#64).toList)),(4,e64 ((replicate 4 0#64).toList))]) fill_end) ?_))))
     refine TLn (E_sp (b:=b3) (o:=0) [8,8,8] [(4,e64 ((replicate 4 0#64).toList)),(4,e64 ((replicate 4 0#64).toList)),(4,e64 ((replicate 4 0#64).toList))] [(4,e64 ((replicate 4 0#64).toList)),(4,e64 ((replicate 4 0#64).toList)),(4,e64 ((replicate 4 0#64).toList))] rfl TryI.inf64 ⟨(lenV (f:=v64) (replicate 4 0#64)),(lenV (f:=v64) (replicate 4 0#64)),(lenV (f:=v64) (replicate 4 0#64)),trivial⟩ ⟨(lenV (f:=v64) (replicate 4 0#64)),(lenV (f:=v64) (replicate 4 0#64)),(lenV (f:=v64) (replicate 4 0#64)),trivial⟩ ⟨(OneC.map (fun _=>rfl) _),(OneC.map (fun _=>rfl) _),(OneC.map (fun _=>rfl) _),trivial⟩) (fun _=>?_)
     refine TL_nil (TX_next (TC_ret (TX_then_ret ?_)))
     have hrv:=Option.some.inj H
     subst hrv
     exact TX_ret (rs:=[.cell 6 64]) (vs:=[aG [(4,e64 ((replicate 4 0#64).toList)),(4,e64 ((replicate 4 0#64).toList)),(4,e64 ((replicate 4 0#64).toList))]]) rfl ⟨(Res_agg (n:=12) (cs:=flat [(4,e64 ((replicate 4 0#64).toList)),(4,e64 ((replicate 4 0#64).toList)),(4,e64 ((replicate 4 0#64).toList))]) rfl (by simp) (SrcEnts (b:=b3) [(4,e64 ((replicate 4 0#64).toList)),(4,e64 ((replicate 4 0#64).toList)),(4,e64 ((replicate 4 0#64).toList))] 0 ⟨(lenV (f:=v64) (replicate 4 0#64)),(lenV (f:=v64) (replicate 4 0#64)),(lenV (f:=v64) (replicate 4 0#64)),trivial⟩ (AllSrc.all (M:=ents b3 0 [(4,e64 ((replicate 4 0#64).toList)),(4,e64 ((replicate 4 0#64).toList)),(4,e64 ((replicate 4 0#64).toList))]) ⟨Src.own (j:=0) rfl,Src.own (j:=1) rfl,Src.own (j:=2) rfl,trivial⟩)) Try.isAgg64 TryI.inf64 rfl (by simp [flat])),trivial⟩ (fun w' hs'=>⟨(),rfl,Step.left (Step.pulled (is:=[]) (A:=[]) hs' rfl)⟩)
   ·replace H:=ite_f (Bool.eq_false_iff.1 hc) H
    refine TC_skip (TX_next (TC_seq ?_))
    obtain ⟨r_16,hr_16,H⟩:=bind_elim H
    refine TA_begin [] 9 (by kernel_rfl) (N:=9) rfl ?_
    refine TA_mix (is:=[]) (done':=dn 9 255) [itV 0 116 (ptr (some (bc,obc)) 0) [],itV 1 117 (ptr (some (bc,obc)) 0) [0],itV 2 118 (ptr (some (bc,obc)) 0) [1],itV 3 119 (ptr (some (bF,oF)) 0) [2],itV 4 120 (aG [(4,e64 r_11.toList)]) [],itV 5 121 (aG [(4,e64 r_11.toList)]) [],itV 6 122 (aG [(4,e64 r_16.toList)]) [4,5,3],itA64 7 15 4] [] 1 (by kernel_rfl) (QP.then QP.body) (by kernel_rfl) rfl (.v rfl (V_move rfl) (.v rfl (V_nilCheck rfl) (.v rfl (V_fe Try.underlying100 TryI.inf82) (.v rfl (V_load rfl (.r 0) rfl Try.isAgg82) (.v rfl (V_lag (.o 1) Try.isAgg57 TryI.inf57) (.v rfl (V_lag (.o 1) Try.isAgg57 TryI.inf57) (.e rfl (E_cu (F58_calls bF oF cM cI cO cT r_11 r_11 r_16 hr_16) Try.call58 ⟨.r 2, .r 3, .r 4, .r 5,trivial⟩) (.c rfl (fun _ _=>(E_al64 4 TryI.inf57 TryI.zer57)) .nil)))))))) .nil (by kernel_rfl) rfl (fun γ=>?_)
    refine TA_cut [(15,ptr (some ((γ 7),0)) 0),(122,aG [(4,e64 r_16.toList)]),(14,ptr (some (b11,0)) 0),(13,ptr (some (b10,0)) 0),(11,ptr (some (b8,0)) 0),(9,ptr (some (b6,0)) 0),(6,ptr (some (b3,0)) 0),(5,ptr (some (b2,0)) 0),(4,ptr (some (b1,0)) 0),(0,ptr (some (bc,obc)) 0)] [⟨some ((γ 7),0),e64 ((replicate 4 0#64).toList)⟩,⟨some (b11,0),e64 r_12.toList⟩,⟨some (b10,0),e64 r_11.toList⟩,⟨some (b9,0),e64 r_10.toList⟩,⟨some (b8,0),e64 r_8.toList⟩,⟨some (b7,0),e64 r_6.toList⟩,⟨some (b6,0),e64 r_5.toList⟩,⟨some (b5,0),e64 r_4.toList⟩,⟨some (b4,0),e64 r_3.toList⟩,⟨some (b3,0),e64 ((replicate 4 0#64).toList)⟩,⟨some (b3,4),e64 ((replicate 4 0#64).toList)⟩,⟨some (b3,8),e64 ((replicate 4 0#64).toList)⟩,⟨some (b2,0),e64 q_x.toList⟩,⟨some (b2,4),e64 q_y.toList⟩,⟨some (b2,8),e64 q_z.toList⟩,⟨some (b1,0),e64 p_x.toList⟩,⟨some (b1,4),e64 p_y.toList⟩,⟨some (b1,8),e64 p_z.toList⟩] ⟨rfl,rfl,rfl,rfl,rfl,rfl,rfl,rfl,rfl,rfl,trivial⟩ rfl ?_
    generalize γ 7=b12
    refine TA_all (rs:=[8]) (by kernel_rfl) rfl ?_
    refine ⟨?_,trivial⟩
    refine TO_n (is:=[]) (done':=dn 9 511) rfl rfl rfl (by kernel_rfl) (E_sv (vs:=e64 r_16.toList) 0 TryI.inf57) (fun _ _=>rfl) (fun _=>?_)
    refine TA_done (by kernel_rfl) ?_ 0
    refine TX_next (TC_seq ?_)
    obtain ⟨r_17,hr_17,H⟩:=bind_elim H
    obtain ⟨r_18,hr_18,H⟩:=bind_elim H
    refine TA_begin [] 18 (by kernel_rfl) (N:=18) rfl ?_
    refine TA_mix (is:=[]) (done':=dn 18 65535) [itV 0 123 (ptr (some (bc,obc)) 0) [],itV 1 124 (ptr (some (bc,obc)) 0) [0],itV 2 125 (ptr (some (bc,obc)) 0) [1],itV 3 126 (ptr (some (bF,oF)) 0) [2],itV 4 127 (aG [(4,e64 r_11.toList)]) [],itV 5 128 (aG [(4,e64 r_16.toList)]) [],itV 6 129 (aG [(4,e64 r_17.toList)]) [5,3,4],itV 7 130 (ptr (some (bc,obc)) 0) [],itV 8 131 (ptr (some (bc,obc)) 0) [7],itV 9 132 (ptr (some (bc,obc)) 0) [8],itV 10 133 (ptr (some (bF,oF)) 0) [9],itV 11 134 (aG [(4,e64 r_5.toList)]) [],itV 12 135 (aG [(4,e64 r_16.toList)]) [],itV 13 136 (aG [(4,e64 r_18.toList)]) [10,11,12],itA64 14 16 4,itA64 15 17 4] [] 2 (by kernel_rfl) (QP.then QP.body) (by kernel_rfl) rfl (.v rfl (V_move rfl) (.v rfl (V_nilCheck rfl) (.v rfl (V_fe Try.underlying100 TryI.inf82) (.v rfl (V_load rfl (.r 0) rfl Try.isAgg82) (.v rfl (V_lag (.o 2) Try.isAgg57 TryI.inf57) (.v rfl (V_lag (.o 0) Try.isAgg57 TryI.inf57) (.e rfl (E_cu (F58_calls bF oF cM cI cO cT r_11 r_16 r_17 hr_17) Try.call58 ⟨.r 2, .r 3, .r 4, .r 5,trivial⟩) (.v rfl (V_move rfl) (.v rfl (V_nilCheck rfl) (.v rfl (V_fe Try.underlying100 TryI.inf82) (.v rfl (V_load rfl (.r 0) rfl Try.isAgg82) (.v rfl (V_lag (.o 6) Try.isAgg57 TryI.inf57) (.v rfl (V_lag (.o 0) Try.isAgg57 TryI.inf57) (.e rfl (E_cu (F58_calls bF oF cM cI cO cT r_5 r_16 r_18 hr_18) Try.call58 ⟨.r 2, .r 3, .r 4, .r 5,trivial⟩) (.c rfl (fun _ _=>(E_al64 4 TryI.inf57 TryI.zer57)) (.c rfl (fun _ _=>(E_al64 4 TryI.inf57 TryI.zer57)) .nil)))))))))))))))) .nil (by kernel_rfl) rfl (fun γ=>?_)
    refine TA_cut [(17,ptr (some ((γ 15),0)) 0),(16,ptr (some ((γ 14),0)) 0),(136,aG [(4,e64 r_18.toList)]),(129,aG [(4,e64 r_17.toList)]),(14,ptr (some (b11,0)) 0),(13,ptr (some (b10,0)) 0),(11,ptr (some (b8,0)) 0),(6,ptr (some (b3,0)) 0),(5,ptr (some (b2,0)) 0),(4,ptr (some (b1,0)) 0),(0,ptr (some (bc,obc)) 0)] [⟨some ((γ 15),0),e64 ((replicate 4 0#64).toList)⟩,⟨some ((γ 14),0),e64 ((replicate 4 0#64).toList)⟩,⟨some (b12,0),e64 r_16.toList⟩,⟨some (b11,0),e64 r_12.toList⟩,⟨some (b10,0),e64 r_11.toList⟩,⟨some (b9,0),e64 r_10.toList⟩,⟨some (b8,0),e64 r_8.toList⟩,⟨some (b7,0),e64 r_6.toList⟩,⟨some (b6,0),e64 r_5.toList⟩,⟨some (b5,0),e64 r_4.toList⟩,⟨some (b4,0),e64 r_3.toList⟩,⟨some (b3,0),e64 ((replicate 4 0#64).toList)⟩,⟨some (b3,4),e64 ((replicate 4 0#64).toList)⟩,⟨some (b3,8),e64 ((replicate 4 0#64).toList)⟩,⟨some (b2,0),e64 q_x.toList⟩,⟨some (b2,4),e64 q_y.toList⟩,⟨some (b2,8),e64 q_z.toList⟩,⟨some (b1,0),e64 p_x.toList⟩,⟨some (b1,4),e64 p_y.toList⟩,⟨some (b1,8),e64 p_z.toList⟩] ⟨rfl,rfl,rfl,rfl,rfl,rfl,rfl,rfl,rfl,rfl,rfl,trivial⟩ rfl ?_
    generalize γ 14=b13
    generalize γ 15=b14
    refine TA_all (rs:=[16]) (by kernel_rfl) rfl ?_
    refine ⟨?_,trivial⟩
    refine TO_n (is:=[]) (done':=dn 18 131071) rfl rfl rfl (by kernel_rfl) (E_sv (vs:=e64 r_17.toList) 1 TryI.inf57) (fun _ _=>rfl) (fun _=>?_)
    refine TA_all (rs:=[17]) (by kernel_rfl) rfl ?_
    refine ⟨?_,trivial⟩
    refine TO_n (is:=[]) (done':=dn 18 262143) rfl rfl rfl (by kernel_rfl) (E_sv (vs:=e64 r_18.toList) 0 TryI.inf57) (fun _ _=>rfl) (fun _=>?_)
    refine TA_done (by kernel_rfl) ?_ 0
    refine TX_next (TC_seq ?_)
    obtain ⟨r_19,hr_19,H⟩:=bind_elim H
    obtain ⟨r_20,hr_20,H⟩:=bind_elim H
    obtain ⟨r_21,hr_21,H⟩:=bind_elim H
    obtain ⟨r_22,hr_22,H⟩:=bind_elim H
    refine TA_begin [] 27 (by kernel_rfl) (N:=27) rfl ?_
    refine TA_mix (is:=[]) (done':=dn 27 67108863) [itV 0 137 (ptr (some (bc,obc)) 0) [],itV 1 138 (ptr (some (bc,obc)) 0) [0],itV 2 139 (ptr (some (bc,obc)) 0) [1],itV 3 140 (ptr (some (bF,oF)) 0) [2],itV 4 141 (ptr (some (bc,obc)) 0) [],itV 5 142 (ptr (some (bc,obc)) 0) [4],itV 6 143 (ptr (some (bc,obc)) 0) [5],itV 7 144 (ptr (some (bF,oF)) 0) [6],itV 8 145 (ptr (some (bc,obc)) 0) [],itV 9 146 (ptr (some (bc,obc)) 0) [8],itV 10 147 (ptr (some (bc,obc)) 0) [9],itV 11 148 (ptr (some (bF,oF)) 0) [10],itV 12 149 (aG [(4,e64 r_12.toList)]) [],itV 13 150 (aG [(4,e64 r_12.toList)]) [],itV 14 151 (aG [(4,e64 r_19.toList)]) [11,12,13],itV 15 152 (aG [(4,e64 r_17.toList)]) [],itV 16 153 (aG [(4,e64 r_20.toList)]) [7,15,14],itV 17 154 (ptr (some (bc,obc)) 0) [],itV 18 155 (ptr (some (bc,obc)) 0) [17],itV 19 156 (ptr (some (bc,obc)) 0) [18],itV 20 157 (ptr (some (bF,oF)) 0) [19],itV 21 158 (aG [(4,e64 r_18.toList)]) [],itV 22 159 (aG [(4,e64 r_18.toList)]) [],itV 23 160 (aG [(4,e64 r_21.toList)]) [20,21,22],itV 24 161 (aG [(4,e64 r_22.toList)]) [23,16,3],itA64 25 18 4] [] 1 (by kernel_rfl) (QP.then QP.body) (by kernel_rfl) rfl (.v rfl (V_move rfl) (.v rfl (V_nilCheck rfl) (.v rfl (V_fe Try.underlying100 TryI.inf82) (.v rfl (V_load rfl (.r 0) rfl Try.isAgg82) (.v rfl (V_move rfl) (.v rfl (V_nilCheck rfl) (.v rfl (V_fe Try.underlying100 TryI.inf82) (.v rfl (V_load rfl (.r 0) rfl Try.isAgg82) (.v rfl (V_move rfl) (.v rfl (V_nilCheck rfl) (.v rfl (V_fe Try.underlying100 TryI.inf82) (.v rfl (V_load rfl (.r 0) rfl Try.isAgg82) (.v rfl (V_lag (.o 3) Try.isAgg57 TryI.inf57) (.v rfl (V_lag (.o 3) Try.isAgg57 TryI.inf57) (.e rfl (E_cu (F58_calls bF oF cM cI cO cT r_12 r_12 r_19 hr_19) Try.call58 ⟨.r 2, .r 3, .r 4, .r 5,trivial⟩) (.v rfl (V_lag (.o 1) Try.isAgg57 TryI.inf57) (.e rfl (E_cu (F77_calls bF oF cM cI cO cT r_19 r_17 r_20 hr_20) Try.call77 ⟨.r 2, .r 3, .r 4, .r 5,trivial⟩) (.v rfl (V_move rfl) (.v rfl (V_nilCheck rfl) (.v rfl (V_fe Try.underlying100 TryI.inf82) (.v rfl (V_load rfl (.r 0) rfl Try.isAgg82) (.v rfl (V_lag (.o 0) Try.isAgg57 TryI.inf57) (.v rfl (V_lag (.o 0) Try.isAgg57 TryI.inf57) (.e rfl (E_cu (F59_calls bF oF cM cI cO cT r_18 r_18 r_21 hr_21) Try.call59 ⟨.r 2, .r 3, .r 4, .r 5,trivial⟩) (.e rfl (E_cu (F77_calls bF oF cM cI cO cT r_20 r_21 r_22 hr_22) Try.call77 ⟨.r 2, .r 3, .r 4, .r 5,trivial⟩) (.c rfl (fun _ _=>(E_al64 4 TryI.inf57 TryI.zer57)) .nil)))))))))))))))))))))))))) .nil (by kernel_rfl) rfl (fun γ=>?_)
    refine TA_cut [(18,ptr (some ((γ 25),0)) 0),(161,aG [(4,e64 r_22.toList)]),(17,ptr (some (b14,0)) 0),(16,ptr (some (b13,0)) 0),(14,ptr (some (b11,0)) 0),(13,ptr (some (b10,0)) 0),(11,ptr (some (b8,0)) 0),(6,ptr (some (b3,0)) 0),(5,ptr (some (b2,0)) 0),(4,ptr (some (b1,0)) 0),(0,ptr (some (bc,obc)) 0)] [⟨some ((γ 25),0),e64 ((replicate 4 0#64).toList)⟩,⟨some (b14,0),e64 r_18.toList⟩,⟨some (b13,0),e64 r_17.toList⟩,⟨some (b12,0),e64 r_16.toList⟩,⟨some (b11,0),e64 r_12.toList⟩,⟨some (b10,0),e64 r_11.toList⟩,⟨some (b9,0),e64 r_10.toList⟩,⟨some (b8,0),e64 r_8.toList⟩,⟨some (b7,0),e64 r_6.toList⟩,⟨some (b6,0),e64 r_5.toList⟩,⟨some (b5,0),e64 r_4.toList⟩,⟨some (b4,0),e64 r_3.toList⟩,⟨some (b3,0),e64 ((replicate 4 0#64).toList)⟩,⟨some (b3,4),e64 ((replicate 4 0#64).toList)⟩,⟨some (b3,8),e64 ((replicate 4 0#64).toList)⟩,⟨some (b2,0),e64 q_x.toList⟩,⟨some (b2,4),e64 q_y.toList⟩,⟨some (b2,8),e64 q_z.toList⟩,⟨some (b1,0),e64 p_x.toList⟩,⟨some (b1,4),e64 p_y.toList⟩,⟨some (b1,8),e64 p_z.toList⟩] ⟨rfl,rfl,rfl,rfl,rfl,rfl,rfl,rfl,rfl,rfl,rfl,trivial⟩ rfl ?_
    generalize γ 25=b15
    refine TA_all (rs:=[26]) (by kernel_rfl) rfl ?_
    refine ⟨?_,trivial⟩
    refine TO_n (is:=[]) (done':=dn 27 134217727) rfl rfl rfl (by kernel_rfl) (E_sv (vs:=e64 r_22.toList) 0 TryI.inf57) (fun _ _=>rfl) (fun _=>?_)
    refine TA_done (by kernel_rfl) ?_ 0
    refine TX_next (TC_seq ?_)
    obtain ⟨r_23,hr_23,H⟩:=bind_elim H
    obtain ⟨r_24,hr_24,H⟩:=bind_elim H
    obtain ⟨r_25,hr_25,H⟩:=bind_elim H
    obtain ⟨r_26,hr_26,H⟩:=bind_elim H
    refine TA_begin [] 27 (by kernel_rfl) (N:=27) rfl ?_
    refine TA_mix (is:=[]) (done':=dn 27 67108863) [itV 0 162 (ptr (some (bc,obc)) 0) [],itV 1 163 (ptr (some (bc,obc)) 0) [0],itV 2 164 (ptr (some (bc,obc)) 0) [1],itV 3 165 (ptr (some (bF,oF)) 0) [2],itV 4 166 (ptr (some (bc,obc)) 0) [],itV 5 167 (ptr (some (bc,obc)) 0) [4],itV 6 168 (ptr (some (bc,obc)) 0) [5],itV 7 169 (ptr (some (bF,oF)) 0) [6],itV 8 170 (aG [(4,e64 r_12.toList)]) [],itV 9 171 (ptr (some (bc,obc)) 0) [],itV 10 172 (ptr (some (bc,obc)) 0) [9],itV 11 173 (ptr (some (bc,obc)) 0) [10],itV 12 174 (ptr (some (bF,oF)) 0) [11],itV 13 175 (aG [(4,e64 r_18.toList)]) [],itV 14 176 (aG [(4,e64 r_22.toList)]) [],itV 15 177 (aG [(4,e64 r_23.toList)]) [14,12,13],itV 16 178 (aG [(4,e64 r_24.toList)]) [7,8,15],itV 17 179 (ptr (some (bc,obc)) 0) [],itV 18 180 (ptr (some (bc,obc)) 0) [17],itV 19 181 (ptr (some (bc,obc)) 0) [18],itV 20 182 (ptr (some (bF,oF)) 0) [19],itV 21 183 (aG [(4,e64 r_8.toList)]) [],itV 22 184 (aG [(4,e64 r_17.toList)]) [],itV 23 185 (aG [(4,e64 r_25.toList)]) [22,20,21],itV 24 186 (aG [(4,e64 r_26.toList)]) [23,16,3],itA64 25 19 4] [] 1 (by kernel_rfl) (QP.then QP.body) (by kernel_rfl) rfl (.v rfl (V_move rfl) (.v rfl (V_nilCheck rfl) (.v rfl (V_fe Try.underlying100 TryI.inf82) (.v rfl (V_load rfl (.r 0) rfl Try.isAgg82) (.v rfl (V_move rfl) (.v rfl (V_nilCheck rfl) (.v rfl (V_fe Try.underlying100 TryI.inf82) (.v rfl (V_load rfl (.r 0) rfl Try.isAgg82) (.v rfl (V_lag (.o 4) Try.isAgg57 TryI.inf57) (.v rfl (V_move rfl) (.v rfl (V_nilCheck rfl) (.v rfl (V_fe Try.underlying100 TryI.inf82) (.v rfl (V_load rfl (.r 0) rfl Try.isAgg82) (.v rfl (V_lag (.o 1) Try.isAgg57 TryI.inf57) (.v rfl (V_lag (.o 0) Try.isAgg57 TryI.inf57) (.e rfl (E_cu (F77_calls bF oF cM cI cO cT r_18 r_22 r_23 hr_23) Try.call77 ⟨.r 2, .r 3, .r 4, .r 5,trivial⟩) (.e rfl (E_cu (F58_calls bF oF cM cI cO cT r_12 r_23 r_24 hr_24) Try.call58 ⟨.r 2, .r 3, .r 4, .r 5,trivial⟩) (.v rfl (V_move rfl) (.v rfl (V_nilCheck rfl) (.v rfl (V_fe Try.underlying100 TryI.inf82) (.v rfl (V_load rfl (.r 0) rfl Try.isAgg82) (.v rfl (V_lag (.o 7) Try.isAgg57 TryI.inf57) (.v rfl (V_lag (.o 2) Try.isAgg57 TryI.inf57) (.e rfl (E_cu (F58_calls bF oF cM cI cO cT r_8 r_17 r_25 hr_25) Try.call58 ⟨.r 2, .r 3, .r 4, .r 5,trivial⟩) (.e rfl (E_cu (F77_calls bF oF cM cI cO cT r_24 r_25 r_26 hr_26) Try.call77 ⟨.r 2, .r 3, .r 4, .r 5,trivial⟩) (.c rfl (fun _ _=>(E_al64 4 TryI.inf57 TryI.zer57)) .nil)))))))))))))))))))))))))) .nil (by kernel_rfl) rfl (fun γ=>?_)
    refine TA_cut [(19,ptr (some ((γ 25),0)) 0),(186,aG [(4,e64 r_26.toList)]),(18,ptr (some (b15,0)) 0),(13,ptr (some (b10,0)) 0),(6,ptr (some (b3,0)) 0),(5,ptr (some (b2,0)) 0),(4,ptr (some (b1,0)) 0),(0,ptr (some (bc,obc)) 0)] [⟨some ((γ 25),0),e64 ((replicate 4 0#64).toList)⟩,⟨some (b15,0),e64 r_22.toList⟩,⟨some (b14,0),e64 r_18.toList⟩,⟨some (b13,0),e64 r_17.toList⟩,⟨some (b12,0),e64 r_16.toList⟩,⟨some (b11,0),e64 r_12.toList⟩,⟨some (b10,0),e64 r_11.toList⟩,⟨some (b9,0),e64 r_10.toList⟩,⟨some (b8,0),e64 r_8.toList⟩,⟨some (b7,0),e64 r_6.toList⟩,⟨some (b6,0),e64 r_5.toList⟩,⟨some (b5,0),e64 r_4.toList⟩,⟨some (b4,0),e64 r_3.toList⟩,⟨some (b3,0),e64 ((replicate 4 0#64).toList)⟩,⟨some (b3,4),e64 ((replicate 4 0#64).toList)⟩,⟨some (b3,8),e64 ((replicate 4 0#64).toList)⟩,⟨some (b2,0),e64 q_x.toList⟩,⟨some (b2,4),e64 q_y.toList⟩,⟨some (b2,8),e64 q_z.toList⟩,⟨some (b1,0),e64 p_x.toList⟩,⟨some (b1,4),e64 p_y.toList⟩,⟨some (b1,8),e64 p_z.toList⟩] ⟨rfl,rfl,rfl,rfl,rfl,rfl,rfl,rfl,trivial⟩ rfl ?_
    generalize γ 25=b16
    refine TA_all (rs:=[26]) (by kernel_rfl) rfl ?_
    refine ⟨?_,trivial⟩
    refine TO_n (is:=[]) (done':=dn 27 134217727) rfl rfl rfl (by kernel_rfl) (E_sv (vs:=e64 r_26.toList) 0 TryI.inf57) (fun _ _=>rfl) (fun _=>?_)
    refine TA_done (by kernel_rfl) ?_ 0
    refine TX_next (TC_seq ?_)
    obtain ⟨r_27,hr_27,H⟩:=bind_elim H
    obtain ⟨r_28,hr_28,H⟩:=bind_elim H
    refine TA_begin [] 19 (by kernel_rfl) (N:=19) rfl ?_
    refine TA_mix (is:=[]) (done':=dn 19 262143) [itV 0 187 (aG [(4,e64 r_22.toList)]) [],itV 1 188 (aG [(4,e64 r_26.toList)]) [],itV 2 189 (ptr (some (bc,obc)) 0) [],itV 3 190 (ptr (some (bc,obc)) 0) [2],itV 4 191 (ptr (some (bc,obc)) 0) [3],itV 5 192 (ptr (some (bF,oF)) 0) [4],itV 6 193 (aG [(4,e64 r_11.toList)]) [],itV 7 194 (ptr (some (bc,obc)) 0) [],itV 8 195 (ptr (some (bc,obc)) 0) [7],itV 9 196 (ptr (some (bc,obc)) 0) [8],itV 10 197 (ptr (some (bF,oF)) 0) [9],itV 11 198 (ptr (some (b1,8)) 0) [],itV 12 199 (aG [(4,e64 p_z.toList)]) [11],itV 13 200 (ptr (some (b2,8)) 0) [],itV 14 201 (aG [(4,e64 q_z.toList)]) [13],itV 15 202 (aG [(4,e64 r_27.toList)]) [14,10,12],itV 16 203 (aG [(4,e64 r_28.toList)]) [5,6,15],itV 17 204 (aG [(4,e64 r_22.toList),(4,e64 r_26.toList),(4,e64 r_28.toList)]) [0,1,16]] [] 1 (by kernel_rfl) (QP.then QP.body) (by kernel_rfl) rfl (.v rfl (V_lag (.o 1) Try.isAgg57 TryI.inf57) (.v rfl (V_lag (.o 0) Try.isAgg57 TryI.inf57) (.v rfl (V_move rfl) (.v rfl (V_nilCheck rfl) (.v rfl (V_fe Try.underlying100 TryI.inf82) (.v rfl (V_load rfl (.r 0) rfl Try.isAgg82) (.v rfl (V_lag (.o 6) Try.isAgg57 TryI.inf57) (.v rfl (V_move rfl) (.v rfl (V_nilCheck rfl) (.v rfl (V_fe Try.underlying100 TryI.inf82) (.v rfl (V_load rfl (.r 0) rfl Try.isAgg82) (.v rfl (V_fe Try.underlying64 TryI.inf57) (.v rfl (V_lag (.o 21) Try.isAgg57 TryI.inf57) (.v rfl (V_fe Try.underlying64 TryI.inf57) (.v rfl (V_lag (.o 18) Try.isAgg57 TryI.inf57) (.e rfl (E_cu (F58_calls bF oF cM cI cO cT p_z q_z r_27 hr_27) Try.call58 ⟨.r 2, .r 3, .r 4, .r 5,trivial⟩) (.e rfl (E_cu (F58_calls bF oF cM cI cO cT r_11 r_27 r_28 hr_28) Try.call58 ⟨.r 2, .r 3, .r 4, .r 5,trivial⟩) (.v rfl (V_buildStruct (pv:=[(0,aG [(4,e64 r_22.toList)]),(1,aG [(4,e64 r_26.toList)]),(2,aG [(4,e64 r_28.toList)])]) (pl:=[(0,4),(4,4),(8,4)]) rfl rfl Try.underlying64 TryI.inf64 TryI.places64 TryI.zer64 (cs:=flat [(4,e64 r_22.toList),(4,e64 r_26.toList),(4,e64 r_28.toList)]) (fill_part [] [(4,e64 ((replicate 4 0#64).toList)),(4,e64 ((replicate 4 0#64).toList))] rfl rfl trivial rfl (lenV (f:=v64) (replicate 4 0#64)) (lenV (f:=v64) r_22) (fill_part [(4,e64 r_22.toList)] [(4,e64 ((replicate 4 0#64).toList))] rfl rfl ⟨(lenV (f:=v64) r_22),trivial⟩ rfl (lenV (f:=v64) (replicate 4 0#64)) (lenV (f:=v64) r_26) (fill_part [(4,e64 r_22.toList),(4,e64 r_26.toList)] [] rfl rfl ⟨(lenV (f:=v64) r_22),(lenV (f:=v64) r_26),trivial⟩ rfl (lenV (f:=v64) (replicate 4 0#64)) (lenV (f:=v64) r_28) fill_end)))) .nil)))))))))))))))))) .nil (by kernel_rfl) rfl (fun γ=>?_)
    refine TA_cut [(204,aG [(4,e64 r_22.toList),(4,e64 r_26.toList),(4,e64 r_28.toList)]),(6,ptr (some (b3,0)) 0)] [⟨some (b16,0),e64 r_26.toList⟩,⟨some (b15,0),e64 r_22.toList⟩,⟨some (b14,0),e64 r_18.toList⟩,⟨some (b13,0),e64 r_17.toList⟩,⟨some (b12,0),e64 r_16.toList⟩,⟨some (b11,0),e64 r_12.toList⟩,⟨some (b10,0),e64 r_11.toList⟩,⟨some (b9,0),e64 r_10.toList⟩,⟨some (b8,0),e64 r_8.toList⟩,⟨some (b7,0),e64 r_6.toList⟩,⟨some (b6,0),e64 r_5.toList⟩,⟨some (b5,0),e64 r_4.toList⟩,⟨some (b4,0),e64 r_3.toList⟩,⟨some (b3,0),e64 ((replicate 4 0#64).toList)⟩,⟨some (b3,4),e64 ((replicate 4 0#64).toList)⟩,⟨some (b3,8),e64 ((replicate 4 0#64).toList)⟩,⟨some (b2,0),e64 q_x.toList⟩,⟨some (b2,4),e64 q_y.toList⟩,⟨some (b2,8),e64 q_z.toList⟩,⟨some (b1,0),e64 p_x.toList⟩,⟨some (b1,4),e64 p_y.toList⟩,⟨some (b1,8),e64 p_z.toList⟩] ⟨rfl,rfl,trivial⟩ rfl ?_
    refine TA_all (rs:=[18]) (by kernel_rfl) rfl ?_
    refine ⟨?_,trivial⟩
    refine TO_n (is:=[]) (done':=dn 19 524287) rfl rfl rfl (by kernel_rfl) (E_sp (b:=b3) (o:=0) [13,13,13] [(4,e64 ((replicate 4 0#64).toList)),(4,e64 ((replicate 4 0#64).toList)),(4,e64 ((replicate 4 0#64).toList))] [(4,e64 r_22.toList),(4,e64 r_26.toList),(4,e64 r_28.toList)] rfl TryI.inf64 ⟨(lenV (f:=v64) (replicate 4 0#64)),(lenV (f:=v64) (replicate 4 0#64)),(lenV (f:=v64) (replicate 4 0#64)),trivial⟩ ⟨(lenV (f:=v64) r_22),(lenV (f:=v64) r_26),(lenV (f:=v64) r_28),trivial⟩ ⟨(OneC.map (fun _=>rfl) _),(OneC.map (fun _=>rfl) _),(OneC.map (fun _=>rfl) _),trivial⟩) (fun _ _=>rfl) (fun _=>?_)
    refine TA_done (by kernel_rfl) ?_ 0
    refine TX_next (TC_ret ?_)
    have hrv:=Option.some.inj H
    subst hrv
    exact TX_ret (rs:=[.cell 6 64]) (vs:=[aG [(4,e64 r_22.toList),(4,e64 r_26.toList),(4,e64 r_28.toList)]]) rfl ⟨(Res_agg (n:=12) (cs:=flat [(4,e64 r_22.toList),(4,e64 r_26.toList),(4,e64 r_28.toList)]) rfl (by simp) (SrcEnts (b:=b3) [(4,e64 r_22.toList),(4,e64 r_26.toList),(4,e64 r_28.toList)] 0 ⟨(lenV (f:=v64) r_22),(lenV (f:=v64) r_26),(lenV (f:=v64) r_28),trivial⟩ (AllSrc.all (M:=ents b3 0 [(4,e64 r_22.toList),(4,e64 r_26.toList),(4,e64 r_28.toList)]) ⟨Src.own (j:=0) rfl,Src.own (j:=1) rfl,Src.own (j:=2) rfl,trivial⟩)) Try.isAgg64 TryI.inf64 rfl (by simp [flat])),trivial⟩ (fun w' hs'=>⟨(),rfl,Step.left (Step.pulled (is:=[]) (A:=[]) hs' rfl)⟩)
end Go.Proofs
end

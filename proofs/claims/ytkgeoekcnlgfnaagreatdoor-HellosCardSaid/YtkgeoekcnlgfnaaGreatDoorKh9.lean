/-
  Part 9 of the proof of what several laws share.
-/
import Derived.Test.YtkgeoekcnlgfnaaGreatDoorKh8
set_option maxHeartbeats 4000000
set_option maxRecDepth 20000
set_option linter.unusedVariables false
set_option linter.unusedSimpArgs false
section
namespace Go.Proofs
open Go Go.Kx
abbrev E2:=BitVec 64 × BitVec 64
def xr (a b:E2):E2:=(a.1 ^^^ b.1,a.2 ^^^ b.2)
def z2:E2:=(0#64,0#64)
theorem sZ (a b:E2):xr a b=xr b a:=by simp [xr,BitVec.xor_comm]
theorem zy (a b c:E2):xr (xr a b) c=xr a (xr b c):=by simp [xr,BitVec.xor_assoc]
theorem A8 (a:E2):xr a z2=a:=by simp [xr,z2]
theorem ul (a:E2):xr z2 a=a:=by simp [xr,z2]
def half (e:E2):E2:=((e.1 >>> 1) ^^^ (16212958658533785600#64 &&& (-(e.2 &&& 1#64))),(e.2 >>> 1) ||| (e.1 <<< 63))
theorem tJ (a b:BitVec 64):Q_ a b=some (half (a,b)):=rfl
theorem Dl (x y:BitVec 64):(x >>> 1) ||| (y <<< 63)=(x >>> 1) ^^^ (y <<< 63):=by
 apply BitVec.eq_of_getLsbD_eq
 intro i hi
 simp only [BitVec.getLsbD_or,BitVec.getLsbD_xor,BitVec.getLsbD_ushiftRight,BitVec.getLsbD_shiftLeft]
 by_cases h:i<63
 ·simp [h]
 ·have:i=63:=by omega
  subst this
  simp
theorem and1 (x:BitVec 64):x &&& 1#64=if x.getLsbD 0 then 1#64 else 0#64:=by
 rw [BitVec.and_one_eq_setWidth_ofBool_getLsbD]
 cases x.getLsbD 0 <;> rfl
theorem nR (c x y:BitVec 64):c &&& (-((x ^^^ y) &&& 1#64))=(c &&& (-(x &&& 1#64))) ^^^ (c &&& (-(y &&& 1#64))):=by
 rw [and1,and1,and1,BitVec.getLsbD_xor]
 cases x.getLsbD 0 <;> cases y.getLsbD 0 <;> simp
theorem Av (a b:E2):half (xr a b)=xr (half a) (half b):=by
 unfold half xr
 refine Prod.ext ?_ ?_
 ·simp only
  rw [BitVec.ushiftRight_xor_distrib,nR]
  simp only [BitVec.xor_assoc]
  rw [← BitVec.xor_assoc (b.1 >>> 1),BitVec.xor_comm (b.1 >>> 1),BitVec.xor_assoc]
 ·simp only
  rw [Dl,Dl,Dl,BitVec.ushiftRight_xor_distrib,BitVec.shiftLeft_xor_distrib]
  simp only [BitVec.xor_assoc]
  rw [← BitVec.xor_assoc (b.2 >>> 1),BitVec.xor_comm (b.2 >>> 1),BitVec.xor_assoc]
theorem Cb:half z2=z2:=by decide
def hp:Nat → E2 → E2
 | 0,e=>e
 | n+1,e=>half (hp n e)
theorem fq (a b:E2) : ∀ n,hp n (xr a b)=xr (hp n a) (hp n b)
 | 0=>rfl
 | n+1=>by simp only [hp]; rw [fq a b n,Av]
def zZ (b:Bool) (e:E2):E2:=if b then e else z2
theorem zi (b:Bool) (e:E2):half (zZ b e)=zZ b (half e):=by cases b <;> simp [zZ,Cb]
def JO (a:E2) (i:Nat):Bool:=if i<64 then a.1.getLsbD (63 - i) else a.2.getLsbD (127 - i)
def SS (a h:E2):Nat → Nat → E2
 | m,0=>z2
 | m,n+1=>xr (zZ (JO a m) h) (half (SS a h (m+1) n))
def prod (a h:E2):E2:=SS a h 0 128
theorem rZ (a h:E2) : ∀ n m,SS a h m (n+1)=xr (SS a h m n) (zZ (JO a (m+n)) (hp n h))
 | 0,m=>by simp [SS,Cb,A8,ul,hp]
 | n+1,m=>by
  show xr (zZ (JO a m) h) (half (SS a h (m+1) (n+1)))=_
  rw [rZ a h n (m+1),Av,zi, ← zy]
  have:m+1+n=m+(n+1):=by omega
  rw [this]
  rfl
theorem kU (x:BitVec 64):(x >>> 63=1#64) ↔ x.getLsbD 63=true:=by
 have hx:=x.isLt
 have:x.getLsbD 63=decide (x.toNat / 2 ^ 63 % 2=1):=by rw [← BitVec.testBit_toNat,Nat.testBit_eq_decide_div_mod_eq]
 rw [this,decide_eq_true_iff]
 constructor
 ·intro h
  have:=congrArg BitVec.toNat h
  simp only [BitVec.toNat_ushiftRight,Nat.shiftRight_eq_div_pow,BitVec.toNat_ofNat] at this
  omega
 ·intro h
  apply BitVec.eq_of_toNat_eq
  simp only [BitVec.toNat_ushiftRight,Nat.shiftRight_eq_div_pow,BitVec.toNat_ofNat]
  omega
theorem uk (x:BitVec 64) (i:Nat) (h:i<64):(x <<< i).getLsbD 63=x.getLsbD (63 - i):=by
 rw [BitVec.getLsbD_shiftLeft]
 simp [show ¬ 63<i by omega]
theorem mX (a h:E2):Vz a.1 a.2 h.1 h.2=some (prod a h):=by
 unfold Vz
 refine Z5 (v:=prod a h) (Vw (fun i=>(a.1 <<< (min i 64),a.2 <<< (i - 64),(hp i h).1,(hp i h).2,(SS a h 0 i).1,(SS a h 0 i).2,(i:Int))) 128 _ (by omega) (by simp [hp,SS,z2]) (fun i hi=>?_) ?_) rfl
 ·have e1:ZJ ((i:Int)+1)=((i+1:Nat):Int):=Vj (b:=1) (by omega)
  unfold Vz.b0
  simp only [e1]
  clear e1
  refine ZM (by omega) (Z5 (v:=(a.1 <<< (min (i+1) 64),a.2 <<< (i+1 - 64),if i<64 then (a.1 <<< (min i 64)) >>> 63 else (a.2 <<< (i - 64)) >>> 63)) ?_ ?_)
  ·by_cases c:63<i
   ·refine ZM (by omega) (Ze fun b hb=>?_)
    have h1:i+1 - 64=(i - 64)+1:=by omega
    rw [hb,if_neg (by omega),show min i 64=64 by omega,show min (i+1) 64=64 by omega,h1,BitVec.shiftLeft_add]
   ·refine Zi (by omega) ?_
    rw [if_pos (by omega),show min i 64=i by omega,show min (i+1) 64=i+1 by omega,show i+1 - 64=0 by omega,show i - 64=0 by omega,BitVec.shiftLeft_add]
  ·have hbit:((if i<64 then (a.1 <<< (min i 64)) >>> 63 else (a.2 <<< (i - 64)) >>> 63)=1#64) ↔ JO a i=true:=by
    unfold JO
    by_cases c:i<64
    ·rw [if_pos c,if_pos c,kU,show min i 64=i by omega,uk _ _ c]
    ·rw [if_neg c,if_neg c,kU,uk _ _ (by omega),show 63 - (i - 64)=127 - i by omega]
   have hS:SS a h 0 (i+1)=xr (SS a h 0 i) (zZ (JO a i) (hp i h)):=by
    have:=rZ a h i 0
    rwa [Nat.zero_add] at this
   refine Z5 (v:=SS a h 0 (i+1)) ?_ ?_
   ·by_cases c:JO a i=true
    ·refine ZM (hbit.2 c) (Ze fun x hx=>Ze fun y hy=>?_)
     rw [hx,hy,hS,c]; rfl
    ·refine Zi (fun h=>c (hbit.1 h)) ?_
     have:JO a i=false:=by simpa using c
     rw [hS,this]
     simp [zZ,A8]
   ·refine Ze fun l hl=>Ze fun d hd=>Ze fun c hc=>?_
    have hlow:half (hp i h)=(((hp i h).1 >>> 1) ^^^ (16212958658533785600#64 &&& (-((hp i h).2 &&& 1#64))),((hp i h).2 >>> 1) ||| ((hp i h).1 <<< 63)):=rfl
    have hh:hp (i+1) h=half (hp i h):=rfl
    rw [and1] at hl hlow
    by_cases c1:(hp i h).2.getLsbD 0=true
    ·rw [if_pos c1] at hl hlow
     refine ZM hl (Ze fun c2 jZ=>Ze fun j hj=>?_)
     rw [hj,jZ,hc,hd,hh,hlow]
     rfl
    ·rw [if_neg c1] at hl hlow
     refine Zi (by rw [hl]; decide) (Ze fun j hj=>?_)
     rw [hj,hc,hd,hh,hlow]
     simp
 ·exact Zi (by show ¬ (((128:Nat):Int)<128); omega) rfl
def AB (h:E2) (i:Nat):Nat → E2
 | 0=>z2
 | k+1=>xr (AB h i k) (zZ (i.testBit (3 - k)) (hp k h))
def GL (h:E2) (k:Nat):Vector E2 16:=Vector.ofFn fun i=>AB h i.val k
def FD:Vx 64 16:=Vector.ofFn fun i=>(hp 4 (0#64,BitVec.ofNat 64 i.val)).1
theorem jc : ∀ i:Fin 16, ∀ k:Fin 4,decide (HZ (· &&& ·) (i.val:Int) ((8 / 2 ^ k.val:Nat):Int) ≠ 0)=i.val.testBit (3 - k.val):=by decide +kernel
theorem jN (h:E2) (k:Nat) (hk:k<4):loop (Xm.b1 (((8 / 2 ^ k:Nat):Int),GL h k,(hp k h).1,(hp k h).2)) BIG (0,GL h k)=some (GL h (k+1)):=by
 refine Q9 _ (fun i=>AB h i (k+1)) id (by omega) (fun i v hi hv=>?_) (fun v=>?_)
 ·have e1:ZJ ((i:Int)+1)=((i+1:Nat):Int):=Vj (b:=1) (by omega)
  have hb:=jc ⟨i,hi⟩ ⟨k,hk⟩
  dsimp only at hb
  have hvi:vg v i=AB h i k:=by rw [hv i (Nat.le_refl _) hi,GL,Tw hi]
  unfold Xm.b1
  simp only [e1,Int.toNat_natCast]
  clear e1
  refine ZM (by omega) ?_
  by_cases c:i.testBit (3 - k)=true
  ·rw [c,decide_eq_true_iff] at hb
   refine ZM hb (ZM (by omega) (ZM (by omega) (Ze fun m hm=>ZM (by omega) (ZM (by omega) (Ze fun m2 qz=>?_)))))
   have:m2=vp v i (AB h i (k+1)):=by
    rw [qz,hm,Qr hi hi,if_pos rfl,hvi]
    refine RA fun j hj=>?_
    rw [Qr hi hj,Qr hi hj,Qr hi hj]
    by_cases cj:i=j
    ·rw [if_pos cj,if_pos cj]
     simp only [AB,c,zZ,xr]; rfl
    ·rw [if_neg cj,if_neg cj,if_neg cj]
   rw [this]
  ·have cf:i.testBit (3 - k)=false:=by simpa using c
   rw [cf,decide_eq_false_iff_not] at hb
   refine Zi hb ?_
   have:v=vp v i (AB h i (k+1)):=by
    refine RA fun j hj=>?_
    rw [Qr hi hj]
    by_cases cj:i=j
    ·rw [if_pos cj, ← cj,hvi]
     simp [AB,cf,zZ,A8]
    ·rw [if_neg cj]
   rw [← this]
 ·unfold Xm.b1
  exact Zi (by omega) rfl
theorem iM (i:Nat) (hi:i<16):loop (Xm.b3) BIG (0,0#64,BitVec.ofInt 64 (i:Int))=some (hp 4 (0#64,BitVec.ofNat 64 i)):=by
 refine Vw (fun k=>((k:Int),(hp k (0#64,BitVec.ofNat 64 i)).1,(hp k (0#64,BitVec.ofNat 64 i)).2)) 4 _ (by omega) (by simp [hp,BitVec.ofInt_natCast]) (fun k hk=>?_) ?_
 ·have e1:ZJ ((k:Int)+1)=((k+1:Nat):Int):=Vj (b:=1) (by omega)
  unfold Xm.b3
  simp only [e1]
  refine ZM (by omega) (Z5 (tJ _ _) rfl)
 ·exact Zi (by show ¬ (((4:Nat):Int)<4); omega) rfl
theorem qi (h:E2):Xm h.1 h.2=some (GL h 4,FD):=by
 unfold Xm
 refine Z5 (v:=GL h 4) (Vw (fun k=>(((8 / 2 ^ k:Nat):Int),GL h k,(hp k h).1,(hp k h).2)) 4 _ (by omega) ?_ (fun k hk=>?_) ?_) (Z5 (v:=FD) ?_ rfl)
 ·refine Prod.ext rfl (Prod.ext ?_ rfl)
  refine RA fun i hi=>?_
  rw [MC hi]
  simp only [Vector.getElem_replicate]
  show _=vg (GL h 0) i
  rw [GL,Tw hi]; rfl
 ·have e1:ZJ (((8 / 2 ^ k:Nat):Int).tdiv 2)=((8 / 2 ^ (k+1):Nat):Int):=by
   have:=GA (a:=8 / 2 ^ k) (b:=2) (by have:=Nat.div_le_self 8 (2 ^ k); omega)
   rw [Nat.div_div_eq_div_mul, ← Nat.pow_succ] at this
   exact this
  have hpos:0<8 / 2 ^ k:=by
   rcases k with _ | _ | _ | _ | k <;> first | decide | omega
  unfold Xm.b0
  simp only [e1]
  refine ZM (by omega) (Z5 (jN h k hk) (Z5 (tJ _ _) (Ze fun b hb=>?_)))
  rw [hb]; rfl
 ·exact Zi (by show ¬ (0:Int)<((8 / 2 ^ 4:Nat):Int); decide) rfl
 ·refine Q9 _ (fun i=>(hp 4 (0#64,BitVec.ofNat 64 i)).1) id (by omega) (fun i v hi hv=>?_) (fun v=>?_)
  ·have e1:ZJ ((i:Int)+1)=((i+1:Nat):Int):=Vj (b:=1) (by omega)
   unfold Xm.b2
   simp only [e1,Int.toNat_natCast]
   refine ZM (by omega) (Z5 (iM i hi) (ZM (by omega) (Ze fun m hm=>?_)))
   rw [hm]
  ·unfold Xm.b2
   exact Zi (by omega) rfl
theorem abg : ∀ i:Fin 16,(hp 4 (0#64,BitVec.ofNat 64 i.val)).2=0#64:=by decide +kernel
theorem I9 (a b:BitVec 64) (h:b.getLsbD 0=false):half (a,b)=(a >>> 1,(b >>> 1) ||| (a <<< 63)):=by
 unfold half
 simp only
 rw [and1,h]
 simp
theorem lL (a b:BitVec 64) (h : ∀ i,i<4 → b.getLsbD i=false):hp 4 (a,b)=(a >>> 4,(b >>> 4) ||| (a <<< 60)):=by
 have h1:half (a,b)=(a >>> 1,(b >>> 1) ||| (a <<< 63)):=I9 a b (h 0 (by decide))
 have h2:half (a >>> 1,(b >>> 1) ||| (a <<< 63))=(a >>> 1 >>> 1,(((b >>> 1) ||| (a <<< 63)) >>> 1) ||| ((a >>> 1) <<< 63)):=I9 _ _ (by simpa [BitVec.getLsbD_ushiftRight] using h 1 (by decide))
 have h3:half (a >>> 1 >>> 1,(((b >>> 1) ||| (a <<< 63)) >>> 1) ||| ((a >>> 1) <<< 63))=(a >>> 1 >>> 1 >>> 1,(((((b >>> 1) ||| (a <<< 63)) >>> 1) ||| ((a >>> 1) <<< 63)) >>> 1) ||| ((a >>> 1 >>> 1) <<< 63)):=I9 _ _ (by simpa [BitVec.getLsbD_ushiftRight] using h 2 (by decide))
 have h4:half (a >>> 1 >>> 1 >>> 1,(((((b >>> 1) ||| (a <<< 63)) >>> 1) ||| ((a >>> 1) <<< 63)) >>> 1) ||| ((a >>> 1 >>> 1) <<< 63))=(a >>> 1 >>> 1 >>> 1 >>> 1,(((((((b >>> 1) ||| (a <<< 63)) >>> 1) ||| ((a >>> 1) <<< 63)) >>> 1) ||| ((a >>> 1 >>> 1) <<< 63)) >>> 1) ||| ((a >>> 1 >>> 1 >>> 1) <<< 63)):=I9 _ _ (by simpa [BitVec.getLsbD_ushiftRight] using h 3 (by decide))
 show half (half (half (half (a,b))))=_
 rw [h1,h2,h3,h4]
 refine Prod.ext ?_ ?_
 ·simp only [← BitVec.shiftRight_add]
 ·simp only
  apply BitVec.eq_of_getLsbD_eq
  intro i hi
  simp only [BitVec.getLsbD_or,BitVec.getLsbD_ushiftRight,BitVec.getLsbD_shiftLeft]
  rcases (by omega:i<60 ∨ i=60 ∨ i=61 ∨ i=62 ∨ i=63) with c | c | c | c | c
  ·have e:1+(1+(1+(1+i)))=4+i:=by omega
   simp [e,c,show i<63 by omega,show 1+i<63 by omega,show 1+(1+i)<63 by omega,show 1+(1+(1+i))<63 by omega]
  all_goals (subst c; simp)
theorem dE (z:E2):hp 4 z=((z.1 >>> 4) ^^^ vg FD ((z.2 &&& 15#64).toNat),(z.2 >>> 4) ||| (z.1 <<< 60)):=by
 have hv:(z.2 &&& 15#64).toNat<16:=by
  rw [BitVec.toNat_and]
  exact Nat.lt_of_le_of_lt Nat.and_le_right (by decide)
 have hz:z=xr (z.1,z.2 &&& ~~~15#64) (0#64,z.2 &&& 15#64):=by
  unfold xr
  refine Prod.ext (by simp) ?_
  simp only
  apply BitVec.eq_of_getLsbD_eq
  intro i hi
  simp only [BitVec.getLsbD_xor,BitVec.getLsbD_and,BitVec.getLsbD_not,hi,decide_true,Bool.true_and]
  cases z.2.getLsbD i <;> cases (15#64).getLsbD i <;> rfl
 have he : ∀ i,i<4 → (z.2 &&& ~~~15#64).getLsbD i=false:=by
  intro i hi
  rw [BitVec.getLsbD_and]
  have:(~~~15#64).getLsbD i=false:=by
   rcases i with _ | _ | _ | _ | i <;> first | decide | omega
  rw [this,Bool.and_false]
 have h1:=lL z.1 (z.2 &&& ~~~15#64) he
 have h2:hp 4 (0#64,z.2 &&& 15#64)=(vg FD ((z.2 &&& 15#64).toNat),0#64):=by
  have hn:z.2 &&& 15#64=BitVec.ofNat 64 ((z.2 &&& 15#64).toNat):=by simp
  have:=abg ⟨_,hv⟩
  dsimp only at this
  rw [FD,Tw hv]
  refine Prod.ext ?_ ?_
  ·simp only; rw [← hn]
  ·simp only; rw [hn]; exact this
 rw [hz,fq,h1,h2, ← hz]
 unfold xr
 refine Prod.ext rfl ?_
 simp only [BitVec.xor_zero]
 congr 1
 apply BitVec.eq_of_getLsbD_eq
 intro i hi
 simp only [BitVec.getLsbD_ushiftRight,BitVec.getLsbD_and,BitVec.getLsbD_not]
 by_cases c:4+i<64
 ·have:(15#64).getLsbD (4+i)=false:=by
   show (BitVec.ofNat 64 15).getLsbD (4+i)=false
   rw [BitVec.getLsbD_ofNat,Nat.testBit_lt_two_pow (Nat.lt_of_lt_of_le (by decide:15<2 ^ 4) (Nat.pow_le_pow_right (by decide) (by omega)))]
   simp
  simp only [c,decide_true,Bool.true_and,this,Bool.not_false,Bool.and_true]
 ·rw [BitVec.getLsbD_of_ge z.2 (4+i) (by omega)]; simp
theorem SS4 (a h:E2) (m n:Nat):SS a h m (n+4)=xr (xr (xr (xr (xr z2 (zZ (JO a m) (hp 0 h))) (zZ (JO a (m+1)) (hp 1 h))) (zZ (JO a (m+2)) (hp 2 h))) (zZ (JO a (m+3)) (hp 3 h))) (hp 4 (SS a h (m+4) n)):=by
 simp only [SS,hp,Av,zi,ul,zy]
open TryzI Tryz
def Wt.b0 (size:Int) (s0:Int × Int × List (BitVec 8)):Option ((Int × Int × List (BitVec 8)) ⊕ (List (BitVec 8))) :=
 if 0≤s0.2.1 then (if 0≤s0.2.1∧s0.2.1<((size).toNat:Int) then (if (s0.2.1).toNat<(s0.2.2).length then (X5 (s0.2.2.set ((s0.2.1).toNat) (BitVec.ofInt 8 (HZ (· &&& ·) s0.1 255))) fun Xi=>(X5 (ZJ (s0.2.1 - 1)) fun i2=>(some (.inl (VO s0.1 8,i2,Xi))))) else none) else none) else (some (.inr s0.2.2))
def Wt (x size:Int):Option (Str) :=
 if 0≤size∧size≤17592186044416 then (X5 (ZJ (size - 1)) fun i1=>((loop (Wt.b0 size) BIG (x,i1,List.replicate ((size).toNat) 0#8)).bind fun Yw=>(if (Yw).length=(size).toNat then (some Yw) else none))) else none
theorem ML {x:Int} {size:Int} {r:Str} (H:Wt x size=some r) :
  Does Tryz.prog 60 [vi x,vi size] [] [] (Γ:=Unit) (fun g=>vs r) (fun g=>[]):=by
 intro w hmem hro hd
 refine Zn func60 rfl ntmps60 rfl hmem hro hd ?_
 unfold Wt at H
 refine Z_ (Y2 ?_)
 refine Z6 (Z_ (YP ?_))
 have ⟨h1,H⟩:=Z4 H
 refine YE (OA rfl rfl underlying86 Yn (z:=v8 0#8) rfl rfl rfl (B:=1) rfl h1.1 (Int.le_refl _) (wV 1 rfl h1) (ww h1) (n':=(size).toNat) (c':=(size).toNat) rfl rfl (cs:=e8 (List.replicate ((size).toNat) 0#8)) (Ti (f:=v8))) (fun b1=>?_)
 refine Y2 ?_
 refine Z6 (ZY (Z_ (YP ?_)))
 refine ZV (ZT OX) ?_
 refine Y2 ?_
 have ⟨i1,Ll,H⟩:=ZX H
 refine WN 6 (congrArg vi Ll) ?_
 refine Z6 (ZP ?_)
 have ⟨Yw,Hl,H⟩:=Z9 H
 refine Wz [0,5,6] [0] rfl rfl ?_
 refine Yv (id:=0) (body:=(Wt.b0 size)) (σ:=Int × Int × List (BitVec 8)) (Γ:=Unit) (Γx:=Unit) (fun s0 WG=>[(0,vi s0.1),(5,sl (some (b1,0)) ((size).toNat) ((size).toNat)),(6,vi s0.2.1)]) (fun s0 WG=>[⟨some (b1,0),e8 s0.2.2⟩]) (fun t g=>[(5,sl (some (b1,0)) ((size).toNat) ((size).toNat))]) (fun t g=>[⟨some (b1,0),e8 t⟩]) ?_ BIG (x,i1,List.replicate ((size).toNat) 0#8) () Yw Hl ?_
 ·intro s0 WG r1 H K hK hE
  unfold Wt.b0 at H
  refine ZY (Z_ (YP ?_))
  refine ZV (ZT LD) ?_
  refine Z6 (UK H (fun hc H=>?_) (fun hc H=>?_))
  ·refine ZN (Z7 (ZY (ZP (Z_ (Zj 3 rfl ?_)))))
   refine ZV (ZT az) ?_
   refine ZV (Vu rfl (fun w=>F3 w _ _ underlying5 (HY) .i64 (HZ (· &&& ·) s0.1 255))) ?_
   have ⟨h2,H⟩:=Z4 H
   have ⟨h3,H⟩:=Z4 H
   refine ZV (RQ (i:=s0.2.1) rfl rfl underlying86 Yn rfl (fun _ h=>by cases h) h2.1 h2.2 (k:=(s0.2.1).toNat) (JZ _)) ?_
   refine VM (YR (j:=0) rfl rfl Yn rfl rfl rfl (by simpa using h3) (cs':=e8 (s0.2.2.set ((s0.2.1).toNat) (BitVec.ofInt 8 (HZ (· &&& ·) s0.1 255)))) (I1 (f:=v8) (l:=s0.2.2) (k:=((s0.2.1).toNat)) (x:=(BitVec.ofInt 8 (HZ (· &&& ·) s0.1 255))))) (fun _=>?_)
   have ⟨Xi,hm_1,H⟩:=ZX H
   refine Ta 0 (congrArg (e8) hm_1) ?_
   refine Z6 (ZH (YP ?_))
   refine ZV (Zg rfl rfl (fun w=>yS w s0.1 .u64 8 (by decide))) ?_
   refine Y2 ?_
   refine ZK (ZW (Z7 (ZH (YP ?_))))
   refine ZV (ZT OX) ?_
   refine Y2 ?_
   have ⟨i2,Ca,H⟩:=ZX H
   refine WN 6 (congrArg vi Ca) ?_
   refine ZK ?_
   obtain rfl:=sj H
   exact Ri [0] (hK (VO s0.1 8,i2,Xi) rfl ())
  refine YW (Z0 (Z0 ?_))
  obtain rfl:=sj H
  exact WW [0] (hE s0.2.2 rfl ())
 intro g
 refine ZL (Z7 (Z_ (YP ?_)))
 have ⟨h4,H⟩:=Z4 H
 refine ZV (QY rfl underlying86 underlying5 underlying9 (.o 0) h4) ?_
 refine Y2 ?_
 refine Zq ?_
 obtain rfl:=sj H
 exact Wj
theorem iw (f:BitVec 64 → BitVec 64 → BitVec 64) (a b:Int) (h:(f (BitVec.ofInt 64 a) (BitVec.ofInt 64 b)).toNat<9223372036854775808):HZ f a b=((f (BitVec.ofInt 64 a) (BitVec.ofInt 64 b)).toNat:Int):=by
 unfold HZ
 exact Nq h
theorem yQ (x:Int) (n:Nat) (hn:n<63):HZ (· &&& ·) x ((2 ^ n - 1:Nat):Int)=x % ((2 ^ n:Nat):Int):=by
 have hp:2 ^ n<2 ^ 63:=Nat.pow_lt_pow_right (by omega) (by omega)
 have hp0:0<2 ^ n:=Nat.two_pow_pos n
 have e:((BitVec.ofInt 64 x) &&& (BitVec.ofInt 64 ((2 ^ n - 1:Nat):Int))).toNat=(x % ((2 ^ n:Nat):Int)).toNat:=by
  have e1:(BitVec.ofInt 64 ((2 ^ n - 1:Nat):Int)).toNat=2 ^ n - 1:=by
   rw [BitVec.ofInt_natCast,BitVec.toNat_ofNat,Nat.mod_eq_of_lt (by omega)]
  rw [BitVec.toNat_and,e1,Nat.and_two_pow_sub_one_eq_mod,BitVec.toNat_ofInt]
  have h1:((x % ((2 ^ 64:Nat):Int)).toNat:Int)=x % ((2 ^ 64:Nat):Int):=Int.toNat_of_nonneg (Int.emod_nonneg _ (by decide))
  have h2:((x % ((2 ^ n:Nat):Int)).toNat:Int)=x % ((2 ^ n:Nat):Int):=Int.toNat_of_nonneg (Int.emod_nonneg _ (by omega))
  apply Int.ofNat.inj
  show (((x % ((2 ^ 64:Nat):Int)).toNat % 2 ^ n:Nat):Int)=_
  rw [Int.natCast_emod,h1]
  show x % ((2 ^ 64:Nat):Int) % ((2 ^ n:Nat):Int)=((x % ((2 ^ n:Nat):Int)).toNat:Int)
  rw [h2]
  refine Int.emod_emod_of_dvd x ?_
  rw [Int.natCast_dvd_natCast]
  exact Nat.pow_dvd_pow 2 (by omega)
 have hlt:(x % ((2 ^ n:Nat):Int)).toNat<2 ^ n:=by
  have:=Int.emod_lt_of_pos x (show (0:Int)<((2 ^ n:Nat):Int) by omega)
  omega
 have:=iw (· &&& ·) x ((2 ^ n - 1:Nat):Int) (by show BitVec.toNat (_ &&& _)<_; rw [e]; omega)
 rw [this]
 show ((BitVec.toNat (_ &&& _):Nat):Int)=_
 rw [e]
 exact Int.toNat_of_nonneg (Int.emod_nonneg _ (by omega))
theorem dH (x:Int):HZ (· &&& ·) x 255=x % 256:=yQ x 8 (by decide)
theorem xE (x:Int):BitVec.ofInt 8 (x % 256)=BitVec.ofInt 8 x:=by
 apply BitVec.eq_of_toNat_eq
 simp only [BitVec.toNat_ofInt]
 omega
def TJ (x:Int) (n:Nat):Str:=(List.range n).map fun i=>BitVec.ofInt 8 (x / 256 ^ (n - 1 - i))
theorem Vv (x:Int) (n:Nat):(TJ x n).length=n:=by simp [TJ]
theorem Br (x:Int) (n:Nat) (h:n<1000000):Wt x (n:Int)=some (TJ x n):=by
 have e0:ZJ ((n:Int) - 1)=(n:Int) - 1:=Yr (by omega) (by omega)
 unfold Wt
 refine ZM (by omega) (Ze fun i1 Ll=>?_)
 rw [Ll,e0,Int.toNat_natCast]
 refine Z5 (v:=TJ x n) (Vw (fun k=>(x / 256 ^ k,(n:Int) - 1 - k,(List.range n).map fun i=>if i+k<n then 0#8 else BitVec.ofInt 8 (x / 256 ^ (n - 1 - i)))) n _ (by omega) ?_ (fun k hk=>?_) ?_) (ZM (Vv x n) rfl)
 ·have:(List.range n).map (fun i=>if i+0<n then 0#8 else BitVec.ofInt 8 (x / 256 ^ (n - 1 - i)))=List.replicate n 0#8:=by
   refine List.ext_getElem (by simp) fun i h1 h2=>?_
   simp only [List.getElem_map,List.getElem_range,List.getElem_replicate]
   rw [if_pos (by simp at h1; omega)]
  simp only [this]
  simp
 ·have e1:ZJ ((n:Int) - 1 - (k:Int) - 1)=(n:Int) - 1 - ((k+1:Nat):Int):=by rw [Yr (by omega) (by omega)]; omega
  have e2:((n:Int) - 1 - (k:Int)).toNat=n - 1 - k:=by omega
  unfold Wt.b0
  simp only [e1,e2,Int.toNat_natCast]
  clear e1
  refine ZM (by omega) (ZM (by omega) (ZM (by simp; omega) (Ze fun m hm=>Ze fun i2 Ca=>?_)))
  have hs:VO (x / 256 ^ k) 8=x / 256 ^ (k+1):=by
   unfold VO
   show x / 256 ^ k / 256=_
   rw [Int.pow_succ,Int.ediv_ediv_of_nonneg (Int.pow_nonneg (by decide))]
  have qz:m=(List.range n).map fun i=>if i+(k+1)<n then 0#8 else BitVec.ofInt 8 (x / 256 ^ (n - 1 - i)):=by
   rw [hm,dH,xE]
   refine List.ext_getElem (by simp) fun i h1 h2=>?_
   simp only [List.getElem_set,List.getElem_map,List.getElem_range]
   by_cases c:n - 1 - k=i
   ·rw [if_pos c,if_neg (by omega),show n - 1 - i=k by omega]
   ·rw [if_neg c]
    by_cases c2:i+k<n
    ·rw [if_pos c2,if_pos (by omega)]
    ·rw [if_neg c2,if_neg (by omega)]
  rw [Ca,hs,qz]
 ·unfold Wt.b0
  refine Zi (by show ¬ (0:Int)≤(n:Int) - 1 - (n:Int); omega) (congrArg some (congrArg Sum.inr ?_))
  unfold TJ
  refine List.ext_getElem (by simp) fun i h1 h2=>?_
  simp only [List.getElem_map,List.getElem_range]
  rw [if_neg (by omega)]
def Ae (s:Str) (a:Nat):Nat → BitVec 64
 | 0=>0#64
 | j+1=>(Ae s a j <<< 8) ||| (s.getD (a+j) 0#8).setWidth 64
theorem zT (s:Str) (a b c:Nat) : ∀ n,c+n≤b - a → Ae (sub s a b) c n=Ae s (a+c) n
 | 0,_=>rfl
 | n+1,h=>by
  show (Ae (sub s a b) c n <<< 8) ||| _=(Ae s (a+c) n <<< 8) ||| _
  rw [zT s a b c n (by omega),G6 _ _ _ _ (by omega),Nat.add_assoc]
def wU (w:BitVec 64) (z:Nat):Str:=(List.range z).map fun i=>(w >>> (8 * (z - 1 - i))).setWidth 8
theorem zx (w:BitVec 64) (z:Nat):(wU w z).length=z:=by simp [wU]
open Vector (replicate)
open TryzI Tryz
def Uu.b0 (Uc:Vector (BitVec 64 × BitVec 64) 16) (Tu:Vx 64 16) (b:List (BitVec 8)) (s0:Nat × BitVec 64 × BitVec 64):Option ((Nat × BitVec 64 × BitVec 64) ⊕ (Nat × BitVec 64 × BitVec 64)) :=
 if 16≤((((b).length) - s0.1:Nat):Int) then ((TS Uc Tu s0.2.1 s0.2.2 (sub b s0.1 ((b).length))).bind fun Zu=>(if s0.1≤(b).length then (if 16≤((b).length) - s0.1 then (some (.inl (s0.1+16,Zu.1,Zu.2))) else none) else none)) else (some (.inr (s0.1,s0.2.1,s0.2.2)))
def Uu (Uc:Vector (BitVec 64 × BitVec 64) 16) (Tu:Vx 64 16) (U1 TI:BitVec 64) (b:List (BitVec 8)):Option (BitVec 64 × BitVec 64) :=
 (loop (Uu.b0 Uc Tu b) BIG (0,U1,TI)).bind fun Yw=>(if 0<((((b).length) - Yw.1:Nat):Int) then (X5 (EX (replicate 16 0#8) 0 ((sub b Yw.1 ((b).length)).take (min (((b).length) - Yw.1) 16))) fun Xi=>((TS Uc Tu Yw.2.1 Yw.2.2 Xi.toList).bind fun YJ=>(some (YJ.1,YJ.2)))) else (some (Yw.2.1,Yw.2.2)))
theorem Dq {bs:Nat} {obs:Nat} {Ab:Y6} {cb:Nat} {Uc:Vector (BitVec 64 × BitVec 64) 16} {Tu:Vx 64 16} {U1:BitVec 64} {TI:BitVec 64} {b:List (BitVec 8)} (hcb:(b).length≤cb) {r:BitVec 64 × BitVec 64} (H:Uu Uc Tu U1 TI b=some r) :
  Does Tryz.prog 145 [ptr (some (bs,obs)) 0,sl Ab ((b).length) cb] [⟨some (bs,obs+48),[v64 U1]⟩,⟨some (bs,obs+49),[v64 TI]⟩] [⟨some (bs,obs),eF (fun p:BitVec 64 × BitVec 64=>[v64 p.1,v64 p.2]) Uc.toList⟩,⟨some (bs,obs+32),e64 Tu.toList⟩,⟨Ab,e8 b⟩] (Γ:=Unit) (fun g=>Value.tuple [].toArray) (fun g=>[⟨some (bs,obs+48),[v64 r.1]⟩,⟨some (bs,obs+49),[v64 r.2]⟩]):=by
 intro w hmem hro hd
 refine Zn func145 rfl ntmps145 rfl hmem hro hd ?_
 unfold Uu at H
 refine ZY (ZP (dW (d:=1) (v:=sl Ab ((b).length) cb) (v':=sl (R5 Ab cb 0 0 1) (((b).length) - 0) (cb - 0)) rfl (sG 1) ?_))
 have ⟨Yw,Hl,H⟩:=Z9 H
 refine Wz [0,1] [0,0] rfl rfl ?_
 refine Yv (id:=0) (body:=(Uu.b0 Uc Tu b)) (σ:=Nat × BitVec 64 × BitVec 64) (Γ:=Nat) (Γx:=Nat) (fun s0 WG=>[(0,ptr (some (bs,obs)) 0),(1,sl (R5 Ab cb s0.1 WG 1) (((b).length) - s0.1) (cb - s0.1))]) (fun s0 WG=>[⟨some (bs,obs+48),[v64 s0.2.1]⟩,⟨some (bs,obs+49),[v64 s0.2.2]⟩]) (fun t g=>[(0,ptr (some (bs,obs)) 0),(1,sl (R5 Ab cb t.1 g 1) (((b).length) - t.1) (cb - t.1))]) (fun t g=>[⟨some (bs,obs+48),[v64 t.2.1]⟩,⟨some (bs,obs+49),[v64 t.2.2]⟩]) ?_ BIG (0,U1,TI) 0 Yw Hl ?_
 ·intro s0 WG r1 H K hK hE
  unfold Uu.b0 at H
  refine ZY (Z_ (YP ?_))
  refine ZV (ZG rfl underlying86) ?_
  refine ZV (ZT LD) ?_
  refine Z6 (UK H (fun hc H=>?_) (fun hc H=>?_))
  ·refine ZN (Z7 (ZY (ZP (ZH (Zj 2 rfl ?_)))))
   refine WN (v':=sl (R5 Ab cb s0.1 WG 1) ((sub b s0.1 ((b).length)).length) (cb - s0.1)) 1 (congrArg (fun n=>sl (R5 Ab cb s0.1 WG 1) n (cb - s0.1)) (WA (Nat.le_refl _)).symm) ?_
   refine WN (v':=sl (R5 Ab cb s0.1 WG 1) ((sub b s0.1 ((b).length)).length) (cb - s0.1)) 5 (congrArg (fun n=>sl (R5 Ab cb s0.1 WG 1) n (cb - s0.1)) (WA (Nat.le_refl _)).symm) ?_
   refine WN (v':=sl (R5 Ab cb s0.1 WG 1) ((sub b s0.1 ((b).length)).length) (cb - s0.1)) 11 (congrArg (fun n=>sl (R5 Ab cb s0.1 WG 1) n (cb - s0.1)) (WA (Nat.le_refl _)).symm) ?_
   have ⟨Zu,Yk,H⟩:=Z9 H
   refine YE (Wq (is:=[0,0]) rfl call147 (H8 (au (Nat.le_refl _) (Nat.le_trans (Nat.le_refl _) hcb)) Yk :) rfl ⟨.r 0, .r 1,(aQ (Db:=b) (QH.ro (j:=2) rfl) (Nat.le_trans (Nat.le_refl _) hcb)),trivial⟩) (fun Re=>?_)
   refine WN (v':=sl (R5 Ab cb s0.1 WG 1) (((b).length) - s0.1) (cb - s0.1)) 1 (congrArg (fun n=>sl (R5 Ab cb s0.1 WG 1) n (cb - s0.1)) (WA (Nat.le_refl _))) ?_
   refine WN (v':=sl (R5 Ab cb s0.1 WG 1) (((b).length) - s0.1) (cb - s0.1)) 5 (congrArg (fun n=>sl (R5 Ab cb s0.1 WG 1) n (cb - s0.1)) (WA (Nat.le_refl _))) ?_
   refine WN (v':=sl (R5 Ab cb s0.1 WG 1) (((b).length) - s0.1) (cb - s0.1)) 11 (congrArg (fun n=>sl (R5 Ab cb s0.1 WG 1) n (cb - s0.1)) (WA (Nat.le_refl _))) ?_
   refine ZK (ZW (Z7 (ZH (YP ?_))))
   have ⟨h1,H⟩:=Z4 H
   have ⟨h2,H⟩:=Z4 H
   refine ZV (Ck (l:=16) (h:=((b).length) - s0.1) rfl underlying86 Yn rfl (OZ.some' (i:=16) rfl (by decide)) OZ.none' h2 (Nat.le_refl _) (Nat.le_trans (Nat.le_refl _) hcb) (Nat.add_sub_cancel' h1)) ?_
   refine Y2 ?_
   refine ZK ?_
   obtain rfl:=sj H
   exact Ri [0,0] (hK (s0.1+16,Zu.1,Zu.2) rfl (if cb=s0.1 then WG else s0.1))
  refine YW (Z0 (Z0 ?_))
  obtain rfl:=sj H
  exact WW [0,0] (hE (s0.1,s0.2.1,s0.2.2) rfl WG)
 intro g
 obtain ⟨Fe,hgx⟩ : ∃ z,z=g:=⟨g,rfl⟩; subst hgx
 refine ZL (Z7 (Z_ (YP ?_)))
 refine ZV (ZG rfl underlying86) ?_
 refine ZV (ZT Sv) ?_
 refine Z6 (UK H (fun hc H=>?_) (fun hc H=>?_))
 ·refine Z_ (YE (Wh [(16,e8 ((replicate 16 0#8).toList))] UW Pp ⟨(Wl (f:=v8) (replicate 16 0#8)),trivial⟩) (fun b1=>?_))
  refine Z6 (Z_ (ZV (P6 rfl (by simp) underlying171 Yn rfl) ?_))
  refine YP ?_
  refine YE (sw (o:=0) (j:=0) (ds:=(sub b Yw.1 ((b).length))) (eu rfl) rfl (by simp) underlying86 Yn rfl (aaC (Db:=b) (.r 2) (Nat.le_trans (Nat.le_refl _) hcb)) (WA (Nat.le_refl _)) rfl rfl (xQ (l:=0) (d:=16) (by omega)) (cs':=e8 ((EX (replicate 16 0#8) 0 ((sub b Yw.1 ((b).length)).take (min (((b).length) - Yw.1) 16))).toList)) (Ig (Ja (n:=16) (l:=0) (d:=16) (by omega)))) (fun _=>?_)
  have ⟨Xi,hm_1,H⟩:=ZX H
  refine Ta 0 (congrArg (fun z:Vx 8 16=>e8 (Vector.toList z)) hm_1) ?_
  refine Z6 (ZH (YP ?_))
  refine ZV (P6 rfl (by simp) underlying171 Yn rfl) ?_
  refine WN (v':=sl (some (b1,0)) ((Xi.toList).length) ((Xi.toList).length)) 20 (congrArg (fun n=>sl (some (b1,0)) n n) vT.symm) ?_
  have ⟨YJ,X6,H⟩:=Z9 H
  refine YE (Wq (is:=[1,1]) rfl call147 (H8 (Nat.le_refl _) X6 :) rfl ⟨.r 0, .r 1, .o 0,trivial⟩) (fun UD=>?_)
  refine ZK ?_
  obtain rfl:=sj H
  exact Kv (rs:=[]) (vs:=[]) rfl trivial (fun w' hs'=>⟨(),rfl,Step.left (Step.pulled (is:=[0,0]) (A:=[⟨some (bs,obs+48),[v64 YJ.1]⟩,⟨some (bs,obs+49),[v64 YJ.2]⟩]) hs' rfl)⟩)
 refine ZN ?_
 obtain rfl:=sj H
 exact Kv (rs:=[]) (vs:=[]) rfl trivial (fun w' hs'=>⟨(),rfl,Step.left (Step.pulled (is:=[0,0]) (A:=[⟨some (bs,obs+48),[v64 Yw.2.1]⟩,⟨some (bs,obs+49),[v64 Yw.2.2]⟩]) hs' rfl)⟩)
open Vector (replicate)
open TryzI Tryz
def VP.b0 (Sq Qp:BitVec 64) (s0:Int × Vx 8 16):Option ((Int × Vx 8 16) ⊕ (Vx 8 16)) :=
 if s0.1<8 then (if 0≤ZJ (56 - (ZJ (8 * s0.1))) then (if 0≤ZJ (56 - (ZJ (8 * s0.1))) then (if 0≤s0.1∧s0.1<(16:Int) then (X5 (vp s0.2 ((s0.1).toNat) ((Sq >>> (ZJ (56 - (ZJ (8 * s0.1)))).toNat).setWidth 8)) fun Xi=>(if 0≤ZJ (8+s0.1)∧ZJ (8+s0.1)<(16:Int) then (X5 (vp Xi ((ZJ (8+s0.1)).toNat) ((Qp >>> (ZJ (56 - (ZJ (8 * s0.1)))).toNat).setWidth 8)) fun SV=>(some (.inl (ZJ (s0.1+1),SV)))) else none)) else none) else none) else none) else (some (.inr s0.2))
def VP (Sq Qp:BitVec 64):Option (Vx 8 16) :=
 (loop (VP.b0 Sq Qp) BIG (0,replicate 16 0#8)).bind fun Yw=>(some Yw)
theorem Dc {Sq:BitVec 64} {Qp:BitVec 64} {r:Vx 8 16} (H:VP Sq Qp=some r) :
  Does Tryz.prog 146 [aG [(1,[v64 Sq]),(1,[v64 Qp])]] [] [] (Γ:=Unit) (fun g=>aG [(16,e8 r.toList)]) (fun g=>[]):=by
 intro w hmem hro hd
 refine Zn func146 rfl ntmps146 rfl hmem hro hd ?_
 unfold VP at H
 refine Z_ (YE PT (fun b1=>?_))
 refine YE (Wh [(16,e8 ((replicate 16 0#8).toList))] UW Pp ⟨(Wl (f:=v8) (replicate 16 0#8)),trivial⟩) (fun b2=>?_)
 refine Z6 (Z_ (YE (Wh [(16,e8 ((replicate 16 0#8).toList))] UW Pp ⟨(Wl (f:=v8) (replicate 16 0#8)),trivial⟩) (fun b3=>?_)))
 refine Z6 (ZY (Z_ (YP ?_)))
 refine Z6 (ZP ?_)
 have ⟨Yw,Hl,H⟩:=Z9 H
 refine Wz [1,2,3,5] [2,2,1,0] rfl rfl ?_
 refine Yv (id:=0) (body:=(VP.b0 Sq Qp)) (σ:=Int × Vx 8 16) (Γ:=Unit) (Γx:=Unit) (fun s0 WG=>[(1,ptr (some (b1,0)) 0),(2,ptr (some (b2,0)) 0),(3,ptr (some (b3,0)) 0),(5,vi s0.1)]) (fun s0 WG=>[⟨some (b1,0),[v64 Sq]⟩,⟨some (b1,1),[v64 Qp]⟩,⟨some (b2,0),e8 ((replicate 16 0#8).toList)⟩,⟨some (b3,0),e8 s0.2.toList⟩]) (fun t g=>[(2,ptr (some (b2,0)) 0),(3,ptr (some (b3,0)) 0)]) (fun t g=>[⟨some (b2,0),e8 ((replicate 16 0#8).toList)⟩,⟨some (b3,0),e8 t.toList⟩]) ?_ BIG (0,replicate 16 0#8) () Yw Hl ?_
 ·intro s0 WG r1 H K hK hE
  unfold VP.b0 at H
  refine Z_ (ZV (ZT WV) ?_)
  refine Z6 (ZY (UK H (fun hc H=>?_) (fun hc H=>?_)))
  ·refine ZN (Z7 (ZY (ZP (Z_ (Zj 2 rfl ?_)))))
   refine Z6 ?_
   have ⟨h1,H⟩:=Z4 H
   have ⟨h2,H⟩:=Z4 H
   have ⟨h3,H⟩:=Z4 H
   have ⟨Xi,hm_1,H⟩:=ZX H
   have ⟨h4,H⟩:=Z4 H
   have ⟨SV,hm_2,H⟩:=ZX H
   refine U3 [0,0,0] 19 rfl ?_
   refine YA 1 0 rfl ?_
   refine Zz 2 rfl (ZT XN) ?_
   refine Zz 3 rfl (ZQ 0 underlying216 Yx) ?_
   refine Zz 4 rfl (Z8 rfl (.o 0) rfl isAgg115) ?_
   refine YA 0 5 rfl ?_
   refine Zz 6 rfl (ZT Ma) ?_
   refine Zz 7 rfl (ZT OX) ?_
   refine Zz 8 rfl (Zg rfl rfl (fun w=>Pi w Sq .i64 (ZJ (56 - (ZJ (8 * s0.1)))) h1)) ?_
   refine Zz 9 rfl (Vu rfl (fun w=>ES w _ _ underlying5 (Hu) (Sq >>> (ZJ (56 - (ZJ (8 * s0.1)))).toNat))) ?_
   refine Zz 10 rfl (ZQ 1 underlying216 Yx) ?_
   refine Zz 11 rfl (Z8 rfl (.o 1) rfl isAgg115) ?_
   refine YA 0 12 rfl ?_
   refine Zz 13 rfl (ZT Ma) ?_
   refine Zz 14 rfl (ZT OX) ?_
   refine Zz 15 rfl (Zg rfl rfl (fun w=>Pi w Qp .i64 (ZJ (56 - (ZJ (8 * s0.1)))) h2)) ?_
   refine Zz 16 rfl (Vu rfl (fun w=>ES w _ _ underlying5 (Hu) (Qp >>> (ZJ (56 - (ZJ (8 * s0.1)))).toNat))) ?_
   refine Zz 17 rfl (Zw (i:=s0.1) rfl rfl underlying171 Yn rfl h3.1 h3.2 (k:=(s0.1).toNat) (Tz _)) ?_
   refine Qh 18 [0,0,0] rfl (YR (j:=3) rfl rfl Yn rfl rfl rfl (by simpa using (tl h3)) (cs':=e8 ((vp s0.2 ((s0.1).toNat) ((Sq >>> (ZJ (56 - (ZJ (8 * s0.1)))).toNat).setWidth 8)).toList)) VR) (fun _=>rfl) (fun _=>?_)
   refine Iy 3 (congrArg (fun z:Vx 8 16=>e8 (Vector.toList z)) hm_1) ?_
   refine xH 19 rfl (Zw (i:=ZJ (8+s0.1)) rfl rfl underlying171 Yn rfl h4.1 h4.2 (k:=(ZJ (8+s0.1)).toNat) (Tz _)) ?_
   refine vS 20 rfl (YR (j:=3) rfl rfl Yn rfl rfl rfl (by simpa using (tl h4)) (cs':=e8 ((vp Xi ((ZJ (8+s0.1)).toNat) ((Qp >>> (ZJ (56 - (ZJ (8 * s0.1)))).toNat).setWidth 8)).toList)) VR) (fun _=>?_)
   refine Iy 3 (congrArg (fun z:Vx 8 16=>e8 (Vector.toList z)) hm_2) ?_
   refine Vi ?_
   refine ZW (Z7 (ZH (ZV (ZT XN) ?_)))
   refine YP ?_
   refine ZK ?_
   obtain rfl:=sj H
   exact Ri [0,0,0,0] (hK (ZJ (s0.1+1),SV) rfl ())
  refine YW (Z0 (Z0 ?_))
  obtain rfl:=sj H
  exact WW [2,2] (hE s0.2 rfl ())
 intro g
 refine ZL (Z7 (Z_ (ZV (Wi (.o 1) isAgg171 UW) ?_)))
 refine VM (Vd (vs:=e8 Yw.toList) 0 UW) (fun _=>?_)
 refine Zq ?_
 obtain rfl:=sj H
 exact SF (vs:=[_]) rfl ⟨(Wm (n:=16) rfl (by simp) (.o 0) isAgg171 UW rfl (Wl (f:=v8) Yw)),trivial⟩
open Vector (replicate)
open TryzI Tryz
def Tp.b0 (n:BitVec 32) (s0:Int × Vx 8 16):Option ((Int × Vx 8 16) ⊕ (Vx 8 16)) :=
 if s0.1<4 then (if 0≤ZJ (8 * s0.1) then (if 0≤ZJ (15 - s0.1)∧ZJ (15 - s0.1)<(16:Int) then (X5 (vp s0.2 ((ZJ (15 - s0.1)).toNat) ((n >>> (ZJ (8 * s0.1)).toNat).setWidth 8)) fun SV=>(some (.inl (ZJ (s0.1+1),SV)))) else none) else none) else (some (.inr s0.2))
def Tp (ZA:Str) (n:BitVec 32):Option (Vx 8 16) :=
 X5 (EX (replicate 16 0#8) 0 (ZA.take (min ((ZA).length) 16))) fun Xi=>((loop (Tp.b0 n) BIG (0,Xi)).bind fun Yw=>(some Yw))
theorem Dh {ZA:Str} {n:BitVec 32} {r:Vx 8 16} (H:Tp ZA n=some r) :
  Does Tryz.prog 148 [vs ZA,v32 n] [] [] (Γ:=Unit) (fun g=>aG [(16,e8 r.toList)]) (fun g=>[]):=by
 intro w hmem hro hd
 refine Zn func148 rfl ntmps148 rfl hmem hro hd ?_
 unfold Tp at H
 refine Z_ (YE (Wh [(16,e8 ((replicate 16 0#8).toList))] UW Pp ⟨(Wl (f:=v8) (replicate 16 0#8)),trivial⟩) (fun b1=>?_))
 refine Z6 (Z_ (YE (Wh [(16,e8 ((replicate 16 0#8).toList))] UW Pp ⟨(Wl (f:=v8) (replicate 16 0#8)),trivial⟩) (fun b2=>?_)))
 refine Z6 (Z_ (ZV (P6 rfl (by simp) underlying171 Yn rfl) ?_))
 refine YP ?_
 refine YE (BP (o:=0) (j:=0) (eu rfl) rfl (by simp) underlying86 Yn rfl rfl (xQ (l:=0) (d:=16) (by omega)) (cs':=e8 ((EX (replicate 16 0#8) 0 (ZA.take (min ((ZA).length) 16))).toList)) (Ig (Ja (n:=16) (l:=0) (d:=16) (by omega)))) (fun _=>?_)
 have ⟨Xi,hm_1,H⟩:=ZX H
 refine Ta 0 (congrArg (fun z:Vx 8 16=>e8 (Vector.toList z)) hm_1) ?_
 refine Z6 (ZY (Z_ (YP ?_)))
 refine Z6 (ZP ?_)
 have ⟨Yw,Hl,H⟩:=Z9 H
 refine Wz [1,4,5,10] [1,0] rfl rfl ?_
 refine Yv (id:=0) (body:=(Tp.b0 n)) (σ:=Int × Vx 8 16) (Γ:=Unit) (Γx:=Unit) (fun s0 WG=>[(1,v32 n),(4,ptr (some (b1,0)) 0),(5,ptr (some (b2,0)) 0),(10,vi s0.1)]) (fun s0 WG=>[⟨some (b1,0),e8 ((replicate 16 0#8).toList)⟩,⟨some (b2,0),e8 s0.2.toList⟩]) (fun t g=>[(4,ptr (some (b1,0)) 0),(5,ptr (some (b2,0)) 0)]) (fun t g=>[⟨some (b1,0),e8 ((replicate 16 0#8).toList)⟩,⟨some (b2,0),e8 t.toList⟩]) ?_ BIG (0,Xi) () Yw Hl ?_
 ·intro s0 WG r1 H K hK hE
  unfold Tp.b0 at H
  refine Z_ (ZV (ZT WV) ?_)
  refine Z6 (ZY (UK H (fun hc H=>?_) (fun hc H=>?_)))
  ·refine ZN (Z7 (ZY (ZP (Z_ (Zj 2 rfl ?_)))))
   refine Z6 (ZH (YP ?_))
   refine ZV (ZT OX) ?_
   refine Zj 2 rfl ?_
   refine ZV (ZT Ma) ?_
   have ⟨h1,H⟩:=Z4 H
   refine ZV (Zg rfl rfl (fun w=>eD w n .i64 (ZJ (8 * s0.1)) h1)) ?_
   refine ZV (Vu rfl (fun w=>tZ w _ _ underlying5 (Lu) (n >>> (ZJ (8 * s0.1)).toNat))) ?_
   have ⟨h2,H⟩:=Z4 H
   refine ZV (Zw (i:=ZJ (15 - s0.1)) rfl rfl underlying171 Yn rfl h2.1 h2.2 (k:=(ZJ (15 - s0.1)).toNat) (Tz _)) ?_
   refine VM (YR (j:=1) rfl rfl Yn rfl rfl rfl (by simpa using (tl h2)) (cs':=e8 ((vp s0.2 ((ZJ (15 - s0.1)).toNat) ((n >>> (ZJ (8 * s0.1)).toNat).setWidth 8)).toList)) VR) (fun _=>?_)
   have ⟨SV,hm_2,H⟩:=ZX H
   refine Ta 1 (congrArg (fun z:Vx 8 16=>e8 (Vector.toList z)) hm_2) ?_
   refine ZK (ZW (Z7 (ZH (ZV (ZT XN) ?_))))
   refine YP ?_
   refine ZK ?_
   obtain rfl:=sj H
   exact Ri [0,0] (hK (ZJ (s0.1+1),SV) rfl ())
  refine YW (Z0 (Z0 ?_))
  obtain rfl:=sj H
  exact WW [0,0] (hE s0.2 rfl ())
 intro g
 refine ZL (Z7 (Z_ (ZV (Wi (.o 1) isAgg171 UW) ?_)))
 refine VM (Vd (vs:=e8 Yw.toList) 0 UW) (fun _=>?_)
 refine Zq ?_
 obtain rfl:=sj H
 exact SF (vs:=[_]) rfl ⟨(Wm (n:=16) rfl (by simp) (.o 0) isAgg171 UW rfl (Wl (f:=v8) Yw)),trivial⟩
open TryzI Tryz
def PP (x:BitVec 8):Option (BitVec 8) :=
 X5 ((x <<< 1) ^^^ (27#8 &&& (-(x >>> 7)))) fun x1=>(some x1)
theorem NI {x:BitVec 8} {r:BitVec 8} (H:PP x=some r) :
  Does Tryz.prog 153 [v8 x] [] [] (Γ:=Unit) (fun g=>v8 r) (fun g=>[]):=by
 intro w hmem hro hd
 refine Zn func153 rfl ntmps153 rfl hmem hro hd ?_
 unfold PP at H
 refine Z_ (Y2 ?_)
 refine Z6 (Z_ (YP ?_))
 refine ZV (Zg rfl rfl (fun w=>xk w x .u64 1 (by decide))) ?_
 refine YP ?_
 refine ZV (Zg rfl rfl (fun w=>bM w x .u64 7 (by decide))) ?_
 refine ZV (UF aaG) ?_
 refine ZV (Zg rfl rfl (fun w=>abC w 27#8 (-(x >>> 7)))) ?_
 refine ZV (ZT Sr) ?_
 refine Y2 ?_
 have ⟨x1,TK,H⟩:=ZX H
 refine WN 2 (congrArg v8 TK) ?_
 refine Zq ?_
 obtain rfl:=sj H
 exact Wj
end Go.Proofs
end

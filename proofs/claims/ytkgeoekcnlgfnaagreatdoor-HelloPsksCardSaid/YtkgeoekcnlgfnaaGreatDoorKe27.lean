/-
  Part 27 of the proof of what several laws share.
-/
import Derived.Test.YtkgeoekcnlgfnaaGreatDoorKe1
import Derived.Test.YtkgeoekcnlgfnaaGreatDoorKe2
import Derived.Test.YtkgeoekcnlgfnaaGreatDoorKe3
import Derived.Test.YtkgeoekcnlgfnaaGreatDoorKe4
import Derived.Test.YtkgeoekcnlgfnaaGreatDoorKe5
import Derived.Test.YtkgeoekcnlgfnaaGreatDoorKe6
import Derived.Test.YtkgeoekcnlgfnaaGreatDoorKe7
import Derived.Test.YtkgeoekcnlgfnaaGreatDoorKe17
import Derived.Test.YtkgeoekcnlgfnaaGreatDoorKe18
import Derived.Test.YtkgeoekcnlgfnaaGreatDoorKe19
import Derived.Test.YtkgeoekcnlgfnaaGreatDoorKe26
set_option linter.unusedVariables false
set_option linter.unusedSimpArgs false
section
namespace Go.Proofs
open Go Go.Kx
abbrev E2:=BitVec 64 × BitVec 64
def xr (a b:E2):E2:=(a.1 ^^^ b.1,a.2 ^^^ b.2)
def z2:E2:=(0#64,0#64)
theorem xr_comm (a b:E2):xr a b=xr b a:=by simp [xr,BitVec.xor_comm]
theorem xr_assoc (a b c:E2):xr (xr a b) c=xr a (xr b c):=by simp [xr,BitVec.xor_assoc]
theorem xr_zero (a:E2):xr a z2=a:=by simp [xr,z2]
theorem zero_xr (a:E2):xr z2 a=a:=by simp [xr,z2]
def half (e:E2):E2:=((e.1 >>> 1) ^^^ (16212958658533785600#64 &&& (-(e.2 &&& 1#64))),(e.2 >>> 1) ||| (e.1 <<< 63))
theorem half_eq (a b:BitVec 64):gcm_element_half a b=some (half (a,b)):=rfl
theorem or_xor63 (x y:BitVec 64):(x >>> 1) ||| (y <<< 63)=(x >>> 1) ^^^ (y <<< 63):=by
 apply BitVec.eq_of_getLsbD_eq
 intro i hi
 simp only [BitVec.getLsbD_or,BitVec.getLsbD_xor,BitVec.getLsbD_ushiftRight,BitVec.getLsbD_shiftLeft]
 by_cases h:i<63
 ·simp [h]
 ·have:i=63:=by omega
  subst this
  simp
theorem and1 (x:BitVec 64):x &&& 1#64=if x.getLsbD 0 then 1#64 else 0#64:=by
 rw [BitVec.and_one_eq_setWidth_ofBool_getLsbD]
 cases x.getLsbD 0 <;> rfl
theorem mask_xor (c x y:BitVec 64):c &&& (-((x ^^^ y) &&& 1#64))=(c &&& (-(x &&& 1#64))) ^^^ (c &&& (-(y &&& 1#64))):=by
 rw [and1,and1,and1,BitVec.getLsbD_xor]
 cases x.getLsbD 0 <;> cases y.getLsbD 0 <;> simp
theorem half_xr (a b:E2):half (xr a b)=xr (half a) (half b):=by
 unfold half xr
 refine Prod.ext ?_ ?_
 ·simp only
  rw [BitVec.ushiftRight_xor_distrib,mask_xor]
  simp only [BitVec.xor_assoc]
  rw [← BitVec.xor_assoc (b.1 >>> 1),BitVec.xor_comm (b.1 >>> 1),BitVec.xor_assoc]
 ·simp only
  rw [or_xor63,or_xor63,or_xor63,BitVec.ushiftRight_xor_distrib,BitVec.shiftLeft_xor_distrib]
  simp only [BitVec.xor_assoc]
  rw [← BitVec.xor_assoc (b.2 >>> 1),BitVec.xor_comm (b.2 >>> 1),BitVec.xor_assoc]
theorem half_zero:half z2=z2:=by decide
def hp:Nat → E2 → E2
 | 0,e=>e
 | n+1,e=>half (hp n e)
theorem hp_xr (a b:E2) : ∀ n,hp n (xr a b)=xr (hp n a) (hp n b)
 | 0=>rfl
 | n+1=>by simp only [hp]; rw [hp_xr a b n,half_xr]
def sel (b:Bool) (e:E2):E2:=if b then e else z2
theorem half_sel (b:Bool) (e:E2):half (sel b e)=sel b (half e):=by cases b <;> simp [sel,half_zero]
def bitE (a:E2) (i:Nat):Bool:=if i<64 then a.1.getLsbD (63 - i) else a.2.getLsbD (127 - i)
def SS (a h:E2):Nat → Nat → E2
 | m,0=>z2
 | m,n+1=>xr (sel (bitE a m) h) (half (SS a h (m+1) n))
def prod (a h:E2):E2:=SS a h 0 128
theorem SS_last (a h:E2) : ∀ n m,SS a h m (n+1)=xr (SS a h m n) (sel (bitE a (m+n)) (hp n h))
 | 0,m=>by simp [SS,half_zero,xr_zero,zero_xr,hp]
 | n+1,m=>by
  show xr (sel (bitE a m) h) (half (SS a h (m+1) (n+1)))=_
  rw [SS_last a h n (m+1),half_xr,half_sel, ← xr_assoc]
  have:m+1+n=m+(n+1):=by omega
  rw [this]
  rfl
theorem ushr63 (x:BitVec 64):(x >>> 63=1#64) ↔ x.getLsbD 63=true:=by
 have hx:=x.isLt
 have:x.getLsbD 63=decide (x.toNat / 2 ^ 63 % 2=1):=by rw [← BitVec.testBit_toNat,Nat.testBit_eq_decide_div_mod_eq]
 rw [this,decide_eq_true_iff]
 constructor
 ·intro h
  have:=congrArg BitVec.toNat h
  simp only [BitVec.toNat_ushiftRight,Nat.shiftRight_eq_div_pow,BitVec.toNat_ofNat] at this
  omega
 ·intro h
  apply BitVec.eq_of_toNat_eq
  simp only [BitVec.toNat_ushiftRight,Nat.shiftRight_eq_div_pow,BitVec.toNat_ofNat]
  omega
theorem shl_bit (x:BitVec 64) (i:Nat) (h:i<64):(x <<< i).getLsbD 63=x.getLsbD (63 - i):=by
 rw [BitVec.getLsbD_shiftLeft]
 simp [show ¬ 63<i by omega]
theorem times_eq (a h:E2):halberdref4_times a.1 a.2 h.1 h.2=some (prod a h):=by
 unfold halberdref4_times
 refine bind_i (v:=prod a h) (loop_fn (fun i=>(a.1 <<< (min i 64),a.2 <<< (i - 64),(hp i h).1,(hp i h).2,(SS a h 0 i).1,(SS a h 0 i).2,(i:Int))) 128 _ (by omega) (by simp [hp,SS,z2]) (fun i hi=>?_) ?_) rfl
 ·have e1:w64 ((i:Int)+1)=((i+1:Nat):Int):=w64_add (b:=1) (by omega)
  unfold halberdref4_times.b0
  simp only [e1]
  clear e1
  refine if_i (by omega) (bind_i (v:=(a.1 <<< (min (i+1) 64),a.2 <<< (i+1 - 64),if i<64 then (a.1 <<< (min i 64)) >>> 63 else (a.2 <<< (i - 64)) >>> 63)) ?_ ?_)
  ·by_cases c:63<i
   ·refine if_i (by omega) (ltt_i fun b hb=>?_)
    have h1:i+1 - 64=(i - 64)+1:=by omega
    rw [hb,if_neg (by omega),show min i 64=64 by omega,show min (i+1) 64=64 by omega,h1,BitVec.shiftLeft_add]
   ·refine if_n (by omega) ?_
    rw [if_pos (by omega),show min i 64=i by omega,show min (i+1) 64=i+1 by omega,show i+1 - 64=0 by omega,show i - 64=0 by omega,BitVec.shiftLeft_add]
  ·have hbit:((if i<64 then (a.1 <<< (min i 64)) >>> 63 else (a.2 <<< (i - 64)) >>> 63)=1#64) ↔ bitE a i=true:=by
    unfold bitE
    by_cases c:i<64
    ·rw [if_pos c,if_pos c,ushr63,show min i 64=i by omega,shl_bit _ _ c]
    ·rw [if_neg c,if_neg c,ushr63,shl_bit _ _ (by omega),show 63 - (i - 64)=127 - i by omega]
   have hS:SS a h 0 (i+1)=xr (SS a h 0 i) (sel (bitE a i) (hp i h)):=by
    have:=SS_last a h i 0
    rwa [Nat.zero_add] at this
   refine bind_i (v:=SS a h 0 (i+1)) ?_ ?_
   ·by_cases c:bitE a i=true
    ·refine if_i (hbit.2 c) (ltt_i fun x hx=>ltt_i fun y hy=>?_)
     rw [hx,hy,hS,c]; rfl
    ·refine if_n (fun h=>c (hbit.1 h)) ?_
     have:bitE a i=false:=by simpa using c
     rw [hS,this]
     simp [sel,xr_zero]
   ·refine ltt_i fun l hl=>ltt_i fun d hd=>ltt_i fun c hc=>?_
    have hlow:half (hp i h)=(((hp i h).1 >>> 1) ^^^ (16212958658533785600#64 &&& (-((hp i h).2 &&& 1#64))),((hp i h).2 >>> 1) ||| ((hp i h).1 <<< 63)):=rfl
    have hh:hp (i+1) h=half (hp i h):=rfl
    rw [and1] at hl hlow
    by_cases c1:(hp i h).2.getLsbD 0=true
    ·rw [if_pos c1] at hl hlow
     refine if_i hl (ltt_i fun c2 hc2=>ltt_i fun j hj=>?_)
     rw [hj,hc2,hc,hd,hh,hlow]
     rfl
    ·rw [if_neg c1] at hl hlow
     refine if_n (by rw [hl]; decide) (ltt_i fun j hj=>?_)
     rw [hj,hc,hd,hh,hlow]
     simp
 ·exact if_n (by show ¬ (((128:Nat):Int)<128); omega) rfl
def tabF (h:E2) (i:Nat):Nat → E2
 | 0=>z2
 | k+1=>xr (tabF h i k) (sel (i.testBit (3 - k)) (hp k h))
def tabV (h:E2) (k:Nat):Vector E2 16:=Vector.ofFn fun i=>tabF h i.val k
def foldV:Vx 64 16:=Vector.ofFn fun i=>(hp 4 (0#64,BitVec.ofNat 64 i.val)).1
theorem bit_iop : ∀ i:Fin 16, ∀ k:Fin 4,decide (iop (· &&& ·) (i.val:Int) ((8 / 2 ^ k.val:Nat):Int) ≠ 0)=i.val.testBit (3 - k.val):=by decide +kernel
theorem gsum_b1 (h:E2) (k:Nat) (hk:k<4):loop (gcm_newSum.b1 (((8 / 2 ^ k:Nat):Int),tabV h k,(hp k h).1,(hp k h).2)) BIG (0,tabV h k)=some (tabV h (k+1)):=by
 refine loop_fill _ (fun i=>tabF h i (k+1)) id (by omega) (fun i v hi hv=>?_) (fun v=>?_)
 ·have e1:w64 ((i:Int)+1)=((i+1:Nat):Int):=w64_add (b:=1) (by omega)
  have hb:=bit_iop ⟨i,hi⟩ ⟨k,hk⟩
  dsimp only at hb
  have hvi:vg v i=tabF h i k:=by rw [hv i (Nat.le_refl _) hi,tabV,vg_ofFn hi]
  unfold gcm_newSum.b1
  simp only [e1,Int.toNat_natCast]
  clear e1
  refine if_i (by omega) ?_
  by_cases c:i.testBit (3 - k)=true
  ·rw [c,decide_eq_true_iff] at hb
   refine if_i hb (if_i (by omega) (if_i (by omega) (ltt_i fun m hm=>if_i (by omega) (if_i (by omega) (ltt_i fun m2 hm2=>?_)))))
   have:m2=vp v i (tabF h i (k+1)):=by
    rw [hm2,hm,vg_vp hi hi,if_pos rfl,hvi]
    refine vec_ext fun j hj=>?_
    rw [vg_vp hi hj,vg_vp hi hj,vg_vp hi hj]
    by_cases cj:i=j
    ·rw [if_pos cj,if_pos cj]
     simp only [tabF,c,sel,xr]; rfl
    ·rw [if_neg cj,if_neg cj,if_neg cj]
   rw [this]
  ·have cf:i.testBit (3 - k)=false:=by simpa using c
   rw [cf,decide_eq_false_iff_not] at hb
   refine if_n hb ?_
   have:v=vp v i (tabF h i (k+1)):=by
    refine vec_ext fun j hj=>?_
    rw [vg_vp hi hj]
    by_cases cj:i=j
    ·rw [if_pos cj, ← cj,hvi]
     simp [tabF,cf,sel,xr_zero]
    ·rw [if_neg cj]
   rw [← this]
 ·unfold gcm_newSum.b1
  exact if_n (by omega) rfl
theorem gsum_b3 (i:Nat) (hi:i<16):loop (gcm_newSum.b3) BIG (0,0#64,BitVec.ofInt 64 (i:Int))=some (hp 4 (0#64,BitVec.ofNat 64 i)):=by
 refine loop_fn (fun k=>((k:Int),(hp k (0#64,BitVec.ofNat 64 i)).1,(hp k (0#64,BitVec.ofNat 64 i)).2)) 4 _ (by omega) (by simp [hp,BitVec.ofInt_natCast]) (fun k hk=>?_) ?_
 ·have e1:w64 ((k:Int)+1)=((k+1:Nat):Int):=w64_add (b:=1) (by omega)
  unfold gcm_newSum.b3
  simp only [e1]
  refine if_i (by omega) (bind_i (half_eq _ _) rfl)
 ·exact if_n (by show ¬ (((4:Nat):Int)<4); omega) rfl
theorem newSum_eq (h:E2):gcm_newSum h.1 h.2=some (tabV h 4,foldV):=by
 unfold gcm_newSum
 refine bind_i (v:=tabV h 4) (loop_fn (fun k=>(((8 / 2 ^ k:Nat):Int),tabV h k,(hp k h).1,(hp k h).2)) 4 _ (by omega) ?_ (fun k hk=>?_) ?_) (bind_i (v:=foldV) ?_ rfl)
 ·refine Prod.ext rfl (Prod.ext ?_ rfl)
  refine vec_ext fun i hi=>?_
  rw [vg_eq' hi]
  simp only [Vector.getElem_replicate]
  show _=vg (tabV h 0) i
  rw [tabV,vg_ofFn hi]; rfl
 ·have e1:w64 (((8 / 2 ^ k:Nat):Int).tdiv 2)=((8 / 2 ^ (k+1):Nat):Int):=by
   have:=w64_div (a:=8 / 2 ^ k) (b:=2) (by have:=Nat.div_le_self 8 (2 ^ k); omega)
   rw [Nat.div_div_eq_div_mul, ← Nat.pow_succ] at this
   exact this
  have hpos:0<8 / 2 ^ k:=by
   rcases k with _ | _ | _ | _ | k <;> first | decide | omega
  unfold gcm_newSum.b0
  simp only [e1]
  refine if_i (by omega) (bind_i (gsum_b1 h k hk) (bind_i (half_eq _ _) (ltt_i fun b hb=>?_)))
  rw [hb]; rfl
 ·exact if_n (by show ¬ (0:Int)<((8 / 2 ^ 4:Nat):Int); decide) rfl
 ·refine loop_fill _ (fun i=>(hp 4 (0#64,BitVec.ofNat 64 i)).1) id (by omega) (fun i v hi hv=>?_) (fun v=>?_)
  ·have e1:w64 ((i:Int)+1)=((i+1:Nat):Int):=w64_add (b:=1) (by omega)
   unfold gcm_newSum.b2
   simp only [e1,Int.toNat_natCast]
   refine if_i (by omega) (bind_i (gsum_b3 i hi) (if_i (by omega) (ltt_i fun m hm=>?_)))
   rw [hm]
  ·unfold gcm_newSum.b2
   exact if_n (by omega) rfl
theorem fold0 : ∀ i:Fin 16,(hp 4 (0#64,BitVec.ofNat 64 i.val)).2=0#64:=by decide +kernel
theorem half_even (a b:BitVec 64) (h:b.getLsbD 0=false):half (a,b)=(a >>> 1,(b >>> 1) ||| (a <<< 63)):=by
 unfold half
 simp only
 rw [and1,h]
 simp
theorem hp4_even (a b:BitVec 64) (h : ∀ i,i<4 → b.getLsbD i=false):hp 4 (a,b)=(a >>> 4,(b >>> 4) ||| (a <<< 60)):=by
 have h1:half (a,b)=(a >>> 1,(b >>> 1) ||| (a <<< 63)):=half_even a b (h 0 (by decide))
 have h2:half (a >>> 1,(b >>> 1) ||| (a <<< 63))=(a >>> 1 >>> 1,(((b >>> 1) ||| (a <<< 63)) >>> 1) ||| ((a >>> 1) <<< 63)):=half_even _ _ (by simpa [BitVec.getLsbD_ushiftRight] using h 1 (by decide))
 have h3:half (a >>> 1 >>> 1,(((b >>> 1) ||| (a <<< 63)) >>> 1) ||| ((a >>> 1) <<< 63))=(a >>> 1 >>> 1 >>> 1,(((((b >>> 1) ||| (a <<< 63)) >>> 1) ||| ((a >>> 1) <<< 63)) >>> 1) ||| ((a >>> 1 >>> 1) <<< 63)):=half_even _ _ (by simpa [BitVec.getLsbD_ushiftRight] using h 2 (by decide))
 have h4:half (a >>> 1 >>> 1 >>> 1,(((((b >>> 1) ||| (a <<< 63)) >>> 1) ||| ((a >>> 1) <<< 63)) >>> 1) ||| ((a >>> 1 >>> 1) <<< 63))=(a >>> 1 >>> 1 >>> 1 >>> 1,(((((((b >>> 1) ||| (a <<< 63)) >>> 1) ||| ((a >>> 1) <<< 63)) >>> 1) ||| ((a >>> 1 >>> 1) <<< 63)) >>> 1) ||| ((a >>> 1 >>> 1 >>> 1) <<< 63)):=half_even _ _ (by simpa [BitVec.getLsbD_ushiftRight] using h 3 (by decide))
 show half (half (half (half (a,b))))=_
 rw [h1,h2,h3,h4]
 refine Prod.ext ?_ ?_
 ·simp only [← BitVec.shiftRight_add]
 ·simp only
  apply BitVec.eq_of_getLsbD_eq
  intro i hi
  simp only [BitVec.getLsbD_or,BitVec.getLsbD_ushiftRight,BitVec.getLsbD_shiftLeft]
  rcases (by omega:i<60 ∨ i=60 ∨ i=61 ∨ i=62 ∨ i=63) with c | c | c | c | c
  ·have e:1+(1+(1+(1+i)))=4+i:=by omega
   simp [e,c,show i<63 by omega,show 1+i<63 by omega,show 1+(1+i)<63 by omega,show 1+(1+(1+i))<63 by omega]
  all_goals (subst c; simp)
theorem hp4_eq (z:E2):hp 4 z=((z.1 >>> 4) ^^^ vg foldV ((z.2 &&& 15#64).toNat),(z.2 >>> 4) ||| (z.1 <<< 60)):=by
 have hv:(z.2 &&& 15#64).toNat<16:=by
  rw [BitVec.toNat_and]
  exact Nat.lt_of_le_of_lt Nat.and_le_right (by decide)
 have hz:z=xr (z.1,z.2 &&& ~~~15#64) (0#64,z.2 &&& 15#64):=by
  unfold xr
  refine Prod.ext (by simp) ?_
  simp only
  apply BitVec.eq_of_getLsbD_eq
  intro i hi
  simp only [BitVec.getLsbD_xor,BitVec.getLsbD_and,BitVec.getLsbD_not,hi,decide_true,Bool.true_and]
  cases z.2.getLsbD i <;> cases (15#64).getLsbD i <;> rfl
 have he : ∀ i,i<4 → (z.2 &&& ~~~15#64).getLsbD i=false:=by
  intro i hi
  rw [BitVec.getLsbD_and]
  have:(~~~15#64).getLsbD i=false:=by
   rcases i with _ | _ | _ | _ | i <;> first | decide | omega
  rw [this,Bool.and_false]
 have h1:=hp4_even z.1 (z.2 &&& ~~~15#64) he
 have h2:hp 4 (0#64,z.2 &&& 15#64)=(vg foldV ((z.2 &&& 15#64).toNat),0#64):=by
  have hn:z.2 &&& 15#64=BitVec.ofNat 64 ((z.2 &&& 15#64).toNat):=by simp
  have:=fold0 ⟨_,hv⟩
  dsimp only at this
  rw [foldV,vg_ofFn hv]
  refine Prod.ext ?_ ?_
  ·simp only; rw [← hn]
  ·simp only; rw [hn]; exact this
 rw [hz,hp_xr,h1,h2, ← hz]
 unfold xr
 refine Prod.ext rfl ?_
 simp only [BitVec.xor_zero]
 congr 1
 apply BitVec.eq_of_getLsbD_eq
 intro i hi
 simp only [BitVec.getLsbD_ushiftRight,BitVec.getLsbD_and,BitVec.getLsbD_not]
 by_cases c:4+i<64
 ·have:(15#64).getLsbD (4+i)=false:=by
   show (BitVec.ofNat 64 15).getLsbD (4+i)=false
   rw [BitVec.getLsbD_ofNat,Nat.testBit_lt_two_pow (Nat.lt_of_lt_of_le (by decide:15<2 ^ 4) (Nat.pow_le_pow_right (by decide) (by omega)))]
   simp
  simp only [c,decide_true,Bool.true_and,this,Bool.not_false,Bool.and_true]
 ·rw [BitVec.getLsbD_of_ge z.2 (4+i) (by omega)]; simp
theorem SS4 (a h:E2) (m n:Nat):SS a h m (n+4)=xr (xr (xr (xr (xr z2 (sel (bitE a m) (hp 0 h))) (sel (bitE a (m+1)) (hp 1 h))) (sel (bitE a (m+2)) (hp 2 h))) (sel (bitE a (m+3)) (hp 3 h))) (hp 4 (SS a h (m+4) n)):=by
 simp only [SS,hp,half_xr,half_sel,zero_xr,xr_assoc]
end Go.Proofs
end

section
namespace Go.Proofs
open Go Go.Kx
open TryzI Tryz
def halberdref1_Be.b0 (size:Int) (s0:Int × Int × List (BitVec 8)):Option ((Int × Int × List (BitVec 8)) ⊕ (List (BitVec 8))) :=
 if 0≤s0.2.1 then (if 0≤s0.2.1∧s0.2.1<((size).toNat:Int) then (if (s0.2.1).toNat<(s0.2.2).length then (ltt (s0.2.2.set ((s0.2.1).toNat) (BitVec.ofInt 8 (iop (· &&& ·) s0.1 255))) fun (m_1:List (BitVec 8))=>(ltt (w64 (s0.2.1 - 1)) fun (i2:Int)=>(some (.inl (shrI' s0.1 8,i2,m_1))))) else none) else none) else (some (.inr s0.2.2))
def halberdref1_Be (x:Int) (size:Int):Option (Str) :=
 if 0≤size∧size≤17592186044416 then (ltt (w64 (size - 1)) fun (i1:Int)=>((loop (halberdref1_Be.b0 size) BIG (x,i1,List.replicate ((size).toNat) 0#8)).bind fun (t_1:List (BitVec 8))=>(if (t_1).length=(size).toNat then (some t_1) else none))) else none
set_option maxHeartbeats 4000000 in
set_option maxRecDepth 20000 in
theorem F60_calls (x:Int) (size:Int) (r:Str) (H:halberdref1_Be x size=some r) :
  Does Tryz.prog 60 [vi x,vi size] [] [] (Γ:=Unit) (fun g=>vs r) (fun g=>[]):=by
 intro w hmem hro hd
 refine calls_of (N:=25) (m0:=[(0,vi x),(1,vi size)]) func60 rfl ntmps60 (argM_ok [vi x,vi size]) rfl hmem hro hd ?_
 unfold halberdref1_Be at H
 refine TC_seq (TC_region (TVa ?_))
 refine TL_nil (TX_next (TC_seq (TC_region (TVm ?_))))
 obtain ⟨h1,H⟩:=if_elim H
 refine TLe (E_mk1 rfl rfl underlying86 inf5 (z:=v8 0#8) rfl rfl rfl (B:=1) rfl h1.1 (Int.le_refl _) (mk_b 1 rfl h1) (mk_c h1) (n':=(size).toNat) (c':=(size).toNat) rfl rfl (cs:=e8 (List.replicate ((size).toNat) 0#8)) (rep_map (f:=v8))) (fun b1=>?_)
 refine TVa ?_
 refine TL_nil (TX_next (TC_seq (TC_seq (TC_region (TVm ?_)))))
 refine TLv (V_bin rfl rfl (fun w=>subI w size 1)) ?_
 refine TVa ?_
 obtain ⟨i1,hi1,H⟩:=ltt_elim H
 refine TLr 6 (congrArg vi hi1) ?_
 refine TL_nil (TX_next (TC_block ?_))
 obtain ⟨t_1,Hl,H⟩:=bind_elim H
 refine TC.sub (m':=[(0,_),(5,_),(6,_)]) ⟨rfl,rfl,rfl,trivial⟩ ?_
 refine TC.pull (is:=[0]) (L':=[_]) rfl ?_
 refine TC_loopL (id:=0) (body:=(halberdref1_Be.b0 size)) (σ:=Int × Int × List (BitVec 8)) (Γ:=Unit) (Γx:=Unit) (fun s0 g0_=>[(0,vi s0.1),(5,sl (some (b1,0)) ((size).toNat) ((size).toNat)),(6,vi s0.2.1)]) (fun s0 g0_=>[⟨some (b1,0),e8 s0.2.2⟩]) (fun t g=>[(5,sl (some (b1,0)) ((size).toNat) ((size).toNat))]) (fun t g=>[⟨some (b1,0),e8 t⟩]) ?_ BIG (x,i1,List.replicate ((size).toNat) 0#8) () t_1 Hl ?_
 ·intro s0 g0_ r1 H K hK hE
  unfold halberdref1_Be.b0 at H
  refine TC_seq (TC_seq (TC_region (TVm ?_)))
  refine TLv (V_bin rfl rfl (fun w=>geqI w s0.2.1 0)) ?_
  refine TL_nil (TX_next (TCd H (fun hc H=>?_) (fun hc H=>?_)))
  ·refine TC_skip (TX_next (TC_seq (TC_block (TC_seq (TC_region (TVm ?_))))))
   refine TVm ?_
   refine TVm ?_
   refine TLv (V_bin rfl rfl (fun w=>andI w s0.1 255)) ?_
   refine TLv (V_conv rfl (fun w=>cvI8 w _ _ underlying5 (und3) .i64 (iop (· &&& ·) s0.1 255))) ?_
   obtain ⟨h2,H⟩:=if_elim H
   obtain ⟨h3,H⟩:=if_elim H
   refine TLv (V_idxSl (i:=s0.2.1) rfl rfl underlying86 inf5 rfl (fun _ h=>by cases h) h2.1 h2.2 (k:=(s0.2.1).toNat) (km1 _)) ?_
   refine TLn (E_store (j:=0) rfl rfl inf5 rfl rfl rfl (by simpa using h3) (cs':=e8 (s0.2.2.set ((s0.2.1).toNat) (BitVec.ofInt 8 (iop (· &&& ·) s0.1 255)))) (set_map (f:=v8) (l:=s0.2.2) (k:=((s0.2.1).toNat)) (x:=(BitVec.ofInt 8 (iop (· &&& ·) s0.1 255))))) (fun _=>?_)
   obtain ⟨m_1,hm_1,H⟩:=ltt_elim H
   refine TL_reE (j:=0) (A:=some (b1,0)) (cs:=e8 (s0.2.2.set ((s0.2.1).toNat) (BitVec.ofInt 8 (iop (· &&& ·) s0.1 255)))) (cs':=e8 m_1) rfl (congrArg (e8) hm_1) ?_
   refine TL_nil (TX_next (TC_region (TVm ?_)))
   refine TLv (V_bin rfl rfl (fun w=>shrI w s0.1 .u64 8 (by decide))) ?_
   refine TVa ?_
   refine TL_nil (TX_block_normal (TX_next (TC_region (TVm ?_))))
   refine TLv (V_bin rfl rfl (fun w=>subI w s0.2.1 1)) ?_
   refine TVa ?_
   obtain ⟨i2,hi2,H⟩:=ltt_elim H
   refine TLr 6 (congrArg vi hi2) ?_
   refine TL_nil ?_
   obtain rfl:=sj H
   exact TXk [0] (hK (shrI' s0.1 8,i2,m_1) rfl ())
  ·refine TC_exit (TX_then_exit (TX_then_exit ?_))
   obtain rfl:=sj H
   exact TXj [0] (hE s0.2.2 rfl ())
 ·intro g
  refine TX_block_exit (TX_next (TC_seq (TC_region (TVm ?_))))
  obtain ⟨h4,H⟩:=if_elim H
  refine TLv (V_b2s rfl underlying86 underlying5 underlying9 (.o 0) h4) ?_
  refine TVa ?_
  refine TL_nil (TX_next (TC_ret ?_))
  obtain rfl:=sj H
  exact TX1
end Go.Proofs
end

section
namespace Go.Proofs
open Go Go.Kx
theorem iop_nat (f:BitVec 64 → BitVec 64 → BitVec 64) (a b:Int) (h:(f (BitVec.ofInt 64 a) (BitVec.ofInt 64 b)).toNat<9223372036854775808):iop f a b=((f (BitVec.ofInt 64 a) (BitVec.ofInt 64 b)).toNat:Int):=by
 unfold iop
 exact w64_nat h
theorem and_mask (x:Int) (n:Nat) (hn:n<63):iop (· &&& ·) x ((2 ^ n - 1:Nat):Int)=x % ((2 ^ n:Nat):Int):=by
 have hp:2 ^ n<2 ^ 63:=Nat.pow_lt_pow_right (by omega) (by omega)
 have hp0:0<2 ^ n:=Nat.two_pow_pos n
 have e:((BitVec.ofInt 64 x) &&& (BitVec.ofInt 64 ((2 ^ n - 1:Nat):Int))).toNat=(x % ((2 ^ n:Nat):Int)).toNat:=by
  have e1:(BitVec.ofInt 64 ((2 ^ n - 1:Nat):Int)).toNat=2 ^ n - 1:=by
   rw [BitVec.ofInt_natCast,BitVec.toNat_ofNat,Nat.mod_eq_of_lt (by omega)]
  rw [BitVec.toNat_and,e1,Nat.and_two_pow_sub_one_eq_mod,BitVec.toNat_ofInt]
  have h1:((x % ((2 ^ 64:Nat):Int)).toNat:Int)=x % ((2 ^ 64:Nat):Int):=Int.toNat_of_nonneg (Int.emod_nonneg _ (by decide))
  have h2:((x % ((2 ^ n:Nat):Int)).toNat:Int)=x % ((2 ^ n:Nat):Int):=Int.toNat_of_nonneg (Int.emod_nonneg _ (by omega))
  apply Int.ofNat.inj
  show (((x % ((2 ^ 64:Nat):Int)).toNat % 2 ^ n:Nat):Int)=_
  rw [Int.natCast_emod,h1]
  show x % ((2 ^ 64:Nat):Int) % ((2 ^ n:Nat):Int)=((x % ((2 ^ n:Nat):Int)).toNat:Int)
  rw [h2]
  refine Int.emod_emod_of_dvd x ?_
  rw [Int.natCast_dvd_natCast]
  exact Nat.pow_dvd_pow 2 (by omega)
 have hlt:(x % ((2 ^ n:Nat):Int)).toNat<2 ^ n:=by
  have:=Int.emod_lt_of_pos x (show (0:Int)<((2 ^ n:Nat):Int) by omega)
  omega
 have:=iop_nat (· &&& ·) x ((2 ^ n - 1:Nat):Int) (by show BitVec.toNat (_ &&& _)<_; rw [e]; omega)
 rw [this]
 show ((BitVec.toNat (_ &&& _):Nat):Int)=_
 rw [e]
 exact Int.toNat_of_nonneg (Int.emod_nonneg _ (by omega))
theorem and255 (x:Int):iop (· &&& ·) x 255=x % 256:=and_mask x 8 (by decide)
theorem ofInt8_mod (x:Int):BitVec.ofInt 8 (x % 256)=BitVec.ofInt 8 x:=by
 apply BitVec.eq_of_toNat_eq
 simp only [BitVec.toNat_ofInt]
 omega
def bytesI (x:Int) (n:Nat):Str:=(List.range n).map fun i=>BitVec.ofInt 8 (x / 256 ^ (n - 1 - i))
theorem bytesI_length (x:Int) (n:Nat):(bytesI x n).length=n:=by simp [bytesI]
theorem Be_eq (x:Int) (n:Nat) (h:n<1000000):halberdref1_Be x (n:Int)=some (bytesI x n):=by
 have e0:w64 ((n:Int) - 1)=(n:Int) - 1:=w64_id (by omega) (by omega)
 unfold halberdref1_Be
 refine if_i (by omega) (ltt_i fun i1 hi1=>?_)
 rw [hi1,e0,Int.toNat_natCast]
 refine bind_i (v:=bytesI x n) (loop_fn (fun k=>(x / 256 ^ k,(n:Int) - 1 - k,(List.range n).map fun i=>if i+k<n then 0#8 else BitVec.ofInt 8 (x / 256 ^ (n - 1 - i)))) n _ (by omega) ?_ (fun k hk=>?_) ?_) (if_i (bytesI_length x n) rfl)
 ·have:(List.range n).map (fun i=>if i+0<n then 0#8 else BitVec.ofInt 8 (x / 256 ^ (n - 1 - i)))=List.replicate n 0#8:=by
   refine List.ext_getElem (by simp) fun i h1 h2=>?_
   simp only [List.getElem_map,List.getElem_range,List.getElem_replicate]
   rw [if_pos (by simp at h1; omega)]
  simp only [this]
  simp
 ·have e1:w64 ((n:Int) - 1 - (k:Int) - 1)=(n:Int) - 1 - ((k+1:Nat):Int):=by rw [w64_id (by omega) (by omega)]; omega
  have e2:((n:Int) - 1 - (k:Int)).toNat=n - 1 - k:=by omega
  unfold halberdref1_Be.b0
  simp only [e1,e2,Int.toNat_natCast]
  clear e1
  refine if_i (by omega) (if_i (by omega) (if_i (by simp; omega) (ltt_i fun m hm=>ltt_i fun i2 hi2=>?_)))
  have hs:shrI' (x / 256 ^ k) 8=x / 256 ^ (k+1):=by
   unfold shrI'
   show x / 256 ^ k / 256=_
   rw [Int.pow_succ,Int.ediv_ediv_of_nonneg (Int.pow_nonneg (by decide))]
  have hm2:m=(List.range n).map fun i=>if i+(k+1)<n then 0#8 else BitVec.ofInt 8 (x / 256 ^ (n - 1 - i)):=by
   rw [hm,and255,ofInt8_mod]
   refine List.ext_getElem (by simp) fun i h1 h2=>?_
   simp only [List.getElem_set,List.getElem_map,List.getElem_range]
   by_cases c:n - 1 - k=i
   ·rw [if_pos c,if_neg (by omega),show n - 1 - i=k by omega]
   ·rw [if_neg c]
    by_cases c2:i+k<n
    ·rw [if_pos c2,if_pos (by omega)]
    ·rw [if_neg c2,if_neg (by omega)]
  rw [hi2,hs,hm2]
 ·unfold halberdref1_Be.b0
  refine if_n (by show ¬ (0:Int)≤(n:Int) - 1 - (n:Int); omega) (congrArg some (congrArg Sum.inr ?_))
  unfold bytesI
  refine List.ext_getElem (by simp) fun i h1 h2=>?_
  simp only [List.getElem_map,List.getElem_range]
  rw [if_neg (by omega)]
def be8 (s:Str) (a:Nat):Nat → BitVec 64
 | 0=>0#64
 | j+1=>(be8 s a j <<< 8) ||| (s.getD (a+j) 0#8).setWidth 64
theorem be8_sub (s:Str) (a b c:Nat) : ∀ n,c+n≤b - a → be8 (sub s a b) c n=be8 s (a+c) n
 | 0,_=>rfl
 | n+1,h=>by
  show (be8 (sub s a b) c n <<< 8) ||| _=(be8 s (a+c) n <<< 8) ||| _
  rw [be8_sub s a b c n (by omega),sub_getD _ _ _ _ (by omega),Nat.add_assoc]
def hexW (w:BitVec 64) (z:Nat):Str:=(List.range z).map fun i=>(w >>> (8 * (z - 1 - i))).setWidth 8
theorem hexW_length (w:BitVec 64) (z:Nat):(hexW w z).length=z:=by simp [hexW]
end Go.Proofs
end

section
namespace Go.Proofs
open Go Go.Kx
open TryzI Tryz
def halberdref4_double (x:BitVec 8):Option (BitVec 8) :=
 if (127#8).toNat<(x).toNat then (ltt ((x <<< 1) ^^^ 27#8) fun (x1:BitVec 8)=>(some x1)) else (some (x <<< 1))
set_option maxHeartbeats 4000000 in
set_option maxRecDepth 20000 in
theorem F98_calls (x:BitVec 8) (r:BitVec 8) (H:halberdref4_double x=some r) :
  Does Tryz.prog 98 [v8 x] [] [] (Γ:=Unit) (fun g=>v8 r) (fun g=>[]):=by
 intro w hmem hro hd
 refine calls_of (N:=10) (m0:=[(0,v8 x)]) func98 rfl ntmps98 (argM_ok [v8 x]) rfl hmem hro hd ?_
 unfold halberdref4_double at H
 refine TC_seq (TC_region (TVa ?_))
 refine TL_nil (TX_next (TC_seq (TC_seq (TC_region (TVm ?_)))))
 refine TLv (V_bin rfl rfl (fun w=>gtr8 w x 127#8)) ?_
 refine TL_nil (TX_next (TCd H (fun hc H=>?_) (fun hc H=>?_)))
 ·refine TC_seq (TC_region (TVm ?_))
  refine TLv (V_bin rfl rfl (fun w=>shl8 w x .u64 1 (by decide))) ?_
  refine TLv (V_bin rfl rfl (fun w=>xor8 w (x <<< 1) 27#8)) ?_
  refine TVa ?_
  obtain ⟨x1,hx1,H⟩:=ltt_elim H
  refine TLr 2 (congrArg v8 hx1) ?_
  refine TL_nil (TX_next (TC_ret (TX_then_ret ?_)))
  obtain rfl:=sj H
  exact TX1
 ·refine TC_skip (TX_next (TC_seq (TC_region (TVm ?_))))
  refine TLv (V_bin rfl rfl (fun w=>shl8 w x .u64 1 (by decide))) ?_
  refine TVa ?_
  refine TL_nil (TX_next (TC_ret ?_))
  obtain rfl:=sj H
  exact TX1
end Go.Proofs
end

/-
  Part 25 of the proof of what several laws share.
-/
import Derived.Test.YtkgeoekcnlgfnaaGreatDoorKc1
import Derived.Test.YtkgeoekcnlgfnaaGreatDoorKc2
import Derived.Test.YtkgeoekcnlgfnaaGreatDoorKc3
import Derived.Test.YtkgeoekcnlgfnaaGreatDoorKc4
import Derived.Test.YtkgeoekcnlgfnaaGreatDoorKc5
import Derived.Test.YtkgeoekcnlgfnaaGreatDoorKc6
import Derived.Test.YtkgeoekcnlgfnaaGreatDoorKc7
import Derived.Test.YtkgeoekcnlgfnaaGreatDoorKc14
import Derived.Test.YtkgeoekcnlgfnaaGreatDoorKc15
import Derived.Test.YtkgeoekcnlgfnaaGreatDoorKc16
import Derived.Test.YtkgeoekcnlgfnaaGreatDoorKc17
import Derived.Test.YtkgeoekcnlgfnaaGreatDoorKc18
import Derived.Test.YtkgeoekcnlgfnaaGreatDoorKc19
import Derived.Test.YtkgeoekcnlgfnaaGreatDoorKc20
import Derived.Test.YtkgeoekcnlgfnaaGreatDoorKc24
set_option linter.unusedVariables false
set_option linter.unusedSimpArgs false
section
namespace Go.Proofs
open Go Go.Kx
open Vector (replicate)
open TryzI Tryz
def halberdref4_cipher.k1:Str:=([99#8,124#8,119#8,123#8,242#8,107#8,111#8,197#8,48#8,1#8,103#8,43#8,254#8,215#8,171#8,118#8,202#8,130#8,201#8,125#8,250#8,89#8,71#8,240#8,173#8,212#8,162#8,175#8,156#8,164#8,114#8,192#8,183#8,253#8,147#8,38#8,54#8,63#8,247#8,204#8,52#8,165#8,229#8,241#8,113#8,216#8,49#8,21#8,4#8,199#8,35#8,195#8,24#8,150#8,5#8,154#8,7#8,18#8,128#8,226#8,235#8,39#8,178#8,117#8,9#8,131#8,44#8,26#8,27#8,110#8,90#8,160#8,82#8,59#8,214#8,179#8,41#8,227#8,47#8,132#8,83#8,209#8,0#8,237#8,32#8,252#8,177#8,91#8,106#8,203#8,190#8,57#8,74#8,76#8,88#8,207#8,208#8,239#8,170#8,251#8,67#8,77#8,51#8,133#8,69#8,249#8,2#8,127#8,80#8,60#8,159#8,168#8,81#8,163#8,64#8,143#8,146#8,157#8,56#8,245#8,188#8,182#8,218#8,33#8,16#8,255#8,243#8,210#8,205#8,12#8,19#8,236#8,95#8,151#8,68#8,23#8,196#8,167#8,126#8,61#8,100#8,93#8,25#8,115#8,96#8,129#8,79#8,220#8,34#8,42#8,144#8,136#8,70#8,238#8,184#8,20#8,222#8,94#8,11#8,219#8,224#8,50#8,58#8,10#8,73#8,6#8,36#8,92#8,194#8,211#8,172#8,98#8,145#8,149#8,228#8,121#8,231#8,200#8,55#8,109#8,141#8,213#8,78#8,169#8,108#8,86#8,244#8,234#8,101#8,122#8,174#8,8#8,186#8,120#8,37#8,46#8,28#8,166#8,180#8,198#8,232#8,221#8,116#8,31#8,75#8,189#8,139#8,138#8,112#8,62#8,181#8,102#8,72#8,3#8,246#8,14#8,97#8,53#8,87#8,185#8,134#8,193#8,29#8,158#8,225#8,248#8,152#8,17#8,105#8,217#8,142#8,148#8,155#8,30#8,135#8,233#8,206#8,85#8,40#8,223#8,140#8,161#8,137#8,13#8,191#8,230#8,66#8,104#8,65#8,153#8,45#8,15#8,176#8,84#8,187#8,22#8]:Str)
def halberdref4_cipher.b0 (w_:List (Vx 8 4)) (s_:Str) (s0:Int × Vx 8 16):Option ((Int × Vx 8 16) ⊕ (Vx 8 16)) :=
 if s0.1<16 then (if 0≤s0.1∧s0.1<((s_).length:Int) then (if 0≤w64 (s0.1.tdiv 4)∧w64 (s0.1.tdiv 4)<((w_).length:Int) then (if 0≤s0.1.tmod 4∧s0.1.tmod 4<(4:Int) then (if 0≤s0.1∧s0.1<(16:Int) then (ltt (vp s0.2 ((s0.1).toNat) ((sg s_ s0.1) ^^^ (vg (lg w_ ((w64 (s0.1.tdiv 4)).toNat)) ((s0.1.tmod 4).toNat)))) fun (m_1:Vx 8 16)=>(ltt (w64 (s0.1+1)) fun (i1:Int)=>(some (.inl (i1,m_1))))) else none) else none) else none) else none) else (some (.inr s0.2))
def halberdref4_cipher.b2 (s1:Int × Vx 8 16) (s2:Int × Vx 8 16):Option ((Int × Vx 8 16) ⊕ (Vx 8 16)) :=
 if s2.1<16 then (if 0≤(w64 (s2.1+(w64 (4 * (s2.1.tmod 4))))).tmod 16∧(w64 (s2.1+(w64 (4 * (s2.1.tmod 4))))).tmod 16<(16:Int) then (if 0≤((vg s1.2 (((w64 (s2.1+(w64 (4 * (s2.1.tmod 4))))).tmod 16).toNat)).toNat:Int)∧((vg s1.2 (((w64 (s2.1+(w64 (4 * (s2.1.tmod 4))))).tmod 16).toNat)).toNat:Int)<((halberdref4_cipher.k1).length:Int) then (if 0≤s2.1∧s2.1<(16:Int) then (ltt (vp s2.2 ((s2.1).toNat) (sg halberdref4_cipher.k1 ((vg s1.2 (((w64 (s2.1+(w64 (4 * (s2.1.tmod 4))))).tmod 16).toNat)).toNat:Int))) fun (m_2:Vx 8 16)=>(ltt (w64 (s2.1+1)) fun (i2:Int)=>(some (.inl (i2,m_2))))) else none) else none) else none) else (some (.inr s2.2))
def halberdref4_cipher.b3 (w_:List (Vx 8 4)) (s1:Int × Vx 8 16) (j1:Vx 8 16) (s3:Int × Vx 8 16):Option ((Int × Vx 8 16) ⊕ (Vx 8 16)) :=
 if s3.1<16 then (if 0≤s3.1∧s3.1<(16:Int) then (if 0≤w64 ((w64 (4 * s1.1))+(w64 (s3.1.tdiv 4)))∧w64 ((w64 (4 * s1.1))+(w64 (s3.1.tdiv 4)))<((w_).length:Int) then (if 0≤s3.1.tmod 4∧s3.1.tmod 4<(4:Int) then (if 0≤s3.1∧s3.1<(16:Int) then (ltt (vp s3.2 ((s3.1).toNat) ((vg j1 ((s3.1).toNat)) ^^^ (vg (lg w_ ((w64 ((w64 (4 * s1.1))+(w64 (s3.1.tdiv 4)))).toNat)) ((s3.1.tmod 4).toNat)))) fun (m_3:Vx 8 16)=>(ltt (w64 (s3.1+1)) fun (i3:Int)=>(some (.inl (i3,m_3))))) else none) else none) else none) else none) else (some (.inr s3.2))
def halberdref4_cipher.b5 (s4:Int × Vx 8 16) (all1:BitVec 8) (s5:Int × Vx 8 16):Option ((Int × Vx 8 16) ⊕ (Vx 8 16)) :=
 if s5.1<3 then (if 0≤w64 (s4.1+s5.1)∧w64 (s4.1+s5.1)<(16:Int) then (if 0≤w64 (s4.1+s5.1)∧w64 (s4.1+s5.1)<(16:Int) then (if 0≤w64 ((w64 (s4.1+s5.1))+1)∧w64 ((w64 (s4.1+s5.1))+1)<(16:Int) then ((halberdref4_double ((vg s5.2 ((w64 (s4.1+s5.1)).toNat)) ^^^ (vg s5.2 ((w64 ((w64 (s4.1+s5.1))+1)).toNat)))).bind fun (r_2:BitVec 8)=>(if 0≤w64 (s4.1+s5.1)∧w64 (s4.1+s5.1)<(16:Int) then (ltt (vp s5.2 ((w64 (s4.1+s5.1)).toNat) (((vg s5.2 ((w64 (s4.1+s5.1)).toNat)) ^^^ all1) ^^^ r_2)) fun (m_4:Vx 8 16)=>(ltt (w64 (s5.1+1)) fun (i4:Int)=>(some (.inl (i4,m_4))))) else none)) else none) else none) else none) else (some (.inr s5.2))
def halberdref4_cipher.b4  (s4:Int × Vx 8 16):Option ((Int × Vx 8 16) ⊕ (Vx 8 16)) :=
 if s4.1<16 then (if 0≤s4.1∧s4.1<(16:Int) then (if 0≤w64 (s4.1+1)∧w64 (s4.1+1)<(16:Int) then (if 0≤w64 (s4.1+2)∧w64 (s4.1+2)<(16:Int) then (if 0≤w64 (s4.1+3)∧w64 (s4.1+3)<(16:Int) then (ltt ((((vg s4.2 ((s4.1).toNat)) ^^^ (vg s4.2 ((w64 (s4.1+1)).toNat))) ^^^ (vg s4.2 ((w64 (s4.1+2)).toNat))) ^^^ (vg s4.2 ((w64 (s4.1+3)).toNat))) fun (all1:BitVec 8)=>(if 0≤s4.1∧s4.1<(16:Int) then (ltt (vg s4.2 ((s4.1).toNat)) fun (first1:BitVec 8)=>((loop (halberdref4_cipher.b5 s4 all1) BIG (0,s4.2)).bind fun (t_6:Vx 8 16)=>(if 0≤w64 (s4.1+3)∧w64 (s4.1+3)<(16:Int) then (if 0≤w64 (s4.1+3)∧w64 (s4.1+3)<(16:Int) then ((halberdref4_double ((vg t_6 ((w64 (s4.1+3)).toNat)) ^^^ first1)).bind fun (r_3:BitVec 8)=>(if 0≤w64 (s4.1+3)∧w64 (s4.1+3)<(16:Int) then (ltt (vp t_6 ((w64 (s4.1+3)).toNat) (((vg t_6 ((w64 (s4.1+3)).toNat)) ^^^ all1) ^^^ r_3)) fun (m_5:Vx 8 16)=>(ltt (w64 (s4.1+4)) fun (c1:Int)=>(some (.inl (c1,m_5))))) else none)) else none) else none))) else none)) else none) else none) else none) else none) else (some (.inr s4.2))
def halberdref4_cipher.b1 (w_:List (Vx 8 4)) (rounds1:Int) (s1:Int × Vx 8 16):Option ((Int × Vx 8 16) ⊕ (Vx 8 16)) :=
 if s1.1≤rounds1 then ((loop (halberdref4_cipher.b2 s1) BIG (0,replicate 16 0#8)).bind fun (t_3:Vx 8 16)=>((if s1.1<rounds1 then ((loop (halberdref4_cipher.b4) BIG (0,t_3)).bind fun (t_5:Vx 8 16)=>(some t_5)) else (some t_3)).bind fun (j1:Vx 8 16)=>((loop (halberdref4_cipher.b3 w_ s1 j1) BIG (0,s1.2)).bind fun (t_4:Vx 8 16)=>(ltt (w64 (s1.1+1)) fun (r_1:Int)=>(some (.inl (r_1,t_4))))))) else (some (.inr s1.2))
def halberdref4_cipher (w_:List (Vx 8 4)) (s_:Str):Option (Str) :=
 (loop (halberdref4_cipher.b0 w_ s_) BIG (0,replicate 16 0#8)).bind fun (t_1:Vx 8 16)=>(ltt (w64 ((w64 (((w_).length:Int).tdiv 4)) - 1)) fun (rounds1:Int)=>((loop (halberdref4_cipher.b1 w_ rounds1) BIG (1,t_1)).bind fun (t_2:Vx 8 16)=>(some t_2.toList)))
end Go.Proofs
end

section
namespace Go.Proofs
open Go Go.Kx
open TryzI Tryz
def halberdref4_halves.b0 (s_:Str) (s0:BitVec 64 × BitVec 64 × Int):Option ((BitVec 64 × BitVec 64 × Int) ⊕ (BitVec 64 × BitVec 64)) :=
 if s0.2.2<8 then (if 0≤s0.2.2∧s0.2.2<((s_).length:Int) then (ltt ((s0.1 <<< 8) ||| ((sg s_ s0.2.2).setWidth 64)) fun (a_1:BitVec 64)=>(if 0≤w64 (8+s0.2.2)∧w64 (8+s0.2.2)<((s_).length:Int) then (ltt ((s0.2.1 <<< 8) ||| ((sg s_ (w64 (8+s0.2.2))).setWidth 64)) fun (b1:BitVec 64)=>(ltt (w64 (s0.2.2+1)) fun (i1:Int)=>(some (.inl (a_1,b1,i1))))) else none)) else none) else (some (.inr (s0.1,s0.2.1)))
def halberdref4_halves (s_:Str):Option (BitVec 64 × BitVec 64) :=
 (loop (halberdref4_halves.b0 s_) BIG (0#64,0#64,0)).bind fun (t_1:BitVec 64 × BitVec 64)=>(some (t_1.1,t_1.2))
end Go.Proofs
end

section
namespace Go.Proofs
open Go Go.Kx
open TryzI Tryz
def halberdref4_whole.b0  (s0:BitVec 64 × BitVec 64 × Int × List (BitVec 8)):Option ((BitVec 64 × BitVec 64 × Int × List (BitVec 8)) ⊕ (List (BitVec 8))) :=
 if 0≤s0.2.2.1 then (if 0≤s0.2.2.1∧s0.2.2.1<(16:Int) then (if (s0.2.2.1).toNat<(s0.2.2.2).length then (ltt (s0.2.2.2.set ((s0.2.2.1).toNat) ((s0.1 &&& 255#64).setWidth 8)) fun (m_1:List (BitVec 8))=>(if 0≤w64 (8+s0.2.2.1)∧w64 (8+s0.2.2.1)<(16:Int) then (if (w64 (8+s0.2.2.1)).toNat<(m_1).length then (ltt (m_1.set ((w64 (8+s0.2.2.1)).toNat) ((s0.2.1 &&& 255#64).setWidth 8)) fun (m_2:List (BitVec 8))=>(ltt (w64 (s0.2.2.1 - 1)) fun (i1:Int)=>(some (.inl (s0.1 >>> 8,s0.2.1 >>> 8,i1,m_2))))) else none) else none)) else none) else none) else (some (.inr s0.2.2.2))
def halberdref4_whole (a_:BitVec 64) (b:BitVec 64):Option (Str) :=
 (loop (halberdref4_whole.b0) BIG (a_,b,7,List.replicate 16 0#8)).bind fun (t_1:List (BitVec 8))=>(if (t_1).length=16 then (some t_1) else none)
end Go.Proofs
end

section
namespace Go.Proofs
open Go Go.Kx
open TryzI Tryz
def halberdref4_ghash.b0 (s_:Str) (r_1:BitVec 64 × BitVec 64) (s0:BitVec 64 × BitVec 64 × Int):Option ((BitVec 64 × BitVec 64 × Int) ⊕ (BitVec 64 × BitVec 64)) :=
 if (w64 (s0.2.2+16))≤((s_).length:Int) then (if 0≤w64 (s0.2.2+16) then (if 0≤s0.2.2 then (if (w64 (s0.2.2+16)).toNat≤(s_).length then (if (s0.2.2).toNat≤(w64 (s0.2.2+16)).toNat then ((halberdref4_halves (sub s_ ((s0.2.2).toNat) ((w64 (s0.2.2+16)).toNat))).bind fun (r_2:BitVec 64 × BitVec 64)=>((halberdref4_times (s0.1 ^^^ r_2.1) (s0.2.1 ^^^ r_2.2) r_1.1 r_1.2).bind fun (r_3:BitVec 64 × BitVec 64)=>(ltt (w64 (s0.2.2+16)) fun (i1:Int)=>(some (.inl (r_3.1,r_3.2,i1)))))) else none) else none) else none) else none) else (some (.inr (s0.1,s0.2.1)))
def halberdref4_ghash (h:Str) (s_:Str):Option (Str) :=
 (halberdref4_halves h).bind fun (r_1:BitVec 64 × BitVec 64)=>((loop (halberdref4_ghash.b0 s_ r_1) BIG (0#64,0#64,0)).bind fun (t_1:BitVec 64 × BitVec 64)=>((halberdref4_whole t_1.1 t_1.2).bind fun (r_4:Str)=>(some r_4)))
end Go.Proofs
end

section
namespace Go.Proofs
open Go Go.Kx
open TryzI Tryz
def halberdref4_counter.b1 (s_:Str) (s0:Int × List (BitVec 8)) (r_2:Str) (s1:Int × List (BitVec 8)):Option ((Int × List (BitVec 8)) ⊕ (List (BitVec 8))) :=
 if s1.1<16 then (if (w64 (s0.1+s1.1))<((s_).length:Int) then (if 0≤w64 (s0.1+s1.1)∧w64 (s0.1+s1.1)<((s_).length:Int) then (if 0≤s1.1∧s1.1<((r_2).length:Int) then (if 0≤w64 (s0.1+s1.1)∧w64 (s0.1+s1.1)<((((s_).length:Int)).toNat:Int) then (if (w64 (s0.1+s1.1)).toNat<(s1.2).length then (ltt (s1.2.set ((w64 (s0.1+s1.1)).toNat) ((sg s_ (w64 (s0.1+s1.1))) ^^^ (sg r_2 s1.1))) fun (m_1:List (BitVec 8))=>(ltt (w64 (s1.1+1)) fun (j1:Int)=>(some (.inl (j1,m_1))))) else none) else none) else none) else none) else (some (.inr s1.2))) else (some (.inr s1.2))
def halberdref4_counter.b0 (w_:List (Vx 8 4)) (nonce:Str) (from_:Int) (s_:Str) (s0:Int × List (BitVec 8)):Option ((Int × List (BitVec 8)) ⊕ (List (BitVec 8))) :=
 if s0.1<((s_).length:Int) then ((halberdref1_Be (w64 (from_+(w64 (s0.1.tdiv 16)))) 4).bind fun (r_1:Str)=>(if (nonce).length+(r_1).length≤4611686018427387904 then ((halberdref4_cipher w_ (nonce++r_1)).bind fun (r_2:Str)=>((loop (halberdref4_counter.b1 s_ s0 r_2) BIG (0,s0.2)).bind fun (t_2:List (BitVec 8))=>(ltt (w64 (s0.1+16)) fun (i1:Int)=>(some (.inl (i1,t_2)))))) else none)) else (some (.inr s0.2))
def halberdref4_counter (w_:List (Vx 8 4)) (nonce:Str) (from_:Int) (s_:Str):Option (Str) :=
 if 0≤((s_).length:Int)∧((s_).length:Int)≤17592186044416 then ((loop (halberdref4_counter.b0 w_ nonce from_ s_) BIG (0,List.replicate ((((s_).length:Int)).toNat) 0#8)).bind fun (t_1:List (BitVec 8))=>(if (t_1).length=(((s_).length:Int)).toNat then (some t_1) else none)) else none
end Go.Proofs
end

section
namespace Go.Proofs
open Go Go.Kx
def ld (s:Str) (a:Nat):E2:=(be8 s a 8,be8 s (a+8) 8)
theorem load_eq (b:Str) (h:16≤b.length) (h2:b.length<1152921504606846976):gcm_load b=some (ld b 0):=by
 unfold gcm_load
 refine bind_i (v:=ld b 0) (loop_fn (fun k=>((k:Int),be8 b 0 k,be8 b 8 k)) 8 _ (by omega) rfl (fun k hk=>?_) ?_) rfl
 ·have e1:w64 ((k:Int)+1)=((k+1:Nat):Int):=w64_add (b:=1) (by omega)
  have e2:w64 (8+(k:Int))=((8+k:Nat):Int):=w64_add (a:=8) (by omega)
  unfold gcm_load.b0
  simp only [e1,e2,Int.toNat_natCast,lg_getD]
  clear e1 e2
  refine if_i (by omega) (if_i (by omega) (if_i (by omega) ?_))
  simp only [be8,Nat.zero_add]
 ·exact if_n (by show ¬ (((8:Nat):Int)<8); omega) rfl
def by16 (e:E2):Str:=hexW e.1 8++hexW e.2 8
theorem by16_length (e:E2):(by16 e).length=16:=by simp [by16,hexW_length]
theorem byV_at (e:E2) (i:Nat) (hi:i<16):(by16 e).getD i 0#8=if i<8 then (e.1 >>> (8 * (7 - i))).setWidth 8 else (e.2 >>> (8 * (7 - (i - 8)))).setWidth 8:=by
 unfold by16 hexW
 rw [List.getD_eq_getElem?_getD,List.getElem?_append]
 by_cases c:i<8
 ·simp [c]
 ·simp [c,show i - 8<8 by omega]
theorem ebytes_eq (e:E2) : ∃ V:Vx 8 16,V.toList=by16 e∧gcm_element_bytes e.1 e.2=some V:=by
 refine ⟨Vector.ofFn fun i=>(by16 e).getD i.val 0#8,?_,?_⟩
 ·refine List.ext_getElem (by simp [by16_length]) fun i h1 h2=>?_
  simp [List.getD_eq_getElem?_getD,h2]
 ·unfold gcm_element_bytes
  have key : ∀ k,k≤8 → ∃ V:Vx 8 16,(∀ i,i<16 → vg V i=if (i<k ∨ (8≤i∧i<8+k)) then (by16 e).getD i 0#8 else 0#8)∧True:=fun k hk =>
   ⟨Vector.ofFn fun i=>if (i.val<k ∨ (8≤i.val∧i.val<8+k)) then (by16 e).getD i.val 0#8 else 0#8,fun i hi=>by rw [vg_ofFn hi],trivial⟩
  refine bind_i (loop_fn (fun k=>((k:Int),(Vector.ofFn fun i=>if (i.val<k ∨ (8≤i.val∧i.val<8+k)) then (by16 e).getD i.val 0#8 else 0#8:Vx 8 16))) 8 _ (by omega) ?_ (fun k hk=>?_) ?_) rfl
  ·refine Prod.ext rfl (vec_ext fun i hi=>?_)
   rw [vg_eq' hi,vg_ofFn hi,if_neg (by omega)]
   simp
  ·have e1:w64 ((k:Int)+1)=((k+1:Nat):Int):=w64_add (b:=1) (by omega)
   have e2:w64 (8+(k:Int))=((8+k:Nat):Int):=w64_add (a:=8) (by omega)
   have e3:w64 (8 * (k:Int))=((8 * k:Nat):Int):=w64_mul (a:=8) (by omega)
   have e4:w64 (56 - ((8 * k:Nat):Int))=((56 - 8 * k:Nat):Int):=w64_sub (a:=56) (by omega) (by omega)
   unfold gcm_element_bytes.b0
   simp only [e1,e2,e3,e4,Int.toNat_natCast]
   clear e1 e2 e3 e4
   refine if_i (by omega) (if_i (by omega) (if_i (by omega) (if_i (by omega) (ltt_i fun m hm=>if_i (by omega) (ltt_i fun m2 hm2=>?_)))))
   have:m2=(Vector.ofFn fun i=>if (i.val<k+1 ∨ (8≤i.val∧i.val<8+(k+1))) then (by16 e).getD i.val 0#8 else 0#8:Vx 8 16):=by
    rw [hm2,hm]
    refine vec_ext fun i hi=>?_
    rw [vg_vp (by omega) hi,vg_vp (by omega) hi,vg_ofFn hi,vg_ofFn hi]
    dsimp only
    by_cases c1:8+k=i
    ·rw [if_pos c1,if_pos (by omega),byV_at e i hi,if_neg (by omega),show 8 * (7 - (i - 8))=56 - 8 * k by omega]
    ·rw [if_neg c1]
     by_cases c2:k=i
     ·rw [if_pos c2,if_pos (by omega),byV_at e i hi,if_pos (by omega),show 8 * (7 - i)=56 - 8 * k by omega]
     ·rw [if_neg c2]
      by_cases c3:(i<k ∨ (8≤i∧i<8+k))
      ·rw [if_pos c3,if_pos (by omega)]
      ·rw [if_neg c3,if_neg (by omega)]
   rw [this]
  ·refine if_n (by show ¬ (((8:Nat):Int)<8); omega) (congrArg some (congrArg Sum.inr ?_))
   refine vec_ext fun i hi=>?_
   rw [vg_ofFn hi,vg_ofFn hi,if_pos (by omega)]
theorem digit_lt (x:BitVec 64):(x &&& 15#64).toNat<16:=by
 rw [BitVec.toNat_and]
 exact Nat.lt_of_le_of_lt Nat.and_le_right (by decide)
theorem digit_bit (x:BitVec 64) (s t:Nat) (ht:t<4):((x >>> s) &&& 15#64).toNat.testBit t=x.getLsbD (s+t):=by
 rw [BitVec.toNat_and,Nat.testBit_and,BitVec.testBit_toNat,BitVec.getLsbD_ushiftRight]
 have:(15#64).toNat.testBit t=true:=by
  rcases t with _ | _ | _ | _ | t <;> first | decide | omega
 rw [this,Bool.and_true]
theorem add_eq (h y:E2) (b:Str) (hb:16≤b.length) (hb2:b.length<1152921504606846976):gcm_sum_add (tabV h 4) foldV y.1 y.2 b=some (prod (xr (ld b 0) y) h):=by
 unfold gcm_sum_add
 refine bind_i (load_eq b hb hb2) ?_
 generalize hx:xr (ld b 0) y=x
 have hx1:(ld b 0).1 ^^^ y.1=x.1:=by rw [← hx]; rfl
 have hx2:(ld b 0).2 ^^^ y.2=x.2:=by rw [← hx]; rfl
 refine bind_i (v:=prod x h) (loop_fn (fun i=>((i:Int),(SS x h (128 - 4 * i) (4 * i)).1,(SS x h (128 - 4 * i) (4 * i)).2)) 32 _ (by omega) rfl (fun i hi=>?_) ?_) rfl
 ·have e1:w64 ((i:Int)+1)=((i+1:Nat):Int):=w64_add (b:=1) (by omega)
  have e2:(i:Int).tmod 16=((i % 16:Nat):Int):=tmodN' i 16
  have e3:w64 (4 * ((i % 16:Nat):Int))=((4 * (i % 16):Nat):Int):=w64_mul (a:=4) (by omega)
  unfold gcm_sum_add.b0
  simp only [e1,e2,e3,Int.toNat_natCast,hx1,hx2]
  clear e1 e2 e3
  have hd : ∃ d:BitVec 64,d=(if i<16 then x.2 >>> (4 * (i % 16)) else x.1 >>> (4 * (i % 16))) &&& 15#64:=⟨_,rfl⟩
  obtain ⟨d,hd⟩:=hd
  have hdl:d.toNat<16:=by rw [hd]; exact digit_lt _
  have hbit : ∀ t,t<4 → d.toNat.testBit (3 - t)=bitE x (128 - 4 * (i+1)+t):=by
   intro t ht
   unfold bitE
   by_cases c:i<16
   ·rw [if_pos c] at hd
    rw [hd,digit_bit _ _ _ (by omega),if_neg (by omega),show 4 * (i % 16)+(3 - t)=127 - (128 - 4 * (i+1)+t) by omega]
   ·rw [if_neg c] at hd
    rw [hd,digit_bit _ _ _ (by omega),if_pos (by omega),show 4 * (i % 16)+(3 - t)=63 - (128 - 4 * (i+1)+t) by omega]
  refine if_i (by omega) (if_i (by omega) (ltt_i fun d1 hd1=>bind_i (v:=d) ?_ ?_))
  ·by_cases c:i<16
   ·rw [if_pos c] at hd
    refine if_n (by omega) ?_
    rw [hd1,hd]
   ·rw [if_neg c] at hd
    refine if_i (by omega) (if_i (by omega) (ltt_i fun d2 hd2=>?_))
    rw [hd2,hd]
  ·have hz:=digit_lt (SS x h (128 - 4 * i) (4 * i)).2
   refine if_i (by omega) (if_i (by omega) (if_i (by omega) ?_))
   have hm:128 - 4 * (i+1)+4=128 - 4 * i:=by omega
   have hS:=SS4 x h (128 - 4 * (i+1)) (4 * i)
   rw [hm,hp4_eq] at hS
   have ht:vg (tabV h 4) d.toNat=xr (xr (xr (xr z2 (sel (bitE x (128 - 4 * (i+1))) (hp 0 h))) (sel (bitE x (128 - 4 * (i+1)+1)) (hp 1 h))) (sel (bitE x (128 - 4 * (i+1)+2)) (hp 2 h))) (sel (bitE x (128 - 4 * (i+1)+3)) (hp 3 h)):=by
    rw [tabV,vg_ofFn hdl]
    simp only [tabF]
    rw [hbit 0 (by decide),hbit 1 (by decide),hbit 2 (by decide),hbit 3 (by decide),Nat.add_zero]
   rw [← ht,xr_comm] at hS
   rw [show 4 * (i+1)=4 * i+4 by omega] at hS ⊢
   rw [hS]
   rfl
 ·exact if_n (by show ¬ (((32:Nat):Int)<32); omega) rfl
def gh (h:E2) (s:Str) (j:Nat) (y:E2):E2:=prod (xr (ld s (16 * j)) y) h
def ghs (h:E2) (s:Str) (y:E2):E2:=iter (gh h s) (s.length / 16) y
theorem ld_sub (s:Str) (a b:Nat) (h:16≤b - a):ld (sub s a b) 0=ld s a:=by
 unfold ld
 rw [be8_sub s a b 0 8 (by omega),be8_sub s a b (0+8) 8 (by omega)]
 rfl
def fil (s:Str):Str:=s++List.replicate ((16 - s.length % 16) % 16) 0#8
theorem fil_length (s:Str):(fil s).length=16 * ((s.length+15) / 16):=by
 unfold fil; simp; omega
theorem ld_app_l (s t:Str) (a:Nat) (h:a+16≤s.length):ld (s++t) a=ld s a:=by
 have hsub:sub (s++t) a (a+16)=sub s a (a+16):=sub_app_l s t a (a+16) h
 rw [← ld_sub (s++t) a (a+16) (by omega),hsub,ld_sub s a (a+16) (by omega)]
theorem ld_app_r (s t:Str) (a:Nat):ld (s++t) (s.length+a)=ld t a:=by
 have : ∀ n a,be8 (s++t) (s.length+a) n=be8 t a n:=by
  intro n a
  induction n with
  | zero=>rfl
  | succ n ih =>
   simp only [be8,ih]
   congr 2
   rw [List.getD_eq_getElem?_getD,List.getD_eq_getElem?_getD,List.getElem?_append_right (by omega)]
   congr 2
   omega
 unfold ld
 rw [this,Nat.add_assoc,this]
theorem ghs_app (h:E2) (s t:Str) (y:E2) (hs:s.length % 16=0):ghs h (s++t) y=ghs h t (ghs h s y):=by
 unfold ghs
 have hl:(s++t).length / 16=s.length / 16+t.length / 16:=by rw [List.length_append]; omega
 rw [hl,iter_add]
 have h1:iter (gh h (s++t)) (s.length / 16) y=iter (gh h s) (s.length / 16) y:=iter_congr fun k hk x=>by
  unfold gh
  rw [ld_app_l s t _ (by omega)]
 rw [h1]
 refine iter_congr fun k hk x=>?_
 unfold gh
 rw [show 16 * (s.length / 16+k)=s.length+16 * k by omega,ld_app_r]
theorem getD_zeros (b:Str) (n j:Nat):(b++List.replicate n 0#8).getD j 0#8=b.getD j 0#8:=by
 rw [List.getD_eq_getElem?_getD,List.getD_eq_getElem?_getD,List.getElem?_append]
 by_cases c:j<b.length
 ·rw [if_pos c]
 ·rw [if_neg c,List.getElem?_eq_none (l:=b) (by omega),List.getElem?_replicate]
  split <;> rfl
theorem all_b0 (h y:E2) (b:Str) (hb:b.length<1152921504606846976):loop (gcm_sum_all.b0 (tabV h 4) foldV b) BIG (0,y.1,y.2)=some (16 * (b.length / 16),(iter (gh h b) (b.length / 16) y).1,(iter (gh h b) (b.length / 16) y).2):=by
 refine loop_fn (fun k=>(16 * k,(iter (gh h b) k y).1,(iter (gh h b) k y).2)) (b.length / 16) _ (by omega) rfl (fun k hk=>?_) ?_
 ·unfold gcm_sum_all.b0
  have hl:(sub b (16 * k) b.length).length=b.length - 16 * k:=sub_length (Nat.le_refl _)
  refine if_i (by simp only; omega) (bind_i (add_eq h _ _ (by rw [hl]; omega) (by rw [hl]; omega)) (if_i (by simp only; omega) (if_i (by simp only; omega) ?_)))
  simp only
  rw [ld_sub _ _ _ (by omega),show 16 * k+16=16 * (k+1) by omega]
  rfl
 ·unfold gcm_sum_all.b0
  exact if_n (by simp only; omega) rfl
theorem all_eq (h y:E2) (b:Str) (hb:b.length<1152921504606846976):gcm_sum_all (tabV h 4) foldV y.1 y.2 b=some (ghs h (fil b) y):=by
 unfold gcm_sum_all
 refine bind_i (all_b0 h y b hb) ?_
 simp only
 by_cases c:b.length % 16=0
 ·refine if_n (by omega) ?_
  have:fil b=b:=by unfold fil; rw [c]; simp
  rw [this]; rfl
 ·refine if_i (by omega) (ltt_i fun m hm=>?_)
  have hlen:(fil b).length / 16=b.length / 16+1:=by rw [fil_length]; omega
  have hml:m.toList=sub (fil b) (16 * (b.length / 16)) (16 * (b.length / 16)+16):=by
   have hsl:(sub b (16 * (b.length / 16)) b.length).length=b.length - 16 * (b.length / 16):=sub_length (Nat.le_refl _)
   have htk:(sub b (16 * (b.length / 16)) b.length).take (min (b.length - 16 * (b.length / 16)) 16)=sub b (16 * (b.length / 16)) b.length:=List.take_of_length_le (by rw [hsl]; omega)
   rw [htk] at hm
   refine List.ext_getElem (by rw [sub_length (by rw [fil_length]; omega)]; simp) fun i h1 h2=>?_
   have hi:i<16:=by simpa using h1
   have hA:m.toList[i]=vg m i:=by rw [vg_eq' hi]; simp
   have hgen : ∀ (l:Str) (V:Vx 8 16) (o:Nat),o+l.length≤16 → ∀ i,i<16 → vg (vsp V o l) i=if o≤i∧i<o+l.length then l.getD (i - o) 0#8 else vg V i:=by
    intro l
    induction l with
    | nil=>intro V o _ i _; rw [if_neg (by simp)]; rfl
    | cons x r ih =>
     intro V o ho i hi
     simp only [List.length_cons] at ho ⊢
     show vg (vsp (vp V o x) (o+1) r) i=_
     rw [ih (vp V o x) (o+1) (by omega) i hi,vg_vp (by omega) hi]
     by_cases c1:o=i
     ·subst c1
      rw [if_neg (by omega),if_pos rfl,if_pos (by omega),Nat.sub_self]; rfl
     ·by_cases c2:o+1≤i∧i<o+1+r.length
      ·rw [if_pos c2,if_pos (by omega),show i - o=(i - (o+1))+1 by omega]; rfl
      ·rw [if_neg c2,if_neg c1,if_neg (by omega)]
   rw [hA,hm,hgen _ _ 0 (by rw [hsl]; omega) i hi,hsl]
   have hR:(sub (fil b) (16 * (b.length / 16)) (16 * (b.length / 16)+16))[i]=(fil b).getD (16 * (b.length / 16)+i) 0#8:=by
    rw [← sub_getD _ _ (16 * (b.length / 16)+16) i (by omega),List.getD_eq_getElem?_getD,List.getElem?_eq_getElem h2]; rfl
   rw [hR]
   unfold fil
   rw [getD_zeros]
   by_cases ci:16 * (b.length / 16)+i<b.length
   ·rw [if_pos (by omega),Nat.sub_zero,sub_getD _ _ _ _ (by omega)]
   ·rw [if_neg (by omega),vg_eq' hi,List.getD_eq_getElem?_getD,List.getElem?_eq_none (by omega)]
    simp
  refine bind_i (add_eq h _ _ (by rw [hml,sub_length (by rw [fil_length]; omega)]; omega) (by rw [hml,sub_length (by rw [fil_length]; omega)]; omega)) ?_
  rw [hml,ld_sub _ _ _ (by omega)]
  have:ghs h (fil b) y=gh h (fil b) (b.length / 16) (iter (gh h (fil b)) (b.length / 16) y):=by unfold ghs; rw [hlen]; rfl
  rw [this]
  have h2:iter (gh h (fil b)) (b.length / 16) y=iter (gh h b) (b.length / 16) y:=iter_congr fun k hk x=>by
   unfold gh fil
   rw [ld_app_l b _ _ (by omega)]
  rw [h2]
  rfl
end Go.Proofs
end

section
namespace Go.Proofs
open Go Go.Kx
open TryzI Tryz
def halberdref4_schedule.k1:Str:=([99#8,124#8,119#8,123#8,242#8,107#8,111#8,197#8,48#8,1#8,103#8,43#8,254#8,215#8,171#8,118#8,202#8,130#8,201#8,125#8,250#8,89#8,71#8,240#8,173#8,212#8,162#8,175#8,156#8,164#8,114#8,192#8,183#8,253#8,147#8,38#8,54#8,63#8,247#8,204#8,52#8,165#8,229#8,241#8,113#8,216#8,49#8,21#8,4#8,199#8,35#8,195#8,24#8,150#8,5#8,154#8,7#8,18#8,128#8,226#8,235#8,39#8,178#8,117#8,9#8,131#8,44#8,26#8,27#8,110#8,90#8,160#8,82#8,59#8,214#8,179#8,41#8,227#8,47#8,132#8,83#8,209#8,0#8,237#8,32#8,252#8,177#8,91#8,106#8,203#8,190#8,57#8,74#8,76#8,88#8,207#8,208#8,239#8,170#8,251#8,67#8,77#8,51#8,133#8,69#8,249#8,2#8,127#8,80#8,60#8,159#8,168#8,81#8,163#8,64#8,143#8,146#8,157#8,56#8,245#8,188#8,182#8,218#8,33#8,16#8,255#8,243#8,210#8,205#8,12#8,19#8,236#8,95#8,151#8,68#8,23#8,196#8,167#8,126#8,61#8,100#8,93#8,25#8,115#8,96#8,129#8,79#8,220#8,34#8,42#8,144#8,136#8,70#8,238#8,184#8,20#8,222#8,94#8,11#8,219#8,224#8,50#8,58#8,10#8,73#8,6#8,36#8,92#8,194#8,211#8,172#8,98#8,145#8,149#8,228#8,121#8,231#8,200#8,55#8,109#8,141#8,213#8,78#8,169#8,108#8,86#8,244#8,234#8,101#8,122#8,174#8,8#8,186#8,120#8,37#8,46#8,28#8,166#8,180#8,198#8,232#8,221#8,116#8,31#8,75#8,189#8,139#8,138#8,112#8,62#8,181#8,102#8,72#8,3#8,246#8,14#8,97#8,53#8,87#8,185#8,134#8,193#8,29#8,158#8,225#8,248#8,152#8,17#8,105#8,217#8,142#8,148#8,155#8,30#8,135#8,233#8,206#8,85#8,40#8,223#8,140#8,161#8,137#8,13#8,191#8,230#8,66#8,104#8,65#8,153#8,45#8,15#8,176#8,84#8,187#8,22#8]:Str)
def halberdref4_schedule.b0 (key:Str) (k_1:Int) (s0:Int × List (Vx 8 4)):Option ((Int × List (Vx 8 4)) ⊕ (List (Vx 8 4))) :=
 if s0.1<k_1 then (if 0≤w64 (4 * s0.1)∧w64 (4 * s0.1)<((key).length:Int) then (if 0≤w64 ((w64 (4 * s0.1))+1)∧w64 ((w64 (4 * s0.1))+1)<((key).length:Int) then (if 0≤w64 ((w64 (4 * s0.1))+2)∧w64 ((w64 (4 * s0.1))+2)<((key).length:Int) then (if 0≤w64 ((w64 (4 * s0.1))+3)∧w64 ((w64 (4 * s0.1))+3)<((key).length:Int) then (if (s0.2).length+(([(#v[sg key (w64 (4 * s0.1)),sg key (w64 ((w64 (4 * s0.1))+1)),sg key (w64 ((w64 (4 * s0.1))+2)),sg key (w64 ((w64 (4 * s0.1))+3))]:Vx 8 4)]:List (Vx 8 4))).length≤35184372088832 then (ltt (s0.2++([(#v[sg key (w64 (4 * s0.1)),sg key (w64 ((w64 (4 * s0.1))+1)),sg key (w64 ((w64 (4 * s0.1))+2)),sg key (w64 ((w64 (4 * s0.1))+3))]:Vx 8 4)]:List (Vx 8 4))) fun (l1:List (Vx 8 4))=>(ltt (w64 (s0.1+1)) fun (i1:Int)=>(some (.inl (i1,l1))))) else none) else none) else none) else none) else none) else (some (.inr s0.2))
def halberdref4_schedule.b2 (k_1:Int) (s1:BitVec 8 × Int × List (Vx 8 4)) (s2:Int × Vx 8 4):Option ((Int × Vx 8 4) ⊕ (Vx 8 4)) :=
 if s2.1<4 then (if 0≤s2.1∧s2.1<(4:Int) then (if 0≤w64 (s1.2.1 - k_1)∧w64 (s1.2.1 - k_1)<((s1.2.2).length:Int) then (if 0≤s2.1∧s2.1<(4:Int) then (if 0≤s2.1∧s2.1<(4:Int) then (ltt (vp s2.2 ((s2.1).toNat) ((vg s2.2 ((s2.1).toNat)) ^^^ (vg (lg s1.2.2 ((w64 (s1.2.1 - k_1)).toNat)) ((s2.1).toNat)))) fun (m_2:Vx 8 4)=>(ltt (w64 (s2.1+1)) fun (j2:Int)=>(some (.inl (j2,m_2))))) else none) else none) else none) else none) else (some (.inr s2.2))
def halberdref4_schedule.b1 (k_1:Int) (s1:BitVec 8 × Int × List (Vx 8 4)):Option ((BitVec 8 × Int × List (Vx 8 4)) ⊕ (List (Vx 8 4))) :=
 if s1.2.1<(w64 (4 * (w64 (k_1+7)))) then (if 0≤w64 (s1.2.1 - 1)∧w64 (s1.2.1 - 1)<((s1.2.2).length:Int) then (ltt (lg s1.2.2 ((w64 (s1.2.1 - 1)).toNat)) fun (m_1:Vx 8 4)=>(if k_1 ≠ 0 then (ltt (decide ((s1.2.1.tmod k_1)=0)) fun (x1:Bool)=>((if x1=true then (if 0≤((vg m_1 1).toNat:Int)∧((vg m_1 1).toNat:Int)<((halberdref4_schedule.k1).length:Int) then (if 0≤((vg m_1 2).toNat:Int)∧((vg m_1 2).toNat:Int)<((halberdref4_schedule.k1).length:Int) then (if 0≤((vg m_1 3).toNat:Int)∧((vg m_1 3).toNat:Int)<((halberdref4_schedule.k1).length:Int) then (if 0≤((vg m_1 0).toNat:Int)∧((vg m_1 0).toNat:Int)<((halberdref4_schedule.k1).length:Int) then (ltt ((#v[(sg halberdref4_schedule.k1 ((vg m_1 1).toNat:Int)) ^^^ s1.1,sg halberdref4_schedule.k1 ((vg m_1 2).toNat:Int),sg halberdref4_schedule.k1 ((vg m_1 3).toNat:Int),sg halberdref4_schedule.k1 ((vg m_1 0).toNat:Int)]:Vx 8 4)) fun (m_3:Vx 8 4)=>((halberdref4_double s1.1).bind fun (r_1:BitVec 8)=>(some (r_1,m_3)))) else none) else none) else none) else none) else (if 6<k_1 then (if k_1 ≠ 0 then (ltt (decide ((s1.2.1.tmod k_1)=4)) fun (x2:Bool)=>(if x2=true then (if 0≤((vg m_1 0).toNat:Int)∧((vg m_1 0).toNat:Int)<((halberdref4_schedule.k1).length:Int) then (if 0≤((vg m_1 1).toNat:Int)∧((vg m_1 1).toNat:Int)<((halberdref4_schedule.k1).length:Int) then (if 0≤((vg m_1 2).toNat:Int)∧((vg m_1 2).toNat:Int)<((halberdref4_schedule.k1).length:Int) then (if 0≤((vg m_1 3).toNat:Int)∧((vg m_1 3).toNat:Int)<((halberdref4_schedule.k1).length:Int) then (ltt ((#v[sg halberdref4_schedule.k1 ((vg m_1 0).toNat:Int),sg halberdref4_schedule.k1 ((vg m_1 1).toNat:Int),sg halberdref4_schedule.k1 ((vg m_1 2).toNat:Int),sg halberdref4_schedule.k1 ((vg m_1 3).toNat:Int)]:Vx 8 4)) fun (m_4:Vx 8 4)=>(some (s1.1,m_4))) else none) else none) else none) else none) else (some (s1.1,m_1)))) else none) else (some (s1.1,m_1)))).bind fun (j1:BitVec 8 × Vx 8 4)=>((loop (halberdref4_schedule.b2 k_1 s1) BIG (0,j1.2)).bind fun (t_3:Vx 8 4)=>(if (s1.2.2).length+(([t_3]:List (Vx 8 4))).length≤35184372088832 then (ltt (s1.2.2++([t_3]:List (Vx 8 4))) fun (l2:List (Vx 8 4))=>(ltt (w64 (s1.2.1+1)) fun (i2:Int)=>(some (.inl (j1.1,i2,l2))))) else none)))) else none)) else none) else (some (.inr s1.2.2))
def halberdref4_schedule (key:Str):Option (List (Vx 8 4)) :=
 ltt (w64 (((key).length:Int).tdiv 4)) fun (k_1:Int)=>((loop (halberdref4_schedule.b0 key k_1) BIG (0,([]:List (Vx 8 4)))).bind fun (t_1:List (Vx 8 4))=>((loop (halberdref4_schedule.b1 k_1) BIG (1#8,k_1,t_1)).bind fun (t_2:List (Vx 8 4))=>(some t_2)))
end Go.Proofs
end

section
namespace Go.Proofs
open Go Go.Kx
def BOXV:Vx 8 256:=⟨halberdref4_schedule.k1.toArray,by kernel_rfl⟩
set_option maxRecDepth 100000 in
theorem table_eq:aes_table=some BOXV:=by kernel_rfl
end Go.Proofs
end

section
namespace Go.Proofs
open Go Go.Kx
open Vector (replicate)
abbrev V16:=Vx 8 16
abbrev V4:=Vx 8 4
def xorV (a b:V16):V16:=Vector.ofFn fun i=>vg a i.val ^^^ vg b i.val
def subV (s:V16):V16:=Vector.ofFn fun i=>vg BOXV (vg s ((i.val+4 * (i.val % 4)) % 16)).toNat
theorem enc_b0 (keys:List V16) (b:V16) (h:0<keys.length) (h2:keys.length<1000):loop (aes_Cipher_Encrypt.b0 keys) BIG (0,b)=some (xorV b (lg keys 0)):=by
 refine loop_fill b (fun i=>vg b i ^^^ vg (lg keys 0) i) id (by omega) (fun k v hk hv=>?_) (fun v=>?_)
 ·have e:=hv k (Nat.le_refl _) hk
  simp (disch:=omega) only [aes_Cipher_Encrypt.b0,ltt,if_pos,w64_id,Int.toNat_natCast,e]
  rfl
 ·simp (disch:=omega) only [aes_Cipher_Encrypt.b0,ltt,if_neg,id]
theorem enc_b2 (s1:Int × V16):loop (aes_Cipher_Encrypt.b2 BOXV s1) BIG (0,replicate 16 0#8)=some (subV s1.2):=by
 refine loop_fill _ (fun i=>vg BOXV (vg s1.2 ((i+4 * (i % 4)) % 16)).toNat) id (by omega) (fun k v hk hv=>?_) (fun v=>?_)
 ·have e1:((k:Int).tmod 4)=((k % 4:Nat):Int):=by rw [Int.tmod_eq_emod_of_nonneg (by omega)]; omega
  have e2:((k:Int)+4 * ((k % 4:Nat):Int)).tmod 16=(((k+4 * (k % 4)) % 16:Nat):Int):=by rw [Int.tmod_eq_emod_of_nonneg (by omega)]; omega
  simp (disch:=omega) only [aes_Cipher_Encrypt.b2,ltt,w64_id,e1,e2,if_pos,Int.toNat_natCast]
  rfl
 ·simp (disch:=omega) only [aes_Cipher_Encrypt.b2,ltt,if_neg,id]
theorem enc_b3 (keys:List V16) (s1:Int × V16) (j:V16) (h0:0≤s1.1) (h1:s1.1<keys.length):loop (aes_Cipher_Encrypt.b3 keys s1 j) BIG (0,s1.2)=some (xorV j (lg keys s1.1.toNat)):=by
 refine loop_fill _ (fun i=>vg j i ^^^ vg (lg keys s1.1.toNat) i) id (by omega) (fun k v hk hv=>?_) (fun v=>?_)
 ·simp (disch:=omega) only [aes_Cipher_Encrypt.b3,ltt,w64_id,if_pos,Int.toNat_natCast]
  rfl
 ·simp (disch:=omega) only [aes_Cipher_Encrypt.b3,ltt,if_neg,id]
def tw (x:BitVec 8):BitVec 8:=(x <<< 1) ^^^ (27#8 &&& (-(x >>> 7)))
theorem twice_eq (x:BitVec 8):aes_twice x=some (tw x):=rfl
def mixS (k:Nat) (v:V16):V16 :=
 vp (vp (vp (vp v (4 * k) (vg v (4 * k) ^^^ (vg v (4 * k) ^^^ vg v (4 * k+1) ^^^ vg v (4 * k+2) ^^^ vg v (4 * k+3) ^^^ tw (vg v (4 * k) ^^^ vg v (4 * k+1)))))
  (4 * k+1) (vg v (4 * k+1) ^^^ (vg v (4 * k) ^^^ vg v (4 * k+1) ^^^ vg v (4 * k+2) ^^^ vg v (4 * k+3) ^^^ tw (vg v (4 * k+1) ^^^ vg v (4 * k+2)))))
  (4 * k+2) (vg v (4 * k+2) ^^^ (vg v (4 * k) ^^^ vg v (4 * k+1) ^^^ vg v (4 * k+2) ^^^ vg v (4 * k+3) ^^^ tw (vg v (4 * k+2) ^^^ vg v (4 * k+3)))))
  (4 * k+3) (vg v (4 * k+3) ^^^ (vg v (4 * k) ^^^ vg v (4 * k+1) ^^^ vg v (4 * k+2) ^^^ vg v (4 * k+3) ^^^ tw (vg v (4 * k+3) ^^^ vg v (4 * k))))
def mixV (v:V16):V16:=iter mixS 4 v
theorem enc_b4_step (k:Nat) (hk:k<4) (u:V16):aes_Cipher_Encrypt.b4 (((4 * k:Nat):Int),u)=some (.inl (((4 * (k+1):Nat):Int),mixS k u)):=by
 have e1:w64 (((4 * k:Nat):Int)+1)=((4 * k+1:Nat):Int):=by rw [w64_id (by omega) (by omega)]; omega
 have e2:w64 (((4 * k:Nat):Int)+2)=((4 * k+2:Nat):Int):=by rw [w64_id (by omega) (by omega)]; omega
 have e3:w64 (((4 * k:Nat):Int)+3)=((4 * k+3:Nat):Int):=by rw [w64_id (by omega) (by omega)]; omega
 have e4:w64 (((4 * k:Nat):Int)+4)=((4 * (k+1):Nat):Int):=by rw [w64_id (by omega) (by omega)]; omega
 unfold aes_Cipher_Encrypt.b4
 simp only [e1,e2,e3,e4]
 iterate 5 refine if_i (by omega) ?_
 refine ltt_i fun p hp=>ltt_i fun q hq=>ltt_i fun r hr=>ltt_i fun s hs=>ltt_i fun all hall=>if_i (by omega) (bind_i (twice_eq _) (if_i (by omega) ?_))
 refine ltt_i fun m4 h4=>if_i (by omega) (bind_i (twice_eq _) (if_i (by omega) ?_))
 refine ltt_i fun m5 h5=>if_i (by omega) (bind_i (twice_eq _) (if_i (by omega) ?_))
 refine ltt_i fun m6 h6=>if_i (by omega) (bind_i (twice_eq _) (if_i (by omega) ?_))
 refine ltt_i fun m7 h7=>ltt_i fun i hi=>?_
 subst hi
 simp only [Int.toNat_natCast] at *
 have a5:vg m4 (4 * k+1)=q:=by rw [h4,vg_vp (by omega) (by omega),if_neg (by omega),hq]
 have a6:vg m5 (4 * k+2)=r:=by rw [h5,vg_vp (by omega) (by omega),if_neg (by omega),h4,vg_vp (by omega) (by omega),if_neg (by omega),hr]
 have a7:vg m6 (4 * k+3)=s:=by rw [h6,vg_vp (by omega) (by omega),if_neg (by omega),h5,vg_vp (by omega) (by omega),if_neg (by omega),h4,vg_vp (by omega) (by omega),if_neg (by omega),hs]
 have:m7=mixS k u:=by
  rw [h7,a7,h6,a6,h5,a5,h4, ← hp,hall]
  unfold mixS
  rw [← hp, ← hq, ← hr, ← hs]
 rw [this]
theorem enc_b4 (v:V16):loop aes_Cipher_Encrypt.b4 BIG (0,v)=some (mixV v):=by
 refine loop_iter (fun k=>(((4 * k:Nat):Int),iter mixS k v)) 4 _ (by omega) (fun k hk=>enc_b4_step k hk _) ?_
 show (if (((4 * 4:Nat):Int))<16 then _ else _)=_
 rw [if_neg (by omega)]
 rfl
def roundV (keys:List V16) (r:Nat) (v:V16):V16:=xorV (if r+1<keys.length then mixV (subV v) else subV v) (lg keys r)
def encV (keys:List V16) (b:V16):V16:=iter (fun k v=>roundV keys (k+1) v) (keys.length - 1) (xorV b (lg keys 0))
theorem enc_eq (keys:List V16) (b:V16) (h:0<keys.length) (h2:keys.length<1000):aes_Cipher_Encrypt BOXV keys b=some (encV keys b):=by
 have hl:loop (aes_Cipher_Encrypt.b1 BOXV keys) BIG (1,xorV b (lg keys 0))=some (encV keys b):=by
  refine loop_iter (fun k=>(((k+1:Nat):Int),iter (fun k v=>roundV keys (k+1) v) k (xorV b (lg keys 0)))) (keys.length - 1) _ (by omega) (fun k hk=>?_) ?_
  ·generalize hu:iter (fun k v=>roundV keys (k+1) v) k (xorV b (lg keys 0))=u
   have hu2:iter (fun k v=>roundV keys (k+1) v) (k+1) (xorV b (lg keys 0))=roundV keys (k+1) u:=by rw [← hu]; rfl
   have e1:w64 (((k+1:Nat):Int)+1)=((k+1+1:Nat):Int):=by rw [w64_id (by omega) (by omega)]; omega
   have e2:w64 ((keys.length:Int) - 1)=(keys.length:Int) - 1:=w64_id (by omega) (by omega)
   have h3:=fun j=>enc_b3 keys (((k+1:Nat):Int),u) j (by omega) (by show ((k+1:Nat):Int)<_; omega)
   simp only [hu2,aes_Cipher_Encrypt.b1,ltt,enc_b2,enc_b4,h3,Option.bind_some,e1,e2,Int.toNat_natCast]
   rw [if_pos (by omega)]
   by_cases hc:k+1+1<keys.length
   ·rw [if_pos (by omega)]
    simp only [Option.bind_some,h3,roundV,if_pos hc]
   ·rw [if_neg (by omega)]
    simp only [Option.bind_some,h3,roundV,if_neg hc]
  ·have e:(((keys.length - 1+1:Nat)):Int)=keys.length:=by omega
   simp (disch:=omega) only [aes_Cipher_Encrypt.b1,if_neg]
   rfl
 unfold aes_Cipher_Encrypt
 rw [enc_b0 keys b h h2]
 simp only [Option.bind_some,hl]
end Go.Proofs
end

section
namespace Go.Proofs
open Go Go.Kx
def keyV (w:List V4) (r:Nat):V16:=Vector.ofFn fun i=>vg (lg w (4 * r+i.val / 4)) (i.val % 4)
def keysOf (w:List V4):List V16:=(List.range (w.length / 4)).map (keyV w)
theorem keysOf_length (w:List V4):(keysOf w).length=w.length / 4:=by simp [keysOf]
theorem keysOf_lg (w:List V4) (r:Nat) (h:r<w.length / 4):lg (keysOf w) r=keyV w r:=by
 simp [lg,keysOf,List.getElem?_range h]
def toV (s:Str):V16:=Vector.ofFn fun i=>s.getD i.val 0#8
theorem tmodN (k m:Nat):((k:Int).tmod (m:Int))=((k % m:Nat):Int):=by
 rw [Int.tmod_eq_emod_of_nonneg (by omega)]; omega
theorem tdivN (k m:Nat):((k:Int).tdiv (m:Int))=((k / m:Nat):Int):=by
 rw [Int.tdiv_eq_ediv_of_nonneg (by omega)]; omega
end Go.Proofs
end

section
namespace Go.Proofs
open Go Go.Kx
def subW (t:V4):V4 := #v[vg BOXV (vg t 0).toNat,vg BOXV (vg t 1).toNat,vg BOXV (vg t 2).toNat,vg BOXV (vg t 3).toNat]
def rotW (t:V4) (r:BitVec 8):V4 := #v[vg BOXV (vg t 1).toNat ^^^ r,vg BOXV (vg t 2).toNat,vg BOXV (vg t 3).toNat,vg BOXV (vg t 0).toNat]
def tempW (n i:Nat) (s:BitVec 8 × List V4):BitVec 8 × V4 :=
 if i % n=0 then (tw s.1,rotW (lg s.2 (i - 1)) s.1) else if n=8∧i % n=4 then (s.1,subW (lg s.2 (i - 1))) else (s.1,lg s.2 (i - 1))
def kwV (key:Str) (i:Nat):V4 := #v[key.getD (4 * i) 0#8,key.getD (4 * i+1) 0#8,key.getD (4 * i+2) 0#8,key.getD (4 * i+3) 0#8]
def xorW (a b:V4):V4:=Vector.ofFn fun k=>vg a k.val ^^^ vg b k.val
def stepK (key:Str) (n i:Nat) (s:BitVec 8 × List V4):BitVec 8 × List V4 :=
 if i<n then (s.1,s.2++[kwV key i]) else ((tempW n i s).1,s.2++[xorW (tempW n i s).2 (lg s.2 (i - n))])
def Wst (key:Str) (n i:Nat):BitVec 8 × List V4:=iter (stepK key n) i (1#8,[])
theorem Wst_succ (key:Str) (n i:Nat):Wst key n (i+1)=stepK key n i (Wst key n i):=rfl
theorem Wst_len (key:Str) (n:Nat) : ∀ i,(Wst key n i).2.length=i
 | 0=>rfl
 | i+1=>by
  rw [Wst_succ]; unfold stepK
  have:=Wst_len key n i
  split <;> simp [this]
end Go.Proofs
end

section
namespace Go.Proofs
open Go Go.Kx
open Vector (replicate)
theorem vg_vsp {α:Type} [Inhabited α] {n:Nat} : ∀ (l:List α) (V:Vector α n) (o i:Nat),o+l.length≤n → i<n → vg (vsp V o l) i=if o≤i∧i<o+l.length then l.getD (i - o) default else vg V i
 | [],V,o,i,h,hi=>by
  rw [if_neg (by simp)]; rfl
 | x :: r,V,o,i,h,hi=>by
  simp only [List.length_cons] at h
  show vg (vsp (vp V o x) (o+1) r) i=_
  rw [vg_vsp r (vp V o x) (o+1) i (by omega) hi,vg_vp (by omega) hi]
  simp only [List.length_cons]
  by_cases h1:o=i
  ·subst h1
   rw [if_neg (by omega),if_pos rfl,if_pos (by omega)]
   simp
  ·by_cases h2:o+1≤i∧i<o+1+r.length
   ·rw [if_pos h2,if_pos (by omega)]
    have:i - o=(i - (o+1))+1:=by omega
    rw [this]; simp
   ·rw [if_neg h2,if_neg h1,if_neg (by omega)]
theorem vec_take {α:Type} [Inhabited α] {n:Nat} {V:Vector α n} {l:List α} (h:l.length=n) (i:Nat) (hi:i<n):vg (vsp V 0 l) i=l.getD i default:=by
 rw [vg_vsp l V 0 i (by omega) hi,if_pos (by omega),Nat.sub_zero]
theorem lg_app_l {α:Type} [Inhabited α] {a b:List α} {i:Nat} (h:i<a.length):lg (a++b) i=lg a i:=by
 simp [lg,List.getElem?_append_left h]
theorem lg_app_r {α:Type} [Inhabited α] {a:List α} {b:List α} {x:α}:lg (a++x :: b) a.length=x:=by
 simp [lg]
theorem set_app {α:Type} {a b:List α} {x y:α}:(a++x :: b).set a.length y=a++y :: b:=by
 rw [List.set_append_right _ _ (Nat.le_refl _),Nat.sub_self]; rfl
def zW:V4:=replicate 4 0#8
def padW (ws:List V4) (N:Nat):List V4:=ws++List.replicate (N - ws.length) zW
theorem padW_length (ws:List V4) (N:Nat) (h:ws.length≤N):(padW ws N).length=N:=by simp [padW]; omega
theorem padW_lg (ws:List V4) (N i:Nat) (h:i<ws.length):lg (padW ws N) i=lg ws i:=lg_app_l h
theorem padW_split (ws:List V4) (N:Nat) (h:ws.length<N):padW ws N=ws++zW :: List.replicate (N - ws.length - 1) zW:=by
 unfold padW
 have:N - ws.length=(N - ws.length - 1)+1:=by omega
 rw [this,List.replicate_succ]; simp
theorem padW_set (ws:List V4) (N:Nat) (x:V4) (h:ws.length<N):(padW ws N).set ws.length x=padW (ws++[x]) N:=by
 rw [padW_split ws N h,set_app]
 unfold padW
 simp [Nat.sub_sub]
theorem getD_take_sub (key:Str) (a k:Nat) (hk:k<4) (h:a+4≤key.length):((sub key a key.length).take 4).getD k default=key.getD (a+k) 0#8:=by
 simp only [sub,List.getD_eq_getElem?_getD]
 rw [List.getElem?_take,if_pos hk,List.getElem?_take,if_pos (by omega),List.getElem?_drop]
 rfl
theorem kw_at (key:Str) (i k:Nat) (hk:k<4):vg (kwV key i) k=key.getD (4 * i+k) 0#8:=by
 have:k=0 ∨ k=1 ∨ k=2 ∨ k=3:=by omega
 rcases this with rfl | rfl | rfl | rfl <;> rfl
theorem new_b1 (n i N:Nat) (r r0:BitVec 8) (ws:List V4) (t:V4) (h:n≤i) (hi:ws.length=i) (hn:0<n) (h2:i<N) (hN:N=4 * (n+7)) (h3:N<1000) :
  loop (aes_New.b1 (n:Int) (r0,(i:Int),padW ws N) (r,t)) BIG (0,padW ws N)=some (padW (ws++[xorW t (lg ws (i - n))]) N):=by
 have hlen : ∀ x:V4,(ws++x :: List.replicate (N - ws.length - 1) zW).length=N:=fun x=>by simp; omega
 have e1:w64 ((i:Int) - (n:Int))=((i - n:Nat):Int):=by rw [w64_id (by omega) (by omega)]; omega
 have e0:w64 (4 * w64 ((n:Int)+7))=(N:Int):=by rw [w64_id (x:=(n:Int)+7) (by omega) (by omega),w64_id (by omega) (by omega)]; omega
 let g:Nat → BitVec 8:=fun k=>vg (lg ws (i - n)) k ^^^ vg t k
 have hg:iter (fun k v=>vp v k (g k)) 4 zW=xorW t (lg ws (i - n)):=by
  refine vec_ext fun k hk=>?_
  have:k=0 ∨ k=1 ∨ k=2 ∨ k=3:=by omega
  have hx:vg (xorW t (lg ws (i - n))) k=g k:=by
   unfold xorW; rw [vg_ofFn hk]; exact BitVec.xor_comm _ _
  rw [hx]
  show vg (vp (vp (vp (vp zW 0 (g 0)) 1 (g 1)) 2 (g 2)) 3 (g 3)) k=g k
  rcases this with rfl | rfl | rfl | rfl <;> simp (disch:=omega) only [vg_vp,if_pos,if_neg] <;> simp
 have:=loop_iter (body:=aes_New.b1 (n:Int) (r0,(i:Int),padW ws N) (r,t)) (fun k=>((k:Int),ws++(iter (fun k v=>vp v k (g k)) k zW) :: List.replicate (N - ws.length - 1) zW)) 4 (padW (ws++[xorW t (lg ws (i - n))]) N) (by omega) (fun k hk=>?_) ?_
 ·rw [padW_split ws N (by omega)]
  rw [padW_split ws N (by omega)] at this
  exact this
 ·generalize hu:iter (fun k v=>vp v k (g k)) k zW=u
  have hu2:iter (fun k v=>vp v k (g k)) (k+1) zW=vp u k (g k):=by rw [← hu]; rfl
  have e2:w64 ((k:Int)+1)=((k+1:Nat):Int):=by rw [w64_id (by omega) (by omega)]; omega
  have hl:=hlen u
  unfold aes_New.b1
  simp only [e0,e1,e2,Int.toNat_natCast,hl]
  iterate 8 refine if_i (by omega) ?_
  refine ltt_i fun m hm=>?_
  have a1:lg (ws++u :: List.replicate (N - ws.length - 1) zW) i=u:=by rw [← hi]; exact lg_app_r
  have a2:lg (ws++u :: List.replicate (N - ws.length - 1) zW) (i - n)=lg ws (i - n):=lg_app_l (by omega)
  have a3 : ∀ x:V4,(ws++u :: List.replicate (N - ws.length - 1) zW).set i x=ws++x :: List.replicate (N - ws.length - 1) zW:=fun x=>by rw [← hi]; exact set_app
  rw [hm,a1,a2,a3,hu2]
 ·unfold aes_New.b1
  refine if_n (by omega) ?_
  rw [hg]
  have:=padW_set ws N (xorW t (lg ws (i - n))) (by omega)
  rw [padW_split ws N (by omega),set_app] at this
  rw [this]
theorem new_b2 (t:V4):loop (aes_New.b2 BOXV) BIG (0,t)=some (subW t):=by
 have h:=loop_fill (body:=aes_New.b2 BOXV) t (fun k=>vg BOXV (vg t k).toNat) id (by omega) (fun k v hk hv=>?_) (fun v=>?_)
 ·refine h.trans (congrArg some (vec_ext fun k hk=>?_))
  have:k=0 ∨ k=1 ∨ k=2 ∨ k=3:=by omega
  simp only [id,vg_ofFn hk]
  rcases this with rfl | rfl | rfl | rfl <;> rfl
 ·have e:=hv k (Nat.le_refl _) hk
  have e2:w64 ((k:Int)+1)=((k+1:Nat):Int):=by rw [w64_id (by omega) (by omega)]; omega
  unfold aes_New.b2
  simp only [e2,Int.toNat_natCast]
  iterate 3 refine if_i (by omega) ?_
  refine ltt_i fun m hm=>?_
  rw [hm,e]
 ·unfold aes_New.b2
  exact if_n (by omega) rfl
end Go.Proofs
end

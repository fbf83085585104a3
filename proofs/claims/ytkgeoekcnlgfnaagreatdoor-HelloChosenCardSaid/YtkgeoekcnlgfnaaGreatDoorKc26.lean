/-
  Part 26 of the proof of what several laws share.
-/
import Derived.Test.YtkgeoekcnlgfnaaGreatDoorKc1
import Derived.Test.YtkgeoekcnlgfnaaGreatDoorKc2
import Derived.Test.YtkgeoekcnlgfnaaGreatDoorKc3
import Derived.Test.YtkgeoekcnlgfnaaGreatDoorKc4
import Derived.Test.YtkgeoekcnlgfnaaGreatDoorKc5
import Derived.Test.YtkgeoekcnlgfnaaGreatDoorKc6
import Derived.Test.YtkgeoekcnlgfnaaGreatDoorKc7
import Derived.Test.YtkgeoekcnlgfnaaGreatDoorKc14
import Derived.Test.YtkgeoekcnlgfnaaGreatDoorKc15
import Derived.Test.YtkgeoekcnlgfnaaGreatDoorKc16
import Derived.Test.YtkgeoekcnlgfnaaGreatDoorKc17
import Derived.Test.YtkgeoekcnlgfnaaGreatDoorKc18
import Derived.Test.YtkgeoekcnlgfnaaGreatDoorKc19
import Derived.Test.YtkgeoekcnlgfnaaGreatDoorKc20
import Derived.Test.YtkgeoekcnlgfnaaGreatDoorKc21
import Derived.Test.YtkgeoekcnlgfnaaGreatDoorKc22
import Derived.Test.YtkgeoekcnlgfnaaGreatDoorKc24
import Derived.Test.YtkgeoekcnlgfnaaGreatDoorKc25
set_option linter.unusedVariables false
set_option linter.unusedSimpArgs false
section
namespace Go.Proofs
open Go Go.Kx
open Vector (replicate)
theorem new_b0_step (key:Str) (n i N:Nat) (hn:n=4 ∨ n=8) (hk:key.length=4 * n) (hN:N=4 * (n+7)) (hi:i<N) :
  aes_New.b0 key BOXV (n:Int) ((Wst key n i).1,(i:Int),padW (Wst key n i).2 N)=some (.inl ((Wst key n (i+1)).1,((i+1:Nat):Int),padW (Wst key n (i+1)).2 N)):=by
 have hl:=Wst_len key n i
 rw [Wst_succ]
 generalize Wst key n i=s at hl
 obtain ⟨r,ws⟩:=s
 simp only at hl
 have hp:=padW_length ws N (by omega)
 have e0:w64 (4 * w64 ((n:Int)+7))=(N:Int):=by rw [w64_id (x:=(n:Int)+7) (by omega) (by omega),w64_id (by omega) (by omega)]; omega
 have e2:(i:Int).tmod (n:Int)=((i % n:Nat):Int):=tmodN i n
 have e3:w64 ((i:Int)+1)=((i+1:Nat):Int):=by rw [w64_id (by omega) (by omega)]; omega
 by_cases hc:i<n
 ·have e4:w64 (4 * (i:Int))=((4 * i:Nat):Int):=by rw [w64_id (by omega) (by omega)]; omega
  unfold aes_New.b0
  simp only [e0,e3,e4,Int.toNat_natCast]
  refine if_i (by omega) (if_i (by omega) ?_)
  iterate 4 refine if_i (by omega) ?_
  refine ltt_i fun m hm=>?_
  have a1:lg (padW ws N) i=zW:=by rw [padW_split ws N (by omega), ← hl]; exact lg_app_r
  have hs:(sub key (4 * i) key.length).length=4 * n - 4 * i:=by rw [sub_length (Nat.le_refl _),hk]
  have hmin:min (sub key (4 * i) key.length).length (4 - 0)=4:=by rw [hs]; omega
  have a2:vsp zW 0 ((sub key (4 * i) key.length).take 4)=kwV key i:=by
   refine vec_ext fun k hk2=>?_
   rw [vec_take (by rw [List.length_take,hs]; omega) k hk2,getD_take_sub key (4 * i) k hk2 (by omega),kw_at key i k hk2]
  have a3:=padW_set ws N (kwV key i) (by omega)
  rw [hl] at a3
  rw [hm,a1,hmin,a2,a3]
  unfold stepK
  rw [if_pos hc]
 ·have e1:w64 ((i:Int) - 1)=((i - 1:Nat):Int):=by rw [w64_id (by omega) (by omega)]; omega
  unfold aes_New.b0
  simp only [e0,e1,e2,e3,Int.toNat_natCast]
  refine if_i (by omega) (if_n (by omega) ?_)
  iterate 2 refine if_i (by omega) ?_
  refine ltt_i fun m hm=>if_i (by omega) ?_
  rw [padW_lg ws N (i - 1) (by omega)] at hm
  have key2 : ∀ j:BitVec 8 × V4,j=tempW n i (r,ws) → ((loop (aes_New.b1 (n:Int) (r,(i:Int),padW ws N) j) BIG (0,padW ws N)).bind fun (t_2:List V4)=>(some (Sum.inl (β:=List V4) (j.1,((i+1:Nat):Int),t_2))))=some (.inl ((stepK key n i (r,ws)).1,((i+1:Nat):Int),padW (stepK key n i (r,ws)).2 N)):=by
   intro j hj
   refine bind_i (new_b1 n i N j.1 r ws j.2 (by omega) hl (by omega) (by omega) hN (by omega)) ?_
   rw [hj]
   unfold stepK
   rw [if_neg (by omega)]
  by_cases c0:i % n=0
  ·refine bind_i (v:=(tw r,rotW m r)) (if_i (by omega) ?_) (key2 _ ?_)
   ·exact ltt_i fun m3 h3=>bind_i (twice_eq _) (by rw [h3]; rfl)
   ·unfold tempW; rw [if_pos c0,hm]
  ·by_cases c1:n=8∧i % n=4
   ·refine bind_i (v:=(r,subW m)) (if_n (by omega) (if_i (by omega) (if_i (by omega) (if_i (by omega) (bind_i (new_b2 m) rfl))))) (key2 _ ?_)
    unfold tempW; rw [if_neg c0,if_pos c1,hm]
   ·refine bind_i (v:=(r,m)) (if_n (by omega) ?_) (key2 _ ?_)
    ·by_cases c2:(n:Int)=8
     ·exact if_i c2 (if_i (by omega) (if_n (by omega) rfl))
     ·exact if_n c2 rfl
    ·unfold tempW; rw [if_neg c0,if_neg c1,hm]
theorem new_b0 (key:Str) (n N:Nat) (hn:n=4 ∨ n=8) (hk:key.length=4 * n) (hN:N=4 * (n+7)):loop (aes_New.b0 key BOXV (n:Int)) BIG (1#8,0,List.replicate N zW)=some (Wst key n N).2:=by
 have e0:w64 (4 * w64 ((n:Int)+7))=(N:Int):=by rw [w64_id (x:=(n:Int)+7) (by omega) (by omega),w64_id (by omega) (by omega)]; omega
 have:=loop_iter (body:=aes_New.b0 key BOXV (n:Int)) (fun i=>((Wst key n i).1,(i:Int),padW (Wst key n i).2 N)) N (Wst key n N).2 (by omega) (fun i hi=>new_b0_step key n i N hn hk hN hi) ?_
 ·exact this
 ·unfold aes_New.b0
  simp only [e0,Int.toNat_natCast]
  refine if_n (by omega) ?_
  have hl:=Wst_len key n N
  have:padW (Wst key n N).2 N=(Wst key n N).2:=by unfold padW; rw [hl,Nat.sub_self]; simp
  rw [this]
theorem new_b3 (w:List V4) (n N:Nat) (hn:n=4 ∨ n=8) (hw:w.length=N) (hN:N=4 * (n+7)):loop (aes_New.b3 (n:Int) w) BIG (0,List.replicate (n+7) (replicate 16 0#8))=some (keysOf w):=by
 have e0:w64 (4 * w64 ((n:Int)+7))=(N:Int):=by rw [w64_id (x:=(n:Int)+7) (by omega) (by omega),w64_id (by omega) (by omega)]; omega
 have e7:w64 ((n:Int)+7)=((n+7:Nat):Int):=by rw [w64_id (by omega) (by omega)]; omega
 refine loop_count N (fun k ks=>ks.set (k / 4) (vsp (lg ks (k / 4)) (4 * (k % 4)) (lg w k).toList)) _ _ (fun k ks=>ks.length=n+7 ∧ ∀ r i,r<n+7 → i<16 → vg (lg ks r) i=if 4 * r+i / 4<k then vg (lg w (4 * r+i / 4)) (i % 4) else 0#8) (by omega) ⟨by simp,fun r i hr hi=>?_⟩ (fun k ks hk ⟨h1,h2⟩=>⟨?_,by simp [h1],fun r i hr hi=>?_⟩) (fun ks ⟨h1,h2⟩ _=>?_)
 ·rw [if_neg (by omega)]
  have:lg (List.replicate (n+7) (replicate 16 0#8)) r=replicate 16 0#8:=by simp [lg,hr]
  rw [this,vg_eq' hi]; simp
 ·have e1:w64 ((k:Int).tdiv 4)=((k / 4:Nat):Int):=by rw [show (4:Int)=((4:Nat):Int) from rfl,tdivN,w64_nat (by omega)]
  have e2:(k:Int).tmod 4=((k % 4:Nat):Int):=tmodN k 4
  have e3:w64 (4 * ((k % 4:Nat):Int))=((4 * (k % 4):Nat):Int):=by rw [w64_id (by omega) (by omega)]; omega
  have e4:w64 ((k:Int)+1)=((k+1:Nat):Int):=by rw [w64_id (by omega) (by omega)]; omega
  have e8:w64 (4 * ((n+7:Nat):Int))=(N:Int):=by rw [w64_id (by omega) (by omega)]; omega
  unfold aes_New.b3
  simp only [e7,e8,e1,e2,e3,e4,Int.toNat_natCast]
  clear e0 e1 e2 e3 e4 e7 e8
  iterate 8 refine if_i (by omega) ?_
  refine ltt_i fun m hm=>?_
  have a1:(sub ((lg w k).toList) 0 4).take (min (4 - 0) (16 - 4 * (k % 4)))=(lg w k).toList:=by
   have hm:min (4 - 0) (16 - 4 * (k % 4))=4:=by omega
   have hl4:(lg w k).toList.length=4:=by simp
   rw [hm]
   unfold sub
   rw [List.drop_zero,Nat.sub_zero,List.take_of_length_le (l:=(lg w k).toList) (by omega),List.take_of_length_le (by omega)]
  rw [hm,a1]
 ·have hlw:(lg w k).toList.length=4:=by simp
  by_cases hr2:k / 4=r
  ·subst hr2
   have e:lg (ks.set (k / 4) (vsp (lg ks (k / 4)) (4 * (k % 4)) (lg w k).toList)) (k / 4)=vsp (lg ks (k / 4)) (4 * (k % 4)) (lg w k).toList:=by
    simp [lg,h1,hr]
   rw [e,vg_vsp _ _ _ _ (by rw [hlw]; omega) hi,hlw]
   by_cases c:4 * (k % 4)≤i∧i<4 * (k % 4)+4
   ·have e4:4 * (k / 4)+i / 4=k:=by omega
    rw [if_pos c,if_pos (by omega),e4]
    have e5:i - 4 * (k % 4)=i % 4:=by omega
    rw [e5]
    rfl
   ·rw [if_neg c,h2 (k / 4) i hr hi]
    by_cases c2:4 * (k / 4)+i / 4<k
    ·rw [if_pos c2,if_pos (by omega)]
    ·rw [if_neg c2,if_neg (by omega)]
  ·have e:lg (ks.set (k / 4) (vsp (lg ks (k / 4)) (4 * (k % 4)) (lg w k).toList)) r=lg ks r:=by
    simp [lg,List.getElem?_set,hr2]
   rw [e,h2 r i hr hi]
   by_cases c2:4 * r+i / 4<k
   ·rw [if_pos c2,if_pos (by omega)]
   ·rw [if_neg c2,if_neg (by omega)]
 ·unfold aes_New.b3
  simp only [e0,Int.toNat_natCast]
  refine if_n (by omega) (congrArg some (congrArg Sum.inr ?_))
  refine List.ext_getElem (by rw [keysOf_length,h1]; omega) fun r p1 p2=>?_
  have e1:ks[r]=lg ks r:=by simp [lg,p1]
  have e2:(keysOf w)[r]=lg (keysOf w) r:=by simp [lg,p2]
  rw [e1,e2,keysOf_lg w r (by omega)]
  refine vec_ext fun i hi=>?_
  rw [h2 r i (by omega) hi,if_pos (by omega)]
  simp only [keyV,vg_ofFn hi]
theorem New_eq (key:Str) (n:Nat) (hn:n=4 ∨ n=8) (hk:key.length=4 * n):aes_New key=some (.inr (BOXV,n+7,keysOf (Wst key n (4 * (n+7))).2)):=by
 have e0:w64 ((key.length:Int).tdiv 4)=(n:Int):=by
  rw [show (4:Int)=((4:Nat):Int) from rfl,tdivN,w64_nat (by omega)]; omega
 have e1:w64 ((n:Int)+7)=((n+7:Nat):Int):=by rw [w64_id (by omega) (by omega)]; omega
 have e2:w64 (4 * ((n+7:Nat):Int))=((4 * (n+7):Nat):Int):=by rw [w64_id (by omega) (by omega)]; omega
 have b0:=new_b0 key n (4 * (n+7)) hn hk rfl
 have b3:=new_b3 (Wst key n (4 * (n+7))).2 n (4 * (n+7)) hn (Wst_len key n _) rfl
 have hb4:aes_New.b4=aes_New.b0:=rfl
 have hb7:aes_New.b7=aes_New.b3:=rfl
 unfold aes_New
 rw [hb4,hb7,e0]
 have rest:(aes_table).bind (fun (r_1:Vx 8 256)=>(ltt (n:Int) fun (n1:Int)=>(if 0≤w64 (4 * (w64 (n1+7)))∧w64 (4 * (w64 (n1+7)))≤17592186044416 then ((loop (aes_New.b0 key r_1 n1) BIG (1#8,0,List.replicate ((w64 (4 * (w64 (n1+7)))).toNat) (replicate 4 0#8))).bind fun (t_1:List (Vx 8 4))=>(if 0≤w64 (n1+7)∧w64 (n1+7)≤17592186044416 then ((loop (aes_New.b3 n1 t_1) BIG (0,List.replicate ((w64 (n1+7)).toNat) (replicate 16 0#8))).bind fun (t_4:List (Vx 8 16))=>(some (Sum.inr (α:=Unit) (r_1,(w64 (n1+7)).toNat,t_4)))) else none)) else none)))=some (.inr (BOXV,n+7,keysOf (Wst key n (4 * (n+7))).2)):=by
  refine bind_i table_eq (ltt_i fun n1 hn1=>?_)
  rw [hn1,e1,e2,Int.toNat_natCast,Int.toNat_natCast]
  refine if_i (by omega) (bind_i b0 (if_i (by omega) (bind_i b3 rfl)))
 rcases hn with h4 | h8
 ·subst h4
  exact if_n (by omega) rest
 ·subst h8
  exact if_i (by omega) (if_n (by omega) rest)
end Go.Proofs
end

section
namespace Go.Proofs
open Go Go.Kx
open Vector (replicate)
abbrev okKey (key:Str):Prop:=key.length=16 ∨ key.length=32
def kw (key:Str):List V4:=(Wst key (key.length / 4) (4 * (key.length / 4+7))).2
def ek (key:Str) (b:V16):V16:=encV (keysOf (kw key)) b
theorem kw_len (key:Str):(kw key).length=4 * (key.length / 4+7):=Wst_len key _ _
theorem keys_len (key:Str):(keysOf (kw key)).length=key.length / 4+7:=by rw [keysOf_length,kw_len]; omega
theorem Enc_eq (key:Str) (hk:okKey key) (b:V16):aes_Cipher_Encrypt BOXV (keysOf (kw key)) b=some (ek key b) :=
 enc_eq _ b (by rw [keys_len]; omega) (by rw [keys_len]; unfold okKey at hk; omega)
def hE (key:Str):E2:=ld (ek key (replicate 16 0#8)).toList 0
theorem gNew_eq (key:Str) (hk:okKey key):gcm_New key=some (.inr (BOXV,key.length / 4+7,keysOf (kw key),(hE key).1,(hE key).2)):=by
 unfold gcm_New
 have hn:key.length / 4=4 ∨ key.length / 4=8:=by unfold okKey at hk; omega
 have h4:key.length=4 * (key.length / 4):=by unfold okKey at hk; omega
 refine bind_i (New_eq key _ hn h4) (if_i (keys_len key).symm (bind_i (Enc_eq key hk _) (bind_i (load_eq _ (by simp) (by simp)) ?_)))
 simp only
 rw [show (keysOf (Wst key (key.length / 4) (4 * (key.length / 4+7))).2).length=key.length / 4+7 from keys_len key]
 rfl
theorem gNew_none (key:Str) (hk : ¬ okKey key):gcm_New key=some (.inl ()):=by
 unfold gcm_New
 refine bind_i (v := .inl ()) ?_ rfl
 unfold okKey at hk
 unfold aes_New
 exact if_i (by omega) (if_i (by omega) rfl)
def cb (nonce:Str) (n:Nat):V16:=toV (nonce++bytesI (n:Int) 4)
theorem counter_eq (nonce:Str) (n:Nat) (hn:nonce.length=12) (h:n<4294967296):gcm_counter nonce (BitVec.ofNat 32 n)=some (cb nonce n):=by
 have hb:=bytesI_length (n:Int) 4
 have hbt : ∀ i,i<4 → (bytesI (n:Int) 4).getD i 0#8=((BitVec.ofNat 32 n) >>> (8 * (3 - i))).setWidth 8:=fun i hi=>by
  unfold bytesI
  rw [List.getD_eq_getElem?_getD,List.getElem?_map,List.getElem?_range hi]
  apply BitVec.eq_of_toNat_eq
  have h3:((n:Int) / 256 ^ (4 - 1 - i))=((n / 2 ^ (8 * (3 - i)):Nat):Int):=by
   rw [Nat.pow_mul]; simp
  simp only [Option.map_some,Option.getD_some,h3,BitVec.toNat_ofInt,BitVec.toNat_setWidth,BitVec.toNat_ushiftRight,BitVec.toNat_ofNat,Nat.shiftRight_eq_div_pow]
  rw [Nat.mod_eq_of_lt (a:=n) (by omega)]
  omega
 unfold gcm_counter
 refine ltt_i fun m hm=>bind_i (v:=cb nonce n) (loop_fn (fun k=>((k:Int),(Vector.ofFn fun i=>if 12≤i.val∧i.val+k<16 then 0#8 else (nonce++bytesI (n:Int) 4).getD i.val 0#8:V16))) 4 _ (by omega) ?_ (fun k hk=>?_) ?_) rfl
 ·refine Prod.ext rfl (vec_ext fun i hi=>?_)
  have ht:nonce.take (min nonce.length 16)=nonce:=List.take_of_length_le (by omega)
  rw [hm,ht,vg_vsp _ _ _ _ (by omega) hi,vg_ofFn hi]
  dsimp only
  by_cases c:i<12
  ·rw [if_pos (by omega),if_neg (by omega),List.getD_eq_getElem?_getD,List.getD_eq_getElem?_getD,List.getElem?_append_left (by omega),Nat.sub_zero]
   rfl
  ·rw [if_neg (by omega),if_pos (by omega),vg_eq' hi]; simp
 ·have e1:w64 ((k:Int)+1)=((k+1:Nat):Int):=w64_add (b:=1) (by omega)
  have e2:w64 (8 * (k:Int))=((8 * k:Nat):Int):=w64_mul (a:=8) (by omega)
  have e3:w64 (15 - (k:Int))=((15 - k:Nat):Int):=w64_sub (a:=15) (by omega) (by omega)
  unfold gcm_counter.b0
  simp only [e1,e2,e3,Int.toNat_natCast]
  clear e1 e2 e3
  refine if_i (by omega) (if_i (by omega) (if_i (by omega) (ltt_i fun m2 hm2=>?_)))
  have:m2=(Vector.ofFn fun i=>if 12≤i.val∧i.val+(k+1)<16 then 0#8 else (nonce++bytesI (n:Int) 4).getD i.val 0#8:V16):=by
   rw [hm2]
   refine vec_ext fun i hi=>?_
   rw [vg_vp (by omega) hi,vg_ofFn hi,vg_ofFn hi]
   dsimp only
   by_cases c:15 - k=i
   ·rw [if_pos c,if_neg (by omega),List.getD_eq_getElem?_getD,List.getElem?_append_right (by omega), ← List.getD_eq_getElem?_getD,hbt _ (by omega),show 8 * (3 - (i - nonce.length))=8 * k by omega]
   ·rw [if_neg c]
    by_cases c2:12≤i∧i+k<16
    ·rw [if_pos c2,if_pos (by omega)]
    ·rw [if_neg c2,if_neg (by omega)]
  rw [this]
 ·refine if_n (by show ¬ (((4:Nat):Int)<4); omega) (congrArg some (congrArg Sum.inr ?_))
  refine vec_ext fun i hi=>?_
  rw [vg_ofFn hi,cb,toV,vg_ofFn hi,if_neg (by omega)]
def xoB (key nonce:Str) (from_:Nat) (s:Str) (i:Nat):BitVec 8:=s.getD i 0#8 ^^^ vg (ek key (cb nonce (from_+i / 16))) (i % 16)
def xo (key nonce:Str) (from_:Nat) (s:Str):Str:=(List.range s.length).map (xoB key nonce from_ s)
theorem xo_length (key nonce:Str) (f:Nat) (s:Str):(xo key nonce f s).length=s.length:=by simp [xo]
def xoP (key nonce:Str) (s:Str) (m:Nat):Str:=(List.range s.length).map fun i=>if i<m then xoB key nonce 2 s i else s.getD i 0#8
theorem xoP_length (key nonce s:Str) (m:Nat):(xoP key nonce s m).length=s.length:=by simp [xoP]
theorem xoP_at (key nonce s:Str) (m i:Nat) (hi:i<s.length):lg (xoP key nonce s m) i=if i<m then xoB key nonce 2 s i else s.getD i 0#8:=by
 simp [lg,xoP,hi]
theorem xoP_set (key nonce s:Str) (m:Nat) (hm:m<s.length):(xoP key nonce s m).set m (xoB key nonce 2 s m)=xoP key nonce s (m+1):=by
 unfold xoP
 refine List.ext_getElem (by simp) fun i h1 h2=>?_
 simp only [List.getElem_set,List.getElem_map,List.getElem_range]
 by_cases c:m=i
 ·subst c; rw [if_pos rfl,if_pos (by omega)]
 ·rw [if_neg c]
  by_cases c2:i<m
  ·rw [if_pos c2,if_pos (by omega)]
  ·rw [if_neg c2,if_neg (by omega)]
theorem xor_b1 (key nonce b:Str) (k:Nat) (n:BitVec 32) (t0:Str) (hk:16 * k<b.length) (hl:b.length<1000000) :
  loop (gcm_Cipher_Xor.b1 b (16 * k,n,t0) (ek key (cb nonce (2+k))) ((min (b.length - 16 * k) 16:Nat):Int)) BIG (0,xoP key nonce b (16 * k))=some (xoP key nonce b (min (16 * (k+1)) b.length)):=by
 refine loop_fn (fun j=>((j:Int),xoP key nonce b (16 * k+j))) (min (b.length - 16 * k) 16) _ (by omega) rfl (fun j hj=>?_) ?_
 ·have e1:w64 ((j:Int)+1)=((j+1:Nat):Int):=w64_add (b:=1) (by omega)
  have hlen:=xoP_length key nonce b (16 * k+j)
  unfold gcm_Cipher_Xor.b1
  simp only [e1,Int.toNat_natCast]
  clear e1
  refine if_i (by omega) (if_i (by omega) (if_i (by omega) (if_i (by omega) (if_i (by omega) (if_i (by omega) (if_i (by omega) (if_i (by omega) (ltt_i fun m hm=>?_))))))))
  have:m=xoP key nonce b (16 * k+(j+1)):=by
   rw [hm,xoP_at _ _ _ _ _ (by omega),if_neg (by omega), ← Nat.add_assoc, ← xoP_set key nonce b (16 * k+j) (by omega)]
   unfold xoB
   rw [show (16 * k+j) / 16=k by omega,show (16 * k+j) % 16=j by omega]
  rw [this]
 ·unfold gcm_Cipher_Xor.b1
  refine if_n (by simp only; omega) ?_
  rw [show 16 * k+min (b.length - 16 * k) 16=min (16 * (k+1)) b.length by omega]
theorem Xor_eq (key nonce:Str) (hk:okKey key) (hn:nonce.length=12) (h:E2) (b:Str) (hl:b.length<1000000):gcm_Cipher_Xor BOXV (keysOf (kw key)) h.1 h.2 nonce b=some (xo key nonce 2 b):=by
 unfold gcm_Cipher_Xor
 refine bind_i (v:=xo key nonce 2 b) (loop_fn (fun k=>(min (16 * k) b.length,BitVec.ofNat 32 (2+k),xoP key nonce b (min (16 * k) b.length))) ((b.length+15) / 16) _ (by omega) ?_ (fun k hk2=>?_) ?_) rfl
 ·refine Prod.ext (by simp) (Prod.ext rfl ?_)
  show b=xoP key nonce b (min (16 * 0) b.length)
  unfold xoP
  refine List.ext_getElem (by simp) fun i h1 h2=>?_
  simp [h1]
 ·have hkb:16 * k<b.length:=by omega
  have hm1:min (16 * k) b.length=16 * k:=by omega
  rw [hm1]
  unfold gcm_Cipher_Xor.b0
  simp only
  refine if_i (by omega) (bind_i (counter_eq nonce (2+k) hn (by omega)) (bind_i (Enc_eq key hk _) (ltt_i fun m hm=>?_)))
  have hm2:m=((min (b.length - 16 * k) 16:Nat):Int):=by rw [hm]; omega
  rw [hm2]
  refine bind_i (xor_b1 key nonce b k _ _ hkb hl) ?_
  have hlen:=xoP_length key nonce b (min (16 * (k+1)) b.length)
  simp only [Int.toNat_natCast]
  refine if_i (by omega) (if_i (by omega) (if_i (by omega) (if_i (by omega) (ltt_i fun n1 hn1=>?_))))
  have h2k:BitVec.ofNat 32 (2+(k+1))=BitVec.ofNat 32 (2+k)+1#32:=by rw [show 2+(k+1)=(2+k)+1 by omega,BitVec.ofNat_add]
  rw [hn1,h2k,show 16 * k+min (b.length - 16 * k) 16=min (16 * (k+1)) b.length by omega]
 ·unfold gcm_Cipher_Xor.b0
  refine if_n (by simp only; omega) (congrArg some (congrArg Sum.inr ?_))
  simp only
  unfold xoP xo
  refine List.map_congr_left fun i hi=>?_
  have:i<b.length:=by simpa using hi
  rw [if_pos (by omega)]
theorem ofN_byte (x:BitVec 64):((x >>> 8) <<< 8) ||| ((x.setWidth 8).setWidth 64)=x:=by
 apply BitVec.eq_of_getLsbD_eq
 intro i hi
 simp only [BitVec.getLsbD_or,BitVec.getLsbD_shiftLeft,BitVec.getLsbD_ushiftRight,BitVec.getLsbD_setWidth]
 by_cases c:i<8
 ·simp [c,hi]
 ·simp [c,hi,show 8+(i - 8)=i by omega]
theorem be8_word (s:Str) (a:Nat) (w:BitVec 64) (h : ∀ i,i<8 → s.getD (a+i) 0#8=(w >>> (8 * (7 - i))).setWidth 8):be8 s a 8=w:=by
 have : ∀ j,j≤8 → be8 s a j=w >>> (8 * (8 - j)):=by
  intro j
  induction j with
  | zero=>intro _; exact (BitVec.ushiftRight_eq_zero (Nat.le_refl _)).symm
  | succ j ih =>
   intro hj
   simp only [be8]
   rw [ih (by omega),h j (by omega)]
   have:=ofN_byte (w >>> (8 * (8 - (j+1))))
   rw [← BitVec.shiftRight_add,show 8 * (8 - (j+1))+8=8 * (8 - j) by omega] at this
   rw [show 8 * (7 - j)=8 * (8 - (j+1)) by omega]
   exact this
 have:=this 8 (Nat.le_refl _)
 simpa using this
theorem ld_by16 (e:E2):ld (by16 e) 0=e:=by
 unfold ld
 refine Prod.ext ?_ ?_
 ·exact be8_word _ _ _ fun i hi=>by rw [Nat.zero_add,byV_at e i (by omega),if_pos hi]
 ·exact be8_word _ _ _ fun i hi=>by rw [Nat.zero_add,byV_at e (8+i) (by omega),if_neg (by omega),show 8+i - 8=i by omega]
def szs (aad c:Str):E2:=(BitVec.ofNat 64 (8 * aad.length),BitVec.ofNat 64 (8 * c.length))
def tagY (key aad c:Str):E2:=ghs (hE key) (fil aad++fil c++by16 (szs aad c)) z2
def tagE (key nonce aad c:Str):Str:=xo key nonce 1 (by16 (tagY key aad c))
theorem ghs16 (h:E2) (s:Str) (y:E2) (hs:s.length=16):ghs h s y=prod (xr (ld s 0) y) h:=by
 unfold ghs
 rw [hs,show 16 / 16=0+1 from rfl]
 simp only [iter]
 unfold gh
 rw [Nat.mul_zero]
theorem tagY_eq (key aad c:Str):tagY key aad c=prod (xr (szs aad c) (ghs (hE key) (fil c) (ghs (hE key) (fil aad) z2))) (hE key):=by
 have h1:(fil aad).length % 16=0:=by rw [fil_length]; omega
 have h2:(fil c).length % 16=0:=by rw [fil_length]; omega
 unfold tagY
 rw [ghs_app _ _ _ _ (by rw [List.length_append]; omega),ghs_app _ _ _ _ h1,ghs16 _ _ _ (by16_length _),ld_by16]
theorem tag_b0 (V W:V16):loop (gcm_Cipher_Tag.b0 W) BIG (0,V)=some (Vector.ofFn fun i=>vg V i.val ^^^ vg W i.val):=by
 refine loop_fill _ (fun i=>vg V i ^^^ vg W i) id (by omega) (fun k v hk hv=>?_) (fun v=>?_)
 ·have e1:w64 ((k:Int)+1)=((k+1:Nat):Int):=w64_add (b:=1) (by omega)
  unfold gcm_Cipher_Tag.b0
  simp only [e1,Int.toNat_natCast]
  refine if_i (by omega) (if_i (by omega) (if_i (by omega) (if_i (by omega) (ltt_i fun m hm=>?_))))
  rw [hm,hv k (Nat.le_refl _) hk]
 ·unfold gcm_Cipher_Tag.b0
  exact if_n (by omega) rfl
theorem Tag_eq (key nonce:Str) (hk:okKey key) (hn:nonce.length=12) (aad b:Str) (ha:aad.length<1000000) (hb:b.length<1000000):gcm_Cipher_Tag BOXV (keysOf (kw key)) (hE key).1 (hE key).2 nonce aad b=some (tagE key nonce aad b):=by
 unfold gcm_Cipher_Tag
 obtain ⟨V1,hV1,he1⟩:=ebytes_eq (szs aad b)
 obtain ⟨V2,hV2,he2⟩:=ebytes_eq (tagY key aad b)
 have hsz : ∀ n:Nat,(BitVec.ofInt 64 (n:Int)) * 8#64=BitVec.ofNat 64 (8 * n):=fun n=>by
  rw [BitVec.ofInt_natCast,Nat.mul_comm,BitVec.ofNat_mul]
 refine bind_i (newSum_eq (hE key)) (bind_i (all_eq (hE key) z2 aad (by omega)) (bind_i (all_eq (hE key) _ b (by omega)) ?_))
 rw [hsz,hsz]
 refine bind_i he1 (bind_i (add_eq (hE key) _ _ (by simp) (by simp)) ?_)
 rw [hV1,ld_by16, ← tagY_eq]
 refine bind_i he2 (bind_i (counter_eq nonce 1 hn (by decide)) (bind_i (Enc_eq key hk _) (bind_i (tag_b0 _ _) (congrArg some ?_))))
 have hV2i : ∀ i,vg V2 i=(by16 (tagY key aad b)).getD i 0#8:=fun i=>by
  show V2.toList.getD i 0#8=_
  rw [hV2]
 unfold tagE xo
 generalize tagY key aad b=Y at hV2i
 rw [by16_length]
 refine List.ext_getElem (by simp) fun i h1 h2=>?_
 have hi:i<16:=by simpa using h1
 simp only [Vector.getElem_toList,Vector.getElem_ofFn,List.getElem_map,List.getElem_range]
 unfold xoB
 rw [show 1+i / 16=1 by omega,show i % 16=i by omega,hV2i]
abbrev okG (key nonce aad:Str) (n most:Nat):Prop:=okKey key∧nonce.length=12∧aad.length≤65536∧n≤most
theorem may_eq (nonce aad:Str) (most long:Nat):gcm_may nonce aad (most:Int) (long:Int)=some (decide (nonce.length=12∧aad.length≤65536∧long≤most)):=by
 unfold gcm_may
 by_cases c1:nonce.length=12
 ·refine if_i (by omega) ?_
  by_cases c2:aad.length≤65536
  ·refine if_i (by omega) (ltt_i fun x hx=>?_)
   rw [hx]
   refine congrArg some ?_
   rw [decide_eq_decide]
   omega
  ·refine if_n (by omega) (congrArg some ?_)
   rw [eq_comm,decide_eq_false_iff_not]; omega
 ·refine if_n (by omega) (congrArg some ?_)
  rw [eq_comm,decide_eq_false_iff_not]; omega
def openE (key nonce aad s:Str):Str × Int :=
 if okG key nonce aad s.length 65552 then (if s.length<16 then ([],501) else if tagE key nonce aad (sub s 0 (s.length - 16)) ≠ sub s (s.length - 16) s.length then ([],501) else (xo key nonce 2 (sub s 0 (s.length - 16)),0)) else ([],500)
theorem Open_eq (key nonce aad s:Str):gcm_Open key nonce aad s=some (openE key nonce aad s):=by
 unfold gcm_Open openE
 by_cases hk:okKey key
 ·refine bind_i (gNew_eq key hk) (bind_i (may_eq nonce aad 65552 s.length) ?_)
  by_cases c:nonce.length=12∧aad.length≤65536∧s.length≤65552
  ·rw [if_pos (⟨hk,c⟩:okG key nonce aad s.length 65552)]
   have e0:w64 ((s.length:Int) - 16)=(s.length:Int) - 16:=w64_id (by omega) (by omega)
   refine if_n (by simp [c]) (ltt_i fun n1 hn1=>?_)
   rw [e0] at hn1
   clear e0
   by_cases c2:s.length<16
   ·rw [if_pos c2]
    exact if_i (by omega) rfl
   ·rw [if_neg c2]
    have hn:n1.toNat=s.length - 16:=by omega
    rw [hn]
    have hsl:(sub s 0 (s.length - 16)).length=s.length - 16:=by rw [sub_length (by omega)]; omega
    refine if_n (by omega) (if_i (by omega) (if_i (by omega) (if_i (keys_len key).symm (bind_i (Tag_eq key nonce hk c.1 aad _ (by omega) (by omega)) (if_i (by omega) (if_i (by omega) ?_))))))
    by_cases c3:tagE key nonce aad (sub s 0 (s.length - 16)) ≠ sub s (s.length - 16) s.length
    ·rw [if_pos c3,if_pos c3]
    ·rw [if_neg c3,if_neg c3]
     exact bind_i (Xor_eq key nonce hk c.1 _ _ (by omega)) (if_i (xo_length _ _ _ _) rfl)
  ·rw [if_neg (show ¬ okG key nonce aad s.length 65552 from fun h=>c h.2)]
   exact if_i (by simp [c]) rfl
 ·rw [if_neg (show ¬ okG key nonce aad s.length 65552 from fun h=>hk h.1)]
  exact bind_i (gNew_none key hk) rfl
end Go.Proofs
end

section
namespace Go.Proofs
open Go Go.Kx
open TryzI Tryz
def halberdref1_Num.b0 (s_:Str) (at_:Int) (size:Int) (s0:Int × Int):Option ((Int × Int) ⊕ (Int)) :=
 if s0.2<size then (if 0≤w64 (at_+s0.2)∧w64 (at_+s0.2)<((s_).length:Int) then (ltt (iop (· ||| ·) (shlI' s0.1 8) ((sg s_ (w64 (at_+s0.2))).toNat:Int)) fun (x1:Int)=>(ltt (w64 (s0.2+1)) fun (i1:Int)=>(some (.inl (x1,i1))))) else none) else (some (.inr s0.1))
def halberdref1_Num (s_:Str) (at_:Int) (size:Int):Option (Int × Int × Int) :=
 if at_<0 then (some (0,0,100)) else (if ((s_).length:Int)<at_ then (some (0,0,100)) else (if (w64 (((s_).length:Int) - at_))<size then (some (0,0,100)) else ((loop (halberdref1_Num.b0 s_ at_ size) BIG (0,0)).bind fun (t_1:Int)=>(ltt (w64 (at_+size)) fun (x2:Int)=>(some (t_1,x2,0))))))
end Go.Proofs
end

section
namespace Go.Proofs
open Go Go.Kx
theorem or_byte (a b:Nat) (ha:a<4294967296) (hb:b<256):iop (· ||| ·) (shlI' (a:Int) 8) (b:Int)=((a * 256+b:Nat):Int):=by
 unfold iop shlI'
 have e1:w64 ((a:Int) * 2 ^ (min (8:Int).toNat 64))=((a * 256:Nat):Int):=by
  rw [show min (8:Int).toNat 64=8 from rfl,w64_id (by omega) (by omega)]; omega
 rw [e1]
 have e2:(BitVec.ofInt 64 ((a * 256:Nat):Int) ||| BitVec.ofInt 64 (b:Int)).toNat=a * 256+b:=by
  rw [BitVec.ofInt_natCast,BitVec.ofInt_natCast,BitVec.toNat_or,BitVec.toNat_ofNat,BitVec.toNat_ofNat,Nat.mod_eq_of_lt (by omega),Nat.mod_eq_of_lt (by omega)]
  rw [show a * 256=a <<< 8 from by rw [Nat.shiftLeft_eq]]
  rw [← Nat.shiftLeft_add_eq_or_of_lt (by omega:b<2 ^ 8)]
 rw [e2]
 exact w64_nat (by omega)
def numB (s:Str) (a:Nat):Nat → Nat
 | 0=>0
 | n+1=>numB s a n * 256+(s.getD (a+n) 0#8).toNat
theorem numB_lt (s:Str) (a:Nat) : ∀ n,numB s a n<256 ^ n
 | 0=>by simp [numB]
 | n+1=>by
  have:=numB_lt s a n
  have h2:=(s.getD (a+n) 0#8).isLt
  rw [Nat.pow_succ]
  show numB s a n * 256+_<_
  omega
def rdN (s:Str) (a n:Nat):Int × Int × Int:=if a+n≤s.length then ((numB s a n:Nat),((a+n:Nat):Int),0) else (0,0,100)
theorem rd_step (s:Str) (a n k:Nat) (hk:k<n) (hn:n≤4) (h:a+n≤s.length):iop (· ||| ·) (shlI' (numB s a k:Int) 8) ((sg s ((a+k:Nat):Int)).toNat:Int)=((numB s a (k+1):Nat):Int):=by
 have h1:=numB_lt s a k
 have h2:(256:Nat) ^ k≤256 ^ 3:=Nat.pow_le_pow_right (by decide) (by omega)
 unfold sg
 rw [Int.toNat_natCast]
 exact or_byte _ _ (by omega) (s.getD (a+k) 0#8).isLt
theorem number_eq (s:Str) (a n:Nat) (hn:n≤4) (hs:s.length<1152921504606846976) (ha:a<1152921504606846976):wire_number s (a:Int) (n:Int)=some (rdN s a n):=by
 have e1:w64 ((s.length:Int) - (a:Int))=(s.length:Int) - (a:Int):=w64_id (by omega) (by omega)
 have e2:w64 ((a:Int)+(n:Int))=((a+n:Nat):Int):=by rw [w64_id (by omega) (by omega)]; omega
 unfold wire_number rdN
 rw [e1,e2]
 clear e1 e2
 by_cases c:a+n≤s.length
 ·rw [if_pos c]
  refine if_n (by omega) (if_n (by omega) (if_n (by omega) (bind_i (v:=((numB s a n:Nat):Int)) (loop_fn (fun k=>(((numB s a k:Nat):Int),(k:Int))) n _ (by omega) rfl (fun k hk=>?_) ?_) rfl)))
  ·have e3:w64 ((a:Int)+(k:Int))=((a+k:Nat):Int):=by rw [w64_id (by omega) (by omega)]; omega
   have e4:w64 ((k:Int)+1)=((k+1:Nat):Int):=by rw [w64_id (by omega) (by omega)]; omega
   unfold wire_number.b0
   simp only [e3,e4]
   clear e3 e4
   refine if_i (by omega) (if_i (by omega) (ltt_i fun x hx=>?_))
   rw [hx,rd_step s a n k hk hn c]
  ·unfold wire_number.b0
   exact if_n (by dsimp only; omega) rfl
 ·rw [if_neg c]
  refine if_n (by omega) ?_
  by_cases c2:s.length<a
  ·exact if_i (by omega) rfl
  ·exact if_n (by omega) (if_i (by omega) rfl)
theorem bytesI_getD (x:Int) (n i:Nat) (h:i<n):(bytesI x n).getD i 0#8=BitVec.ofInt 8 (x / 256 ^ (n - 1 - i)):=by
 simp [bytesI,List.getD,h]
theorem ofInt8_toNat (x:Int):((BitVec.ofInt 8 x).toNat:Int)=x % 256:=by
 rw [BitVec.toNat_ofInt]
 have:0≤x % ((2 ^ 8:Nat):Int):=Int.emod_nonneg _ (by decide)
 rw [Int.toNat_of_nonneg this]; rfl
theorem numB_div (s:Str) (a k:Nat) : ∀ j,numB s a (k+j) / 256 ^ j=numB s a k
 | 0=>by simp
 | j+1=>by
  have h2:=(s.getD (a+(k+j)) 0#8).isLt
  show (numB s a (k+j) * 256+(s.getD (a+(k+j)) 0#8).toNat) / 256 ^ (j+1)=_
  rw [Nat.pow_succ,Nat.mul_comm (256 ^ j) 256, ← Nat.div_div_eq_div_mul]
  rw [show (numB s a (k+j) * 256+(s.getD (a+(k+j)) 0#8).toNat) / 256=numB s a (k+j) from by omega]
  exact numB_div s a k j
theorem ofInt8_nat (x j:Nat):(BitVec.ofInt 8 ((x:Int) / 256 ^ j)).toNat=x / 256 ^ j % 256:=by
 have h:=ofInt8_toNat ((x:Int) / 256 ^ j)
 have e:(x:Int) / 256 ^ j=((x / 256 ^ j:Nat):Int):=by rw [Int.natCast_ediv]; simp
 rw [e] at h ⊢
 omega
theorem enc_num (s:Str) (a n:Nat) (h:a+n≤s.length):bytesI ((numB s a n:Nat):Int) n=sub s a (a+n):=by
 refine List.ext_getElem (by rw [bytesI_length,sub_length h]; omega) fun i h1 h2=>?_
 have hi:i<n:=by rw [bytesI_length] at h1; exact h1
 have e1:(bytesI ((numB s a n:Nat):Int) n).getD i 0#8=(sub s a (a+n)).getD i 0#8:=by
  rw [bytesI_getD _ _ _ hi,sub_getD _ _ _ _ (by omega)]
  apply BitVec.eq_of_toNat_eq
  rw [ofInt8_nat]
  have hd:=numB_div s a (i+1) (n - 1 - i)
  rw [show i+1+(n - 1 - i)=n from by omega] at hd
  rw [hd]
  have h2:=(s.getD (a+i) 0#8).isLt
  show (numB s a i * 256+(s.getD (a+i) 0#8).toNat) % 256=_
  omega
 simpa [List.getD,h1,h2] using e1
end Go.Proofs
end

section
namespace Go.Proofs
open Go Go.Kx
def hl (s:Int):Nat:=if s=4866 then 48 else 32
def okS (s:Int):Prop:=s=4865 ∨ s=4866 ∨ s=4867
def sz (s:Int):Int × Int × Int:=if s=4865 then (16,256,0) else if s=4866 then (32,384,0) else if s=4867 then (32,256,0) else (0,0,800)
theorem aeadS_eq (s:Int):aead_Sizes s=some (sz s):=by
 unfold aead_Sizes sz
 by_cases c1:s=4865
 ·simp [ltt,c1]
 ·by_cases c2:s=4866
  ·simp [ltt,c2]
  ·by_cases c3:s=4867
   ·simp [ltt,c3]
   ·simp [ltt,c1,c2,c3]
theorem sz_ok {s:Int} (h:okS s):(sz s).2.2=0∧w64 ((sz s).2.1.tdiv 8)=(hl s:Int):=by
 rcases h with rfl | rfl | rfl <;> exact ⟨by decide,by decide⟩
theorem sz_no {s:Int} (h : ¬ okS s):(sz s).2.2=800:=by
 unfold okS at h
 unfold sz
 rw [if_neg (by omega),if_neg (by omega),if_neg (by omega)]
theorem bytesI_four (x:Int):bytesI x 4=[BitVec.ofInt 8 (shrI' x 24),BitVec.ofInt 8 (shrI' x 16),BitVec.ofInt 8 (shrI' x 8),BitVec.ofInt 8 x]:=by
 have hr:List.range 4=[0,1,2,3]:=rfl
 have h1:shrI' x 8=x / 256:=rfl
 have h2:shrI' x 16=x / 65536:=rfl
 have h3:shrI' x 24=x / 16777216:=rfl
 unfold bytesI
 rw [hr,h1,h2,h3]
 simp
theorem bytesI_twoT (x:Int):bytesI x 2=[BitVec.ofInt 8 (shrI' x 8),BitVec.ofInt 8 x]:=by
 have hr:List.range 2=[0,1]:=rfl
 have hs:shrI' x 8=x / 256:=rfl
 unfold bytesI
 rw [hr,hs]
 simp
theorem wb2T (x:Int):wire_Bytes x 2=some (bytesI x 2):=by
 unfold wire_Bytes
 refine ltt_i fun x1 hx1=>if_n (by rw [hx1]; decide) (ltt_i fun x2 hx2=>if_n (by rw [hx2]; decide) (ltt_i fun x3 hx3=>if_i (by rw [hx3]; decide) (if_i (by simp) (ltt_i fun l hl=>if_i (by rw [hl]; simp) (ltt_i fun l2 hl2=>?_)))))
 rw [hl2,hl,bytesI_twoT]; rfl
theorem wb4T (x:Int):wire_Bytes x 4=some (bytesI x 4):=by
 unfold wire_Bytes
 refine ltt_i fun x1 hx1=>if_i (by rw [hx1]; decide) (if_i (by simp) (ltt_i fun l1 h1=>if_i (by rw [h1]; simp) (ltt_i fun l2 h2=>if_i (by rw [h2,h1]; simp) (ltt_i fun l3 h3=>if_i (by rw [h3,h2,h1]; simp) (ltt_i fun l4 h4=>?_)))))
 rw [h4,h3,h2,h1,bytesI_four]; rfl
def ok32 (x:Int):Prop:=0≤x∧x<4294967296
instance (x:Int):Decidable (ok32 x):=by unfold ok32; infer_instance
theorem put4 (x:Int):wire_Put x 4=some (if ok32 x then (bytesI x 4,0) else ([],101)):=by
 have e1:w64 (8 * 4)=32:=by decide
 have hs:shrI' x 32=x / 4294967296:=rfl
 unfold wire_Put
 rw [e1,hs]
 refine if_n (by decide) (if_n (by decide) ?_)
 by_cases c:ok32 x
 ·rw [if_pos c]
  unfold ok32 at c
  exact if_n (by omega) (if_i (by decide) (if_n (by omega) (bind_i (wb4T x) rfl)))
 ·rw [if_neg c]
  unfold ok32 at c
  by_cases c2:x<0
  ·exact if_i c2 rfl
  ·exact if_n c2 (if_i (by decide) (if_i (by omega) rfl))
theorem chk_eq (r2 r3:Str × Int):loop (ticket_plain.b0 r2 r3) BIG 0=some (if r2.2=0∧r3.2=0 then .inl () else .inr (([]:Str),Er.wr 2000 (Er.no (if r2.2 ≠ 0 then r2.2 else r3.2)))):=by
 have e0:w64 (((0:Nat):Int)+1)=((0+1:Nat):Int):=by decide
 have e1:w64 (((1:Nat):Int)+1)=((1+1:Nat):Int):=by decide
 by_cases c2:r2.2=0
 ·by_cases c3:r3.2=0
  ·rw [if_pos ⟨c2,c3⟩]
   refine loop_fn (fun k=>(k:Int)) 2 _ (by decide) rfl (fun k hk=>?_) ?_
   ·unfold ticket_plain.b0
    rcases (show k=0 ∨ k=1 by omega) with rfl | rfl
    ·exact if_i (by decide) (if_i (by decide) (if_i (by simp) (ltt_i fun x hx=>if_n (by rw [hx]; exact fun h=>h c2) (by rw [e0]))))
    ·exact if_i (by decide) (if_i (by decide) (if_i (by simp) (ltt_i fun x hx=>if_n (by rw [hx]; exact fun h=>h c3) (by rw [e1]))))
   ·unfold ticket_plain.b0
    exact if_n (by decide) rfl
  ·rw [if_neg (fun h=>c3 h.2),if_neg (fun h=>h c2)]
   refine loop_fn (fun k=>(k:Int)) 1 _ (by decide) rfl (fun k hk=>?_) ?_
   ·unfold ticket_plain.b0
    obtain rfl:k=0:=by omega
    exact if_i (by decide) (if_i (by decide) (if_i (by simp) (ltt_i fun x hx=>if_n (by rw [hx]; exact fun h=>h c2) (by rw [e0]))))
   ·unfold ticket_plain.b0
    exact if_i (by decide) (if_i (by decide) (if_i (by simp) (ltt_i fun x hx=>if_i (by rw [hx]; exact c3) (ltt_i fun y hy=>by rw [hy,hx]; rfl))))
 ·rw [if_neg (fun h=>c2 h.1),if_pos c2]
  refine loop_fn (fun k=>(k:Int)) 0 _ (by decide) rfl (fun k hk=>by omega) ?_
  unfold ticket_plain.b0
  exact if_i (by decide) (if_i (by decide) (if_i (by simp) (ltt_i fun x hx=>if_i (by rw [hx]; exact c2) (ltt_i fun y hy=>by rw [hy,hx]; rfl))))
def okT (su:Int) (sec:Str) (mk ad:Int):Prop:=okS su∧sec.length=hl su∧ok32 mk∧ok32 ad
instance (su:Int) (sec:Str) (mk ad:Int):Decidable (okT su sec mk ad):=by unfold okT okS; infer_instance
def encT (su:Int) (sec:Str) (mk ad:Int):Str:=bytesI su 2++bytesI mk 4++bytesI ad 4++sec
theorem hl_le (s:Int):hl s≤48:=by unfold hl; split <;> omega
theorem plain_ok {su:Int} {sec:Str} {mk ad:Int} (h:okT su sec mk ad):ticket_plain su sec mk ad=some (encT su sec mk ad,Er.nil):=by
 obtain ⟨h1,h2,h3,h4⟩:=h
 have hs:=sz_ok h1
 have hle:=hl_le su
 unfold ticket_plain
 refine bind_i (aeadS_eq su) (if_n (by rw [hs.1]; decide) (bind_i (put4 mk) (bind_i (put4 ad) (bind_i (chk_eq _ _) ?_))))
 rw [if_pos h3,if_pos h4,if_pos ⟨rfl,rfl⟩]
 refine if_n (by rw [hs.2,h2]; exact fun h=>h rfl) (bind_i (wb2T su) (if_i (by simp only [bytesI_length]; decide) (if_i (by simp only [List.length_append,bytesI_length]; decide) (if_i (by simp only [List.length_append,bytesI_length]; omega) (ltt_i fun x hx=>?_)))))
 rw [hx]; rfl
theorem plain_no {su:Int} {sec:Str} {mk ad:Int} (h : ¬ okT su sec mk ad) : ∃ e,ticket_plain su sec mk ad=some ([],e)∧Er.isNil e=false:=by
 unfold ticket_plain
 by_cases h1:okS su
 ·have hs:=sz_ok h1
  by_cases h3:ok32 mk∧ok32 ad
  ·refine ⟨Er.no 2000,?_,rfl⟩
   refine bind_i (aeadS_eq su) (if_n (by rw [hs.1]; decide) (bind_i (put4 mk) (bind_i (put4 ad) (bind_i (chk_eq _ _) ?_))))
   rw [if_pos h3.1,if_pos h3.2,if_pos ⟨rfl,rfl⟩]
   exact if_i (by rw [hs.2]; intro h2; exact h ⟨h1,by omega,h3.1,h3.2⟩) rfl
  ·refine ⟨Er.wr 2000 (Er.no 101),?_,rfl⟩
   refine bind_i (aeadS_eq su) (if_n (by rw [hs.1]; decide) (bind_i (put4 mk) (bind_i (put4 ad) (bind_i (chk_eq _ _) ?_))))
   by_cases c:ok32 mk
   ·rw [if_pos c,if_neg (fun h=>h3 ⟨c,h⟩),if_neg (fun h=>absurd (show (101:Int)=0 from h.2) (by decide))]; rfl
   ·rw [if_neg c,if_neg (fun h=>absurd (show (101:Int)=0 from h.1) (by decide))]; rfl
 ·refine ⟨Er.wr 2000 (Er.no 800),?_,rfl⟩
  refine bind_i (aeadS_eq su) (if_i (by rw [sz_no h1]; decide) (ltt_i fun x hx=>?_))
  rw [hx,sz_no h1]
instance (s:Int):Decidable (okS s):=by unfold okS; infer_instance
end Go.Proofs
end

section
namespace Go.Proofs
open Go Go.Kx
theorem told_eq (e:Er):ticket_told e=some (Er.tell e 0):=by
 cases e <;> rfl
theorem sub_cat (s:Str) (a b c:Nat) (h:a≤b) (h2:b≤c):sub s a b++sub s b c=sub s a c:=by
 unfold sub
 have:s.drop b=(s.drop a).drop (b - a):=by rw [List.drop_drop]; congr 1; omega
 rw [this,show c - a=(b - a)+(c - b) from by omega,List.take_add]
theorem openE_len (key nonce aad s:Str):(openE key nonce aad s).1.length≤65536:=by
 unfold openE
 split
 ·rename_i h
  have:=h.2.2.2
  split
  ·exact Nat.zero_le _
  ·split
   ·exact Nat.zero_le _
   ·dsimp only; rw [xo_length,sub_length (by omega)]; omega
 ·exact Nat.zero_le _
theorem encT_num (p:Str) (h:10≤p.length):encT ((numB p 0 2:Nat):Int) (sub p 10 p.length) ((numB p 2 4:Nat):Int) ((numB p 6 4:Nat):Int)=p:=by
 unfold encT
 rw [enc_num p 0 2 (by omega),enc_num p 2 4 (by omega),enc_num p 6 4 (by omega),sub_cat _ _ _ _ (by omega) (by omega),sub_cat _ _ _ _ (by omega) (by omega),sub_cat _ _ _ _ (by omega) (by omega),sub_all]
abbrev noT (e:Int):Int × Str × Int × Int × Int:=(0,[],0,0,e)
def okP (p:Str):Prop:=10≤p.length∧okT ((numB p 0 2:Nat):Int) (sub p 10 p.length) ((numB p 2 4:Nat):Int) ((numB p 6 4:Nat):Int)
instance (p:Str):Decidable (okP p):=by unfold okP; infer_instance
def rdT (p:Str):Int × Str × Int × Int × Int:=(((numB p 0 2:Nat):Int),sub p 10 p.length,((numB p 2 4:Nat):Int),((numB p 6 4:Nat):Int),0)
def openT (key s:Str):Int × Str × Int × Int × Int :=
 if key.length ≠ 32 then noT 2000 else if s.length<12 then noT 2001 else if (openE key (sub s 0 12) [] (sub s 12 s.length)).2=0∧okP (openE key (sub s 0 12) [] (sub s 12 s.length)).1 then rdT (openE key (sub s 0 12) [] (sub s 12 s.length)).1 else noT 2001
theorem U16_eq (s:Str) (a:Nat) (hs:s.length<1152921504606846976) (ha:a<1152921504606846976):wire_U16 s (a:Int)=some (rdN s a 2):=by
 unfold wire_U16; exact bind_i (number_eq s a 2 (by decide) hs ha) rfl
theorem U32_eq (s:Str) (a:Nat) (hs:s.length<1152921504606846976) (ha:a<1152921504606846976):wire_U32 s (a:Int)=some (rdN s a 4):=by
 unfold wire_U32; exact bind_i (number_eq s a 4 (by decide) hs ha) rfl
theorem rdN_ok {s:Str} {a n:Nat} (h:a+n≤s.length):rdN s a n=(((numB s a n:Nat):Int),((a+n:Nat):Int),0):=if_pos h
theorem rdN_no {s:Str} {a n:Nat} (h : ¬ a+n≤s.length):rdN s a n=(0,0,100):=if_neg h
theorem inner_eq (p:Str) (hp:p.length≤65536) : ∃ e:Er,((wire_U16 p 0).bind fun (r_2:Int × Int × Int)=>((wire_U32 p r_2.2.1).bind fun (r_3:Int × Int × Int)=>((wire_U32 p r_3.2.1).bind fun (r_4:Int × Int × Int)=>(if r_4.2.2 ≠ 0 then (ltt (Er.wr 2001 (Er.no r_4.2.2)) fun (x2:Er)=>(some ((0:Int),([]:Str),(0:Int),(0:Int),x2))) else (if 0≤r_4.2.1 then (if (r_4.2.1).toNat≤p.length then ((ticket_plain r_2.1 (sub p ((r_4.2.1).toNat) (p.length)) r_3.1 r_4.1).bind fun (r_5:Str × Er)=>((if (!(Er.isNil r_5.2))=true then (some true) else (some (decide (r_5.1 ≠ p)))).bind fun (j1:Bool)=>(if j1=true then (some (0,([]:Str),0,0,Er.no 2001)) else (some (r_2.1,sub p ((r_4.2.1).toNat) (p.length),r_3.1,r_4.1,Er.nil))))) else none) else none)))))
   = some (if okP p then ((rdT p).1,(rdT p).2.1,(rdT p).2.2.1,(rdT p).2.2.2.1,Er.nil) else (0,[],0,0,e))∧Er.tell e 0=2001:=by
 have bad : ∀ r2 r3 r4:Int × Int × Int,r4.2.2=100 → (if r4.2.2 ≠ 0 then (ltt (Er.wr 2001 (Er.no r4.2.2)) fun (x2:Er)=>(some ((0:Int),([]:Str),(0:Int),(0:Int),x2))) else (if 0≤r4.2.1 then (if (r4.2.1).toNat≤p.length then ((ticket_plain r2.1 (sub p ((r4.2.1).toNat) (p.length)) r3.1 r4.1).bind fun (r_5:Str × Er)=>((if (!(Er.isNil r_5.2))=true then (some true) else (some (decide (r_5.1 ≠ p)))).bind fun (j1:Bool)=>(if j1=true then (some (0,([]:Str),0,0,Er.no 2001)) else (some (r2.1,sub p ((r4.2.1).toNat) (p.length),r3.1,r4.1,Er.nil))))) else none) else none))=some (0,[],0,0,Er.wr 2001 (Er.no 100)):=fun r2 r3 r4 h=>by
  rw [h]; exact if_i (by decide) (ltt_i fun x hx=>by rw [hx])
 by_cases c10:10≤p.length
 ·refine ⟨Er.no 2001,?_,rfl⟩
  refine bind_i (U16_eq p 0 (by omega) (by decide)) ?_
  rw [rdN_ok (show 0+2≤p.length by omega)]
  refine bind_i (U32_eq p (0+2) (by omega) (by decide)) ?_
  rw [rdN_ok (show 0+2+4≤p.length by omega)]
  refine bind_i (U32_eq p (0+2+4) (by omega) (by decide)) ?_
  rw [rdN_ok (show 0+2+4+4≤p.length by omega)]
  refine if_n (by dsimp only; decide) (if_i (by dsimp only; omega) ?_)
  have e:(((0+2+4+4:Nat):Int)).toNat=10:=rfl
  dsimp only
  rw [e]
  refine if_i c10 ?_
  by_cases h:okT ((numB p 0 2:Nat):Int) (sub p 10 p.length) ((numB p 2 4:Nat):Int) ((numB p 6 4:Nat):Int)
  ·have hP:okP p:=⟨c10,h⟩
   rw [if_pos hP]
   exact bind_i (plain_ok h) (bind_i (v:=false) (if_n (by simp [Er.isNil]) (by rw [encT_num p c10]; simp)) rfl)
  ·have hP : ¬ okP p:=fun x=>h x.2
   rw [if_neg hP]
   obtain ⟨e,he,hn⟩:=plain_no h
   exact bind_i he (bind_i (v:=true) (if_i (by rw [hn]; rfl) rfl) rfl)
 ·have hP : ¬ okP p:=fun x=>c10 x.1
  simp only [if_neg hP]
  by_cases c2:2≤p.length
  ·by_cases c6:6≤p.length
   ·refine ⟨Er.wr 2001 (Er.no 100),?_,rfl⟩
    refine bind_i (U16_eq p 0 (by omega) (by decide)) ?_
    rw [rdN_ok (show 0+2≤p.length by omega)]
    refine bind_i (U32_eq p (0+2) (by omega) (by decide)) ?_
    rw [rdN_ok (show 0+2+4≤p.length by omega)]
    refine bind_i (U32_eq p (0+2+4) (by omega) (by decide)) ?_
    rw [rdN_no (show ¬ 0+2+4+4≤p.length by omega)]
    exact bad _ _ _ rfl
   ·by_cases c4:4≤p.length
    ·refine ⟨Er.no 2001,?_,rfl⟩
     refine bind_i (U16_eq p 0 (by omega) (by decide)) ?_
     rw [rdN_ok (show 0+2≤p.length by omega)]
     refine bind_i (U32_eq p (0+2) (by omega) (by decide)) ?_
     rw [rdN_no (show ¬ 0+2+4≤p.length by omega)]
     refine bind_i (U32_eq p 0 (by omega) (by decide)) ?_
     rw [rdN_ok (show 0+4≤p.length by omega)]
     refine if_n (by dsimp only; decide) (if_i (by dsimp only; omega) ?_)
     have e:(((0+4:Nat):Int)).toNat=4:=rfl
     dsimp only
     rw [e]
     refine if_i c4 ?_
     have hn : ¬ okT ((numB p 0 2:Nat):Int) (sub p 4 p.length) 0 ((numB p 0 4:Nat):Int):=by
      intro h
      have h2:=h.2.1
      rw [sub_length (Nat.le_refl _)] at h2
      unfold hl at h2
      split at h2 <;> omega
     obtain ⟨e,he,hi⟩:=plain_no hn
     exact bind_i he (bind_i (v:=true) (if_i (by rw [hi]; rfl) rfl) rfl)
    ·refine ⟨Er.wr 2001 (Er.no 100),?_,rfl⟩
     refine bind_i (U16_eq p 0 (by omega) (by decide)) ?_
     rw [rdN_ok (show 0+2≤p.length by omega)]
     refine bind_i (U32_eq p (0+2) (by omega) (by decide)) ?_
     rw [rdN_no (show ¬ 0+2+4≤p.length by omega)]
     refine bind_i (U32_eq p 0 (by omega) (by decide)) ?_
     rw [rdN_no (show ¬ 0+4≤p.length by omega)]
     exact bad _ _ _ rfl
  ·refine ⟨Er.wr 2001 (Er.no 100),?_,rfl⟩
   refine bind_i (U16_eq p 0 (by omega) (by decide)) ?_
   rw [rdN_no (show ¬ 0+2≤p.length by omega)]
   refine bind_i (U32_eq p 0 (by omega) (by decide)) ?_
   rw [rdN_no (show ¬ 0+4≤p.length by omega)]
   refine bind_i (U32_eq p 0 (by omega) (by decide)) ?_
   rw [rdN_no (show ¬ 0+4≤p.length by omega)]
   exact bad _ _ _ rfl
theorem OpenT_eq (key s:Str):ticket_Open key s=some (openT key s):=by
 unfold ticket_Open openT
 by_cases hk:key.length=32
 ·rw [if_neg (show ¬ key.length ≠ 32 by omega)]
  refine if_n (by omega) ?_
  have main : ∃ e:Er,ticket_open key s=some ((if s.length<12 then noT 0 else if (openE key (sub s 0 12) [] (sub s 12 s.length)).2=0∧okP (openE key (sub s 0 12) [] (sub s 12 s.length)).1 then rdT (openE key (sub s 0 12) [] (sub s 12 s.length)).1 else noT 0).1,(if s.length<12 then noT 0 else if (openE key (sub s 0 12) [] (sub s 12 s.length)).2=0∧okP (openE key (sub s 0 12) [] (sub s 12 s.length)).1 then rdT (openE key (sub s 0 12) [] (sub s 12 s.length)).1 else noT 0).2.1,(if s.length<12 then noT 0 else if (openE key (sub s 0 12) [] (sub s 12 s.length)).2=0∧okP (openE key (sub s 0 12) [] (sub s 12 s.length)).1 then rdT (openE key (sub s 0 12) [] (sub s 12 s.length)).1 else noT 0).2.2.1,(if s.length<12 then noT 0 else if (openE key (sub s 0 12) [] (sub s 12 s.length)).2=0∧okP (openE key (sub s 0 12) [] (sub s 12 s.length)).1 then rdT (openE key (sub s 0 12) [] (sub s 12 s.length)).1 else noT 0).2.2.2.1,e) ∧
    Er.tell e 0=(if s.length<12 then noT 2001 else if (openE key (sub s 0 12) [] (sub s 12 s.length)).2=0∧okP (openE key (sub s 0 12) [] (sub s 12 s.length)).1 then rdT (openE key (sub s 0 12) [] (sub s 12 s.length)).1 else noT 2001).2.2.2.2:=by
   unfold ticket_open
   by_cases c:s.length<12
   ·rw [if_pos c,if_pos c]
    exact ⟨Er.no 2001,if_i (by omega) rfl,rfl⟩
   ·rw [if_neg c,if_neg c]
    obtain ⟨o,ho⟩ : ∃ o,openE key (sub s 0 12) [] (sub s 12 s.length)=o:=⟨_,rfl⟩
    have hlen:=openE_len key (sub s 0 12) [] (sub s 12 s.length)
    rw [ho] at hlen ⊢
    by_cases c2:o.2=0
    ·obtain ⟨e,he,ht⟩:=inner_eq o.1 hlen
     by_cases c3:okP o.1
     ·refine ⟨Er.nil,if_n (by omega) (if_i (by omega) (if_i (by omega) (bind_i ((Open_eq _ _ _ _).trans (congrArg some ho)) (if_n (by rw [c2]; decide) (he.trans ?_))))),?_⟩
      ·rw [if_pos c3,if_pos (show o.2=0∧okP o.1 from ⟨c2,c3⟩)]
      ·rw [if_pos (show o.2=0∧okP o.1 from ⟨c2,c3⟩)]; rfl
     ·refine ⟨e,if_n (by omega) (if_i (by omega) (if_i (by omega) (bind_i ((Open_eq _ _ _ _).trans (congrArg some ho)) (if_n (by rw [c2]; decide) (he.trans ?_))))),?_⟩
      ·rw [if_neg c3,if_neg (show ¬ (o.2=0∧okP o.1) from fun h=>c3 h.2)]
      ·rw [if_neg (show ¬ (o.2=0∧okP o.1) from fun h=>c3 h.2)]; exact ht
    ·refine ⟨Er.wr 2001 (Er.no o.2),if_n (by omega) (if_i (by omega) (if_i (by omega) (bind_i ((Open_eq _ _ _ _).trans (congrArg some ho)) (if_i c2 (ltt_i fun x hx=>?_))))),?_⟩
     ·rw [hx,if_neg (show ¬ (o.2=0∧okP o.1) from fun h=>c2 h.1)]
     ·rw [if_neg (show ¬ (o.2=0∧okP o.1) from fun h=>c2 h.1)]; rfl
  obtain ⟨e,he,ht⟩:=main
  refine bind_i he (bind_i (told_eq e) ?_)
  rw [ht]
  by_cases c:s.length<12
  ·rw [if_pos c,if_pos c]
  ·rw [if_neg c,if_neg c]
   split <;> rfl
 ·rw [if_pos hk]
  exact if_i (by omega) rfl
end Go.Proofs
end

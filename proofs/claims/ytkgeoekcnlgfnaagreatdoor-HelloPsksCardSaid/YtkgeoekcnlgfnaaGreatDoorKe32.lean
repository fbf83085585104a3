/-
  Part 32 of the proof of what several laws share.
-/
import Derived.Test.YtkgeoekcnlgfnaaGreatDoorKe1
import Derived.Test.YtkgeoekcnlgfnaaGreatDoorKe2
import Derived.Test.YtkgeoekcnlgfnaaGreatDoorKe3
import Derived.Test.YtkgeoekcnlgfnaaGreatDoorKe4
import Derived.Test.YtkgeoekcnlgfnaaGreatDoorKe5
import Derived.Test.YtkgeoekcnlgfnaaGreatDoorKe6
import Derived.Test.YtkgeoekcnlgfnaaGreatDoorKe7
import Derived.Test.YtkgeoekcnlgfnaaGreatDoorKe14
import Derived.Test.YtkgeoekcnlgfnaaGreatDoorKe15
import Derived.Test.YtkgeoekcnlgfnaaGreatDoorKe16
import Derived.Test.YtkgeoekcnlgfnaaGreatDoorKe17
import Derived.Test.YtkgeoekcnlgfnaaGreatDoorKe18
import Derived.Test.YtkgeoekcnlgfnaaGreatDoorKe19
import Derived.Test.YtkgeoekcnlgfnaaGreatDoorKe20
import Derived.Test.YtkgeoekcnlgfnaaGreatDoorKe21
import Derived.Test.YtkgeoekcnlgfnaaGreatDoorKe22
import Derived.Test.YtkgeoekcnlgfnaaGreatDoorKe26
import Derived.Test.YtkgeoekcnlgfnaaGreatDoorKe27
import Derived.Test.YtkgeoekcnlgfnaaGreatDoorKe28
import Derived.Test.YtkgeoekcnlgfnaaGreatDoorKe29
import Derived.Test.YtkgeoekcnlgfnaaGreatDoorKe30
import Derived.Test.YtkgeoekcnlgfnaaGreatDoorKe31
set_option linter.unusedVariables false
set_option linter.unusedSimpArgs false
section
namespace Go.Proofs
open Go Go.Kx
open Vector (replicate)
abbrev okKey (key:Str):Prop:=key.length=16 ∨ key.length=32
def kw (key:Str):List V4:=(Wst key (key.length / 4) (4 * (key.length / 4+7))).2
def ek (key:Str) (b:V16):V16:=encV (keysOf (kw key)) b
theorem kw_len (key:Str):(kw key).length=4 * (key.length / 4+7):=Wst_len key _ _
theorem keys_len (key:Str):(keysOf (kw key)).length=key.length / 4+7:=by rw [keysOf_length,kw_len]; omega
theorem Enc_eq (key:Str) (hk:okKey key) (b:V16):aes_Cipher_Encrypt BOXV (keysOf (kw key)) b=some (ek key b) :=
 enc_eq _ b (by rw [keys_len]; omega) (by rw [keys_len]; unfold okKey at hk; omega)
theorem sched_eq (key:Str) (hk:okKey key):halberdref4_schedule key=some (kw key):=by
 unfold okKey at hk
 exact sch_eq key _ (by omega) (by omega)
theorem ciph_eq (key:Str) (hk:okKey key) (s:Str) (hs:s.length=16):halberdref4_cipher (kw key) s=some (ek key (toV s)).toList:=by
 unfold okKey at hk
 exact cipher_eq _ s (key.length / 4+7) (kw_len key) (by omega) (by omega) hs
def hE (key:Str):E2:=ld (ek key (replicate 16 0#8)).toList 0
theorem gNew_eq (key:Str) (hk:okKey key):gcm_New key=some (.inr (BOXV,key.length / 4+7,keysOf (kw key),(hE key).1,(hE key).2)):=by
 unfold gcm_New
 have hn:key.length / 4=4 ∨ key.length / 4=8:=by unfold okKey at hk; omega
 have h4:key.length=4 * (key.length / 4):=by unfold okKey at hk; omega
 refine bind_i (New_eq key _ hn h4) (if_i (keys_len key).symm (bind_i (Enc_eq key hk _) (bind_i (load_eq _ (by simp) (by simp)) ?_)))
 simp only
 rw [show (keysOf (Wst key (key.length / 4) (4 * (key.length / 4+7))).2).length=key.length / 4+7 from keys_len key]
 rfl
theorem gNew_none (key:Str) (hk : ¬ okKey key):gcm_New key=some (.inl ()):=by
 unfold gcm_New
 refine bind_i (v := .inl ()) ?_ rfl
 unfold okKey at hk
 unfold aes_New
 exact if_i (by omega) (if_i (by omega) rfl)
def cb (nonce:Str) (n:Nat):V16:=toV (nonce++bytesI (n:Int) 4)
theorem counter_eq (nonce:Str) (n:Nat) (hn:nonce.length=12) (h:n<4294967296):gcm_counter nonce (BitVec.ofNat 32 n)=some (cb nonce n):=by
 have hb:=bytesI_length (n:Int) 4
 have hbt : ∀ i,i<4 → (bytesI (n:Int) 4).getD i 0#8=((BitVec.ofNat 32 n) >>> (8 * (3 - i))).setWidth 8:=fun i hi=>by
  unfold bytesI
  rw [List.getD_eq_getElem?_getD,List.getElem?_map,List.getElem?_range hi]
  apply BitVec.eq_of_toNat_eq
  have h3:((n:Int) / 256 ^ (4 - 1 - i))=((n / 2 ^ (8 * (3 - i)):Nat):Int):=by
   rw [Nat.pow_mul]; simp
  simp only [Option.map_some,Option.getD_some,h3,BitVec.toNat_ofInt,BitVec.toNat_setWidth,BitVec.toNat_ushiftRight,BitVec.toNat_ofNat,Nat.shiftRight_eq_div_pow]
  rw [Nat.mod_eq_of_lt (a:=n) (by omega)]
  omega
 unfold gcm_counter
 refine ltt_i fun m hm=>bind_i (v:=cb nonce n) (loop_fn (fun k=>((k:Int),(Vector.ofFn fun i=>if 12≤i.val∧i.val+k<16 then 0#8 else (nonce++bytesI (n:Int) 4).getD i.val 0#8:V16))) 4 _ (by omega) ?_ (fun k hk=>?_) ?_) rfl
 ·refine Prod.ext rfl (vec_ext fun i hi=>?_)
  have ht:nonce.take (min nonce.length 16)=nonce:=List.take_of_length_le (by omega)
  rw [hm,ht,vg_vsp _ _ _ _ (by omega) hi,vg_ofFn hi]
  dsimp only
  by_cases c:i<12
  ·rw [if_pos (by omega),if_neg (by omega),List.getD_eq_getElem?_getD,List.getD_eq_getElem?_getD,List.getElem?_append_left (by omega),Nat.sub_zero]
   rfl
  ·rw [if_neg (by omega),if_pos (by omega),vg_eq' hi]; simp
 ·have e1:w64 ((k:Int)+1)=((k+1:Nat):Int):=w64_add (b:=1) (by omega)
  have e2:w64 (8 * (k:Int))=((8 * k:Nat):Int):=w64_mul (a:=8) (by omega)
  have e3:w64 (15 - (k:Int))=((15 - k:Nat):Int):=w64_sub (a:=15) (by omega) (by omega)
  unfold gcm_counter.b0
  simp only [e1,e2,e3,Int.toNat_natCast]
  clear e1 e2 e3
  refine if_i (by omega) (if_i (by omega) (if_i (by omega) (ltt_i fun m2 hm2=>?_)))
  have:m2=(Vector.ofFn fun i=>if 12≤i.val∧i.val+(k+1)<16 then 0#8 else (nonce++bytesI (n:Int) 4).getD i.val 0#8:V16):=by
   rw [hm2]
   refine vec_ext fun i hi=>?_
   rw [vg_vp (by omega) hi,vg_ofFn hi,vg_ofFn hi]
   dsimp only
   by_cases c:15 - k=i
   ·rw [if_pos c,if_neg (by omega),List.getD_eq_getElem?_getD,List.getElem?_append_right (by omega), ← List.getD_eq_getElem?_getD,hbt _ (by omega),show 8 * (3 - (i - nonce.length))=8 * k by omega]
   ·rw [if_neg c]
    by_cases c2:12≤i∧i+k<16
    ·rw [if_pos c2,if_pos (by omega)]
    ·rw [if_neg c2,if_neg (by omega)]
  rw [this]
 ·refine if_n (by show ¬ (((4:Nat):Int)<4); omega) (congrArg some (congrArg Sum.inr ?_))
  refine vec_ext fun i hi=>?_
  rw [vg_ofFn hi,cb,toV,vg_ofFn hi,if_neg (by omega)]
def xoB (key nonce:Str) (from_:Nat) (s:Str) (i:Nat):BitVec 8:=s.getD i 0#8 ^^^ vg (ek key (cb nonce (from_+i / 16))) (i % 16)
def xo (key nonce:Str) (from_:Nat) (s:Str):Str:=(List.range s.length).map (xoB key nonce from_ s)
theorem xo_length (key nonce:Str) (f:Nat) (s:Str):(xo key nonce f s).length=s.length:=by simp [xo]
def xoP (key nonce:Str) (s:Str) (m:Nat):Str:=(List.range s.length).map fun i=>if i<m then xoB key nonce 2 s i else s.getD i 0#8
theorem xoP_length (key nonce s:Str) (m:Nat):(xoP key nonce s m).length=s.length:=by simp [xoP]
theorem xoP_at (key nonce s:Str) (m i:Nat) (hi:i<s.length):lg (xoP key nonce s m) i=if i<m then xoB key nonce 2 s i else s.getD i 0#8:=by
 simp [lg,xoP,hi]
theorem xoP_set (key nonce s:Str) (m:Nat) (hm:m<s.length):(xoP key nonce s m).set m (xoB key nonce 2 s m)=xoP key nonce s (m+1):=by
 unfold xoP
 refine List.ext_getElem (by simp) fun i h1 h2=>?_
 simp only [List.getElem_set,List.getElem_map,List.getElem_range]
 by_cases c:m=i
 ·subst c; rw [if_pos rfl,if_pos (by omega)]
 ·rw [if_neg c]
  by_cases c2:i<m
  ·rw [if_pos c2,if_pos (by omega)]
  ·rw [if_neg c2,if_neg (by omega)]
theorem xor_b1 (key nonce b:Str) (k:Nat) (n:BitVec 32) (t0:Str) (hk:16 * k<b.length) (hl:b.length<1000000) :
  loop (gcm_Cipher_Xor.b1 b (16 * k,n,t0) (ek key (cb nonce (2+k))) ((min (b.length - 16 * k) 16:Nat):Int)) BIG (0,xoP key nonce b (16 * k))=some (xoP key nonce b (min (16 * (k+1)) b.length)):=by
 refine loop_fn (fun j=>((j:Int),xoP key nonce b (16 * k+j))) (min (b.length - 16 * k) 16) _ (by omega) rfl (fun j hj=>?_) ?_
 ·have e1:w64 ((j:Int)+1)=((j+1:Nat):Int):=w64_add (b:=1) (by omega)
  have hlen:=xoP_length key nonce b (16 * k+j)
  unfold gcm_Cipher_Xor.b1
  simp only [e1,Int.toNat_natCast]
  clear e1
  refine if_i (by omega) (if_i (by omega) (if_i (by omega) (if_i (by omega) (if_i (by omega) (if_i (by omega) (if_i (by omega) (if_i (by omega) (ltt_i fun m hm=>?_))))))))
  have:m=xoP key nonce b (16 * k+(j+1)):=by
   rw [hm,xoP_at _ _ _ _ _ (by omega),if_neg (by omega), ← Nat.add_assoc, ← xoP_set key nonce b (16 * k+j) (by omega)]
   unfold xoB
   rw [show (16 * k+j) / 16=k by omega,show (16 * k+j) % 16=j by omega]
  rw [this]
 ·unfold gcm_Cipher_Xor.b1
  refine if_n (by simp only; omega) ?_
  rw [show 16 * k+min (b.length - 16 * k) 16=min (16 * (k+1)) b.length by omega]
theorem Xor_eq (key nonce:Str) (hk:okKey key) (hn:nonce.length=12) (h:E2) (b:Str) (hl:b.length<1000000):gcm_Cipher_Xor BOXV (keysOf (kw key)) h.1 h.2 nonce b=some (xo key nonce 2 b):=by
 unfold gcm_Cipher_Xor
 refine bind_i (v:=xo key nonce 2 b) (loop_fn (fun k=>(min (16 * k) b.length,BitVec.ofNat 32 (2+k),xoP key nonce b (min (16 * k) b.length))) ((b.length+15) / 16) _ (by omega) ?_ (fun k hk2=>?_) ?_) rfl
 ·refine Prod.ext (by simp) (Prod.ext rfl ?_)
  show b=xoP key nonce b (min (16 * 0) b.length)
  unfold xoP
  refine List.ext_getElem (by simp) fun i h1 h2=>?_
  simp [h1]
 ·have hkb:16 * k<b.length:=by omega
  have hm1:min (16 * k) b.length=16 * k:=by omega
  rw [hm1]
  unfold gcm_Cipher_Xor.b0
  simp only
  refine if_i (by omega) (bind_i (counter_eq nonce (2+k) hn (by omega)) (bind_i (Enc_eq key hk _) (ltt_i fun m hm=>?_)))
  have hm2:m=((min (b.length - 16 * k) 16:Nat):Int):=by rw [hm]; omega
  rw [hm2]
  refine bind_i (xor_b1 key nonce b k _ _ hkb hl) ?_
  have hlen:=xoP_length key nonce b (min (16 * (k+1)) b.length)
  simp only [Int.toNat_natCast]
  refine if_i (by omega) (if_i (by omega) (if_i (by omega) (if_i (by omega) (ltt_i fun n1 hn1=>?_))))
  have h2k:BitVec.ofNat 32 (2+(k+1))=BitVec.ofNat 32 (2+k)+1#32:=by rw [show 2+(k+1)=(2+k)+1 by omega,BitVec.ofNat_add]
  rw [hn1,h2k,show 16 * k+min (b.length - 16 * k) 16=min (16 * (k+1)) b.length by omega]
 ·unfold gcm_Cipher_Xor.b0
  refine if_n (by simp only; omega) (congrArg some (congrArg Sum.inr ?_))
  simp only
  unfold xoP xo
  refine List.map_congr_left fun i hi=>?_
  have:i<b.length:=by simpa using hi
  rw [if_pos (by omega)]
def xoQ (key nonce:Str) (f:Nat) (s:Str) (m:Nat):Str:=(List.range s.length).map fun i=>if i<m then xoB key nonce f s i else 0#8
theorem xoQ_set (key nonce:Str) (f:Nat) (s:Str) (m:Nat) (hm:m<s.length):(xoQ key nonce f s m).set m (xoB key nonce f s m)=xoQ key nonce f s (m+1):=by
 unfold xoQ
 refine List.ext_getElem (by simp) fun i h1 h2=>?_
 simp only [List.getElem_set,List.getElem_map,List.getElem_range]
 by_cases c:m=i
 ·subst c; rw [if_pos rfl,if_pos (by omega)]
 ·rw [if_neg c]
  by_cases c2:i<m
  ·rw [if_pos c2,if_pos (by omega)]
  ·rw [if_neg c2,if_neg (by omega)]
theorem cnt_b1 (key nonce s:Str) (f k:Nat) (hk:16 * k<s.length) (hl:s.length<1000000) (t0:Str) :
  loop (halberdref4_counter.b1 s (((16 * k:Nat):Int),t0) (ek key (cb nonce (f+k))).toList) BIG (0,xoQ key nonce f s (16 * k))=some (xoQ key nonce f s (min (16 * (k+1)) s.length)):=by
 refine loop_fn (fun j=>((j:Int),xoQ key nonce f s (16 * k+j))) (min (s.length - 16 * k) 16) _ (by omega) rfl (fun j hj=>?_) ?_
 ·have e1:w64 ((j:Int)+1)=((j+1:Nat):Int):=w64_add (b:=1) (by omega)
  have e2:w64 (((16 * k:Nat):Int)+(j:Int))=((16 * k+j:Nat):Int):=w64_add (by omega)
  have hlen:(xoQ key nonce f s (16 * k+j)).length=s.length:=by simp [xoQ]
  unfold halberdref4_counter.b1
  simp only [e1,e2,Int.toNat_natCast,sg_nat]
  clear e1 e2
  refine if_i (by omega) (if_i (by omega) (if_i (by omega) (if_i (by simp; omega) (if_i (by omega) (if_i (by omega) (ltt_i fun m hm=>ltt_i fun j1 hj1=>?_))))))
  have:m=xoQ key nonce f s (16 * k+(j+1)):=by
   rw [hm, ← Nat.add_assoc, ← xoQ_set key nonce f s (16 * k+j) (by omega)]
   unfold xoB
   rw [show (16 * k+j) / 16=k by omega,show (16 * k+j) % 16=j by omega]
   rfl
  rw [hj1,this]
 ·unfold halberdref4_counter.b1
  have hend:16 * k+min (s.length - 16 * k) 16=min (16 * (k+1)) s.length:=by omega
  rw [hend]
  by_cases c:16≤s.length - 16 * k
  ·exact if_n (by simp only; omega) rfl
  ·have e2:w64 (((16 * k:Nat):Int)+((min (s.length - 16 * k) 16:Nat):Int))=((16 * k+min (s.length - 16 * k) 16:Nat):Int):=w64_add (by omega)
   simp only [e2]
   exact if_i (by omega) (if_n (by omega) rfl)
theorem counterR_eq (key nonce:Str) (hk:okKey key) (hn:nonce.length=12) (f:Nat) (hf:f<1000) (s:Str) (hl:s.length<1000000):halberdref4_counter (kw key) nonce (f:Int) s=some (xo key nonce f s):=by
 unfold halberdref4_counter
 refine if_i (by omega) (bind_i (v:=xo key nonce f s) (loop_fn (fun k=>(((16 * k:Nat):Int),xoQ key nonce f s (min (16 * k) s.length))) ((s.length+15) / 16) _ (by omega) ?_ (fun k hk2=>?_) ?_) (if_i (by rw [xo_length]; rfl) rfl))
 ·refine Prod.ext rfl ?_
  show List.replicate ((s.length:Int).toNat) 0#8=xoQ key nonce f s (min (16 * 0) s.length)
  unfold xoQ
  refine List.ext_getElem (by simp) fun i h1 h2=>?_
  simp
 ·have hkb:16 * k<s.length:=by omega
  have hm1:min (16 * k) s.length=16 * k:=by omega
  have e1:w64 (((16 * k:Nat):Int).tdiv 16)=(k:Int):=(w64_div (a:=16 * k) (b:=16) (by omega)).trans (by omega)
  have e2:w64 ((f:Int)+(k:Int))=((f+k:Nat):Int):=w64_add (by omega)
  have e3:w64 (((16 * k:Nat):Int)+16)=((16 * (k+1):Nat):Int):=(w64_add (b:=16) (by omega)).trans (by omega)
  have hb:=bytesI_length ((f+k:Nat):Int) 4
  rw [hm1]
  unfold halberdref4_counter.b0
  simp only [e1,e2,e3]
  clear e1 e2 e3
  refine if_i (by omega) (bind_i (Be_eq _ 4 (by decide)) (if_i (by omega) (bind_i (ciph_eq key hk _ (by rw [List.length_append]; omega)) (bind_i (cnt_b1 key nonce s f k hkb hl _) (ltt_i fun i hi=>?_)))))
  rw [hi]
 ·unfold halberdref4_counter.b0
  refine if_n (by simp only; omega) (congrArg some (congrArg Sum.inr ?_))
  simp only
  unfold xoQ xo
  refine List.map_congr_left fun i hi=>?_
  have:i<s.length:=by simpa using hi
  rw [if_pos (by omega)]
theorem ofN_byte (x:BitVec 64):((x >>> 8) <<< 8) ||| ((x.setWidth 8).setWidth 64)=x:=by
 apply BitVec.eq_of_getLsbD_eq
 intro i hi
 simp only [BitVec.getLsbD_or,BitVec.getLsbD_shiftLeft,BitVec.getLsbD_ushiftRight,BitVec.getLsbD_setWidth]
 by_cases c:i<8
 ·simp [c,hi]
 ·simp [c,hi,show 8+(i - 8)=i by omega]
theorem be8_word (s:Str) (a:Nat) (w:BitVec 64) (h : ∀ i,i<8 → s.getD (a+i) 0#8=(w >>> (8 * (7 - i))).setWidth 8):be8 s a 8=w:=by
 have : ∀ j,j≤8 → be8 s a j=w >>> (8 * (8 - j)):=by
  intro j
  induction j with
  | zero=>intro _; exact (BitVec.ushiftRight_eq_zero (Nat.le_refl _)).symm
  | succ j ih =>
   intro hj
   simp only [be8]
   rw [ih (by omega),h j (by omega)]
   have:=ofN_byte (w >>> (8 * (8 - (j+1))))
   rw [← BitVec.shiftRight_add,show 8 * (8 - (j+1))+8=8 * (8 - j) by omega] at this
   rw [show 8 * (7 - j)=8 * (8 - (j+1)) by omega]
   exact this
 have:=this 8 (Nat.le_refl _)
 simpa using this
theorem ld_by16 (e:E2):ld (by16 e) 0=e:=by
 unfold ld
 refine Prod.ext ?_ ?_
 ·exact be8_word _ _ _ fun i hi=>by rw [Nat.zero_add,byV_at e i (by omega),if_pos hi]
 ·exact be8_word _ _ _ fun i hi=>by rw [Nat.zero_add,byV_at e (8+i) (by omega),if_neg (by omega),show 8+i - 8=i by omega]
theorem bytesI8_hexW (L:Nat):bytesI (L:Int) 8=hexW (BitVec.ofNat 64 L) 8:=by
 unfold bytesI hexW
 refine List.map_congr_left fun i hi=>?_
 have hi8:i<8:=by simpa using hi
 apply BitVec.eq_of_toNat_eq
 have h3:((L:Int) / 256 ^ (8 - 1 - i))=((L / 2 ^ (8 * (8 - 1 - i)):Nat):Int):=by
  rw [Nat.pow_mul]; simp
 simp only [h3,BitVec.toNat_ofInt,BitVec.toNat_setWidth,BitVec.toNat_ushiftRight,BitVec.toNat_ofNat,Nat.shiftRight_eq_div_pow]
 rcases (by omega:i=0 ∨ i=1 ∨ i=2 ∨ i=3 ∨ i=4 ∨ i=5 ∨ i=6 ∨ i=7) with h | h | h | h | h | h | h | h <;> subst h <;> simp only [Nat.reduceSub,Nat.reduceMul,Nat.reducePow,Nat.reduceAdd] <;> omega
def szs (aad c:Str):E2:=(BitVec.ofNat 64 (8 * aad.length),BitVec.ofNat 64 (8 * c.length))
def tagY (key aad c:Str):E2:=ghs (hE key) (fil aad++fil c++by16 (szs aad c)) z2
def tagE (key nonce aad c:Str):Str:=xo key nonce 1 (by16 (tagY key aad c))
theorem ghs16 (h:E2) (s:Str) (y:E2) (hs:s.length=16):ghs h s y=prod (xr (ld s 0) y) h:=by
 unfold ghs
 rw [hs,show 16 / 16=0+1 from rfl]
 simp only [iter]
 unfold gh
 rw [Nat.mul_zero]
theorem tagY_eq (key aad c:Str):tagY key aad c=prod (xr (szs aad c) (ghs (hE key) (fil c) (ghs (hE key) (fil aad) z2))) (hE key):=by
 have h1:(fil aad).length % 16=0:=by rw [fil_length]; omega
 have h2:(fil c).length % 16=0:=by rw [fil_length]; omega
 unfold tagY
 rw [ghs_app _ _ _ _ (by rw [List.length_append]; omega),ghs_app _ _ _ _ h1,ghs16 _ _ _ (by16_length _),ld_by16]
theorem tag_b0 (V W:V16):loop (gcm_Cipher_Tag.b0 W) BIG (0,V)=some (Vector.ofFn fun i=>vg V i.val ^^^ vg W i.val):=by
 refine loop_fill _ (fun i=>vg V i ^^^ vg W i) id (by omega) (fun k v hk hv=>?_) (fun v=>?_)
 ·have e1:w64 ((k:Int)+1)=((k+1:Nat):Int):=w64_add (b:=1) (by omega)
  unfold gcm_Cipher_Tag.b0
  simp only [e1,Int.toNat_natCast]
  refine if_i (by omega) (if_i (by omega) (if_i (by omega) (if_i (by omega) (ltt_i fun m hm=>?_))))
  rw [hm,hv k (Nat.le_refl _) hk]
 ·unfold gcm_Cipher_Tag.b0
  exact if_n (by omega) rfl
theorem Tag_eq (key nonce:Str) (hk:okKey key) (hn:nonce.length=12) (aad b:Str) (ha:aad.length<1000000) (hb:b.length<1000000):gcm_Cipher_Tag BOXV (keysOf (kw key)) (hE key).1 (hE key).2 nonce aad b=some (tagE key nonce aad b):=by
 unfold gcm_Cipher_Tag
 obtain ⟨V1,hV1,he1⟩:=ebytes_eq (szs aad b)
 obtain ⟨V2,hV2,he2⟩:=ebytes_eq (tagY key aad b)
 have hsz : ∀ n:Nat,(BitVec.ofInt 64 (n:Int)) * 8#64=BitVec.ofNat 64 (8 * n):=fun n=>by
  rw [BitVec.ofInt_natCast,Nat.mul_comm,BitVec.ofNat_mul]
 refine bind_i (newSum_eq (hE key)) (bind_i (all_eq (hE key) z2 aad (by omega)) (bind_i (all_eq (hE key) _ b (by omega)) ?_))
 rw [hsz,hsz]
 refine bind_i he1 (bind_i (add_eq (hE key) _ _ (by simp) (by simp)) ?_)
 rw [hV1,ld_by16, ← tagY_eq]
 refine bind_i he2 (bind_i (counter_eq nonce 1 hn (by decide)) (bind_i (Enc_eq key hk _) (bind_i (tag_b0 _ _) (congrArg some ?_))))
 have hV2i : ∀ i,vg V2 i=(by16 (tagY key aad b)).getD i 0#8:=fun i=>by
  show V2.toList.getD i 0#8=_
  rw [hV2]
 unfold tagE xo
 generalize tagY key aad b=Y at hV2i
 rw [by16_length]
 refine List.ext_getElem (by simp) fun i h1 h2=>?_
 have hi:i<16:=by simpa using h1
 simp only [Vector.getElem_toList,Vector.getElem_ofFn,List.getElem_map,List.getElem_range]
 unfold xoB
 rw [show 1+i / 16=1 by omega,show i % 16=i by omega,hV2i]
theorem tagR_eq (key nonce:Str) (hk:okKey key) (hn:nonce.length=12) (aad c:Str) (ha:aad.length<1000000) (hc:c.length<1000000):halberdref4_tag (kw key) nonce aad c=some (tagE key nonce aad c):=by
 have e1 : ∀ n:Nat,n<1000000 → w64 (8 * (n:Int))=((8 * n:Nat):Int):=fun n h=>w64_mul (a:=8) (by omega)
 have f1:=fil_length aad
 have f2:=fil_length c
 unfold halberdref4_tag
 rw [e1 _ ha,e1 _ hc]
 have hz:toV (List.replicate 16 0#8)=replicate 16 0#8:=by decide +kernel
 refine if_i (by simp) (bind_i (ciph_eq key hk _ (by simp)) (bind_i (Be_eq _ 8 (by decide)) (bind_i (Be_eq _ 8 (by decide)) (if_i (by simp [bytesI_length]) (bind_i (filled_eq aad (by omega)) (bind_i (filled_eq c (by omega)) (if_i (by show (fil aad).length+(fil c).length≤_; omega) (if_i (by simp only [List.length_append,bytesI_length,List.length_replicate]; omega) ?_))))))))
 rw [hz]
 have hs:bytesI ((8 * aad.length:Nat):Int) 8++bytesI ((8 * c.length:Nat):Int) 8=by16 (szs aad c):=by
  rw [bytesI8_hexW,bytesI8_hexW]; rfl
 rw [hs]
 have hlen:(fil aad++fil c++by16 (szs aad c)).length<1152921504606846976:=by
  simp only [List.length_append,by16_length]; omega
 refine bind_i (ghash_eq _ _ (by simp) hlen) (bind_i (counterR_eq key nonce hk hn 1 (by decide) _ (by rw [by16_length]; decide)) rfl)
abbrev okG (key nonce aad:Str) (n most:Nat):Prop:=okKey key∧nonce.length=12∧aad.length≤65536∧n≤most
theorem may_eq (nonce aad:Str) (most long:Nat):gcm_may nonce aad (most:Int) (long:Int)=some (decide (nonce.length=12∧aad.length≤65536∧long≤most)):=by
 unfold gcm_may
 by_cases c1:nonce.length=12
 ·refine if_i (by omega) ?_
  by_cases c2:aad.length≤65536
  ·refine if_i (by omega) (ltt_i fun x hx=>?_)
   rw [hx]
   refine congrArg some ?_
   rw [decide_eq_decide]
   omega
  ·refine if_n (by omega) (congrArg some ?_)
   rw [eq_comm,decide_eq_false_iff_not]; omega
 ·refine if_n (by omega) (congrArg some ?_)
  rw [eq_comm,decide_eq_false_iff_not]; omega
theorem gcmMay_eq (key nonce aad s:Str) (more:Nat) (hm:more≤1000):halberdref4_gcmMay key nonce aad s (more:Int)=some (decide (okG key nonce aad s.length (65536+more))):=by
 have e1:w64 (65536+(more:Int))=((65536+more:Nat):Int):=w64_add (a:=65536) (by omega)
 unfold halberdref4_gcmMay okG okKey
 rw [e1]
 clear e1
 have tail : ∀ (hk:key.length=16 ∨ key.length=32),(if ((nonce).length:Int)=12 then (if ((aad).length:Int)≤65536 then (ltt (decide (((s).length:Int)≤((65536+more:Nat):Int))) fun (x1:Bool)=>(some x1)) else (some false)) else (some false))=some (decide ((key.length=16 ∨ key.length=32)∧nonce.length=12∧aad.length≤65536∧s.length≤65536+more)):=by
  intro hk
  by_cases c1:nonce.length=12
  ·refine if_i (by omega) ?_
   by_cases c2:aad.length≤65536
   ·refine if_i (by omega) (ltt_i fun x hx=>?_)
    rw [hx]
    refine congrArg some ?_
    rw [decide_eq_decide]
    omega
   ·refine if_n (by omega) (congrArg some ?_)
    rw [eq_comm,decide_eq_false_iff_not]; omega
  ·refine if_n (by omega) (congrArg some ?_)
   rw [eq_comm,decide_eq_false_iff_not]; omega
 by_cases k1:key.length=16
 ·exact if_i (by omega) (tail (.inl k1))
 ·refine if_n (by omega) ?_
  by_cases k2:key.length=32
  ·exact if_i (by omega) (tail (.inr k2))
  ·refine if_n (by omega) (congrArg some ?_)
   rw [eq_comm,decide_eq_false_iff_not]; omega
def sealE (key nonce aad s:Str):Str × Int:=if okG key nonce aad s.length 65536 then (xo key nonce 2 s++tagE key nonce aad (xo key nonce 2 s),0) else ([],500)
theorem tagE_length (key nonce aad c:Str):(tagE key nonce aad c).length=16:=by rw [tagE,xo_length,by16_length]
theorem SealR_eq (key nonce aad s:Str):halberdref4_GcmSeal key nonce aad s=some (sealE key nonce aad s):=by
 unfold halberdref4_GcmSeal sealE
 refine bind_i (gcmMay_eq key nonce aad s 0 (by decide)) ?_
 rw [Nat.add_zero]
 by_cases c:okG key nonce aad s.length 65536
 ·have hx:=xo_length key nonce 2 s
  have ht:=tagE_length key nonce aad (xo key nonce 2 s)
  obtain ⟨hk,hn,ha,hl⟩:=id c
  rw [if_pos c]
  refine if_n (by simp [c]) (bind_i (sched_eq key hk) (bind_i (counterR_eq key nonce hk hn 2 (by decide) s (by omega)) (bind_i (tagR_eq key nonce hk hn aad _ (by omega) (by omega)) (if_i (by omega) rfl))))
 ·rw [if_neg c]
  exact if_i (by simp [c]) rfl
def openE (key nonce aad s:Str):Str × Int :=
 if okG key nonce aad s.length 65552 then (if s.length<16 then ([],501) else if tagE key nonce aad (sub s 0 (s.length - 16)) ≠ sub s (s.length - 16) s.length then ([],501) else (xo key nonce 2 (sub s 0 (s.length - 16)),0)) else ([],500)
theorem Open_eq (key nonce aad s:Str):gcm_Open key nonce aad s=some (openE key nonce aad s):=by
 unfold gcm_Open openE
 by_cases hk:okKey key
 ·refine bind_i (gNew_eq key hk) (bind_i (may_eq nonce aad 65552 s.length) ?_)
  by_cases c:nonce.length=12∧aad.length≤65536∧s.length≤65552
  ·rw [if_pos (⟨hk,c⟩:okG key nonce aad s.length 65552)]
   have e0:w64 ((s.length:Int) - 16)=(s.length:Int) - 16:=w64_id (by omega) (by omega)
   refine if_n (by simp [c]) (ltt_i fun n1 hn1=>?_)
   rw [e0] at hn1
   clear e0
   by_cases c2:s.length<16
   ·rw [if_pos c2]
    exact if_i (by omega) rfl
   ·rw [if_neg c2]
    have hn:n1.toNat=s.length - 16:=by omega
    rw [hn]
    have hsl:(sub s 0 (s.length - 16)).length=s.length - 16:=by rw [sub_length (by omega)]; omega
    refine if_n (by omega) (if_i (by omega) (if_i (by omega) (if_i (keys_len key).symm (bind_i (Tag_eq key nonce hk c.1 aad _ (by omega) (by omega)) (if_i (by omega) (if_i (by omega) ?_))))))
    by_cases c3:tagE key nonce aad (sub s 0 (s.length - 16)) ≠ sub s (s.length - 16) s.length
    ·rw [if_pos c3,if_pos c3]
    ·rw [if_neg c3,if_neg c3]
     exact bind_i (Xor_eq key nonce hk c.1 _ _ (by omega)) (if_i (xo_length _ _ _ _) rfl)
  ·rw [if_neg (show ¬ okG key nonce aad s.length 65552 from fun h=>c h.2)]
   exact if_i (by simp [c]) rfl
 ·rw [if_neg (show ¬ okG key nonce aad s.length 65552 from fun h=>hk h.1)]
  exact bind_i (gNew_none key hk) rfl
end Go.Proofs
end

section
namespace Go.Proofs
open Go Go.Kx
theorem xo_xo (key nonce:Str) (f:Nat) (s:Str):xo key nonce f (xo key nonce f s)=s:=by
 unfold xo
 refine List.ext_getElem (by simp) fun i h1 h2=>?_
 simp only [List.getElem_map,List.getElem_range,xoB,List.getD_eq_getElem?_getD,List.getElem?_map,List.getElem?_range h2,Option.map_some,Option.getD_some,BitVec.xor_assoc,BitVec.xor_self,BitVec.xor_zero]
 rw [List.getElem?_eq_getElem h2]; rfl
theorem sub_pre (a b:Str) (n:Nat) (h:n=a.length):sub (a++b) 0 n=a:=by
 unfold sub; rw [h]; simp
theorem sub_suf (a b:Str) (n m:Nat) (h:n=a.length) (h2:m=(a++b).length):sub (a++b) n m=b:=by
 unfold sub; rw [h,h2]; simp
theorem open_seal (key nonce aad s:Str) (hk:okKey key) (hn:nonce.length=12) (ha:aad.length≤65536) (hs:s.length≤65536):openE key nonce aad (sealE key nonce aad s).1=(s,0):=by
 unfold sealE
 rw [if_pos ⟨hk,hn,ha,hs⟩]
 have hx:=xo_length key nonce 2 s
 have ht:=tagE_length key nonce aad (xo key nonce 2 s)
 have hl:(xo key nonce 2 s++tagE key nonce aad (xo key nonce 2 s)).length=s.length+16:=by rw [List.length_append]; omega
 unfold openE
 rw [if_pos ⟨hk,hn,ha,by simp only; omega⟩]
 simp only
 rw [if_neg (by omega),hl,show s.length+16 - 16=s.length by omega,sub_pre _ _ _ (by omega),sub_suf _ _ _ _ (by omega) hl.symm,if_neg (by simp),xo_xo]
end Go.Proofs
end

section
namespace Go.Proofs
open Go Go.Kx
open TryzI Tryz
def halberdref4_Sizes (suite:Int):Option (Int × Int × Int) :=
 ltt (decide (suite=4865)) fun (x1:Bool)=>(if x1=true then (some (16,256,0)) else (ltt (decide (suite=4866)) fun (x2:Bool)=>(if x2=true then (some (32,384,0)) else (ltt (decide (suite=4867)) fun (x3:Bool)=>(if x3=true then (some (32,256,0)) else (some (0,0,800)))))))
set_option maxHeartbeats 4000000 in
set_option maxRecDepth 20000 in
theorem F69_calls (suite:Int) (r:Int × Int × Int) (H:halberdref4_Sizes suite=some r) :
  Does Tryz.prog 69 [vi suite] [] [] (Γ:=Unit) (fun g=>Value.tuple [vi r.1,vi r.2.1,vi r.2.2].toArray) (fun g=>[]):=by
 intro w hmem hro hd
 refine calls_of (N:=12) (m0:=[(0,vi suite)]) func69 rfl ntmps69 (argM_ok [vi suite]) rfl hmem hro hd ?_
 unfold halberdref4_Sizes at H
 refine TC_seq (TC_region (TVa ?_))
 refine TVa ?_
 refine TVa ?_
 refine TL_nil (TX_next (TC_seq (TC_seq (TC_region (TVm ?_)))))
 refine TL_nil (TX_next (TC_block (TC_seq (TC_region (TLv (V_bin rfl rfl (fun w=>eqlI w suite 4865)) ?_)))))
 refine TVa ?_
 obtain ⟨x1,hx1,H⟩:=ltt_elim H
 refine TLr 6 (congrArg vb hx1) ?_
 refine TL_nil (TX_next (TCb H (fun hc H=>?_) (fun hc H=>?_)))
 ·refine TC_seq (TC_region (TVa ?_))
  refine TVa ?_
  refine TVa ?_
  refine TL_nil (TX_next (TC_ret (TX_block_ret (TX_then_ret ?_))))
  obtain rfl:=sj H
  exact TXr (vs:=[_,_,_]) rfl ⟨rfl,rfl,rfl,trivial⟩
 ·refine TC_seq (TC_region (TLv (V_bin rfl rfl (fun w=>eqlI w suite 4866)) ?_))
  refine TVa ?_
  obtain ⟨x2,hx2,H⟩:=ltt_elim H
  refine TLr 8 (congrArg vb hx2) ?_
  refine TL_nil (TX_next (TCb H (fun hc H=>?_) (fun hc H=>?_)))
  ·refine TC_seq (TC_region (TVa ?_))
   refine TVa ?_
   refine TVa ?_
   refine TL_nil (TX_next (TC_ret (TX_block_ret (TX_then_ret ?_))))
   obtain rfl:=sj H
   exact TXr (vs:=[_,_,_]) rfl ⟨rfl,rfl,rfl,trivial⟩
  ·refine TC_seq (TC_region (TLv (V_bin rfl rfl (fun w=>eqlI w suite 4867)) ?_))
   refine TVa ?_
   obtain ⟨x3,hx3,H⟩:=ltt_elim H
   refine TLr 10 (congrArg vb hx3) ?_
   refine TL_nil (TX_next (TCb H (fun hc H=>?_) (fun hc H=>?_)))
   ·refine TC_seq (TC_region (TVa ?_))
    refine TVa ?_
    refine TVa ?_
    refine TL_nil (TX_next (TC_ret (TX_block_ret (TX_then_ret ?_))))
    obtain rfl:=sj H
    exact TXr (vs:=[_,_,_]) rfl ⟨rfl,rfl,rfl,trivial⟩
   ·refine TC_skip (TX_block_normal (TX_next (TC_seq (TC_region (TVa ?_)))))
    refine TVa ?_
    refine TVa ?_
    refine TL_nil (TX_next (TC_ret ?_))
    obtain rfl:=sj H
    exact TXr (vs:=[_,_,_]) rfl ⟨rfl,rfl,rfl,trivial⟩
end Go.Proofs
end

section
namespace Go.Proofs
open Go Go.Kx
open TryzI Tryz
def halberdref19_Bits (suite:Int):Option (Int × Int) :=
 (halberdref4_Sizes suite).bind fun (r_1:Int × Int × Int)=>(if r_1.2.2 ≠ 0 then (some (0,1900)) else (some (r_1.2.1,0)))
set_option maxHeartbeats 4000000 in
set_option maxRecDepth 20000 in
theorem F42_calls (suite:Int) (r:Int × Int) (H:halberdref19_Bits suite=some r) :
  Does Tryz.prog 42 [vi suite] [] [] (Γ:=Unit) (fun g=>Value.tuple [vi r.1,vi r.2].toArray) (fun g=>[]):=by
 intro w hmem hro hd
 refine calls_of (N:=16) (m0:=[(0,vi suite)]) func42 rfl ntmps42 (argM_ok [vi suite]) rfl hmem hro hd ?_
 unfold halberdref19_Bits at H
 refine TC_seq (TC_region (TVa ?_))
 refine TVa ?_
 refine TL_nil (TX_next (TC_seq (TC_region (TVm ?_))))
 obtain ⟨r_1,hr_1,H⟩:=bind_elim H
 refine TLe (E_c0 (F69_calls suite r_1 hr_1) call69 .z) (fun g_1=>?_)
 refine TVm ?_
 refine TLv V_ex ?_
 refine TLv V_ex ?_
 refine TLv V_ex ?_
 refine TVa ?_
 refine TVa ?_
 refine TVa ?_
 refine TL_nil (TX_next (TC_seq (TC_seq (TC_region (TVm ?_)))))
 refine TLv (V_bin rfl rfl (fun w=>neqI w r_1.2.2 0)) ?_
 refine TL_nil (TX_next (TCd H (fun hc H=>?_) (fun hc H=>?_)))
 ·refine TC_seq (TC_region (TVa ?_))
  refine TVa ?_
  refine TL_nil (TX_next (TC_ret (TX_then_ret ?_)))
  obtain rfl:=sj H
  exact TX2
 ·refine TC_skip (TX_next (TC_seq (TC_region (TVm ?_))))
  refine TVa ?_
  refine TVa ?_
  refine TL_nil (TX_next (TC_ret ?_))
  obtain rfl:=sj H
  exact TX2
end Go.Proofs
end

section
namespace Go.Proofs
open Go Go.Kx
open TryzI Tryz
def halberdref19_SealTicket (key:Str) (nonce:Str) (t_Suite:Int) (t_Secret:Str) (t_Made:Int) (t_Add:Int):Option (Str × Int) :=
 (halberdref19_Bits t_Suite).bind fun (r_1:Int × Int)=>((if r_1.2 ≠ 0 then (some true) else (if ((key).length:Int) ≠ 32 then (some true) else (if ((nonce).length:Int) ≠ 12 then (some true) else (if ((t_Secret).length:Int) ≠ (w64 (r_1.1.tdiv 8)) then (some true) else (if t_Made<0 then (some true) else (if 4294967295<t_Made then (some true) else (if t_Add<0 then (some true) else (some (decide (4294967295<t_Add)))))))))).bind fun (j1:Bool)=>(if j1=true then (some (([]:Str),2000)) else ((halberdref1_Be t_Suite 2).bind fun (r_2:Str)=>((halberdref1_Be t_Made 4).bind fun (r_3:Str)=>(if (r_2).length+(r_3).length≤4611686018427387904 then ((halberdref1_Be t_Add 4).bind fun (r_4:Str)=>(if (r_2++r_3).length+(r_4).length≤4611686018427387904 then (if ((r_2++r_3)++r_4).length+(t_Secret).length≤4611686018427387904 then ((halberdref4_GcmSeal key nonce ([]:Str) (((r_2++r_3)++r_4)++t_Secret)).bind fun (r_5:Str × Int)=>(if (nonce).length+(r_5.1).length≤4611686018427387904 then (ltt (nonce++r_5.1) fun (x1:Str)=>(some (x1,0))) else none)) else none) else none)) else none)))))
set_option maxHeartbeats 4000000 in
set_option maxRecDepth 20000 in
theorem F29_calls (key:Str) (nonce:Str) (t_Suite:Int) (t_Secret:Str) (t_Made:Int) (t_Add:Int) (r:Str × Int) (H:halberdref19_SealTicket key nonce t_Suite t_Secret t_Made t_Add=some r) :
  Does Tryz.prog 29 [vs key,vs nonce,aG [(1,[vi t_Suite]),(1,[vs t_Secret]),(1,[vi t_Made]),(1,[vi t_Add])]] [] [] (Γ:=Unit) (fun g=>Value.tuple [vs r.1,vi r.2].toArray) (fun g=>[]):=by
 intro w hmem hro hd
 refine calls_of (N:=81) (m0:=[(0,vs key),(1,vs nonce),(2,aG [(1,[vi t_Suite]),(1,[vs t_Secret]),(1,[vi t_Made]),(1,[vi t_Add])])]) func29 rfl ntmps29 (argM_ok [vs key,vs nonce,aG [(1,[vi t_Suite]),(1,[vs t_Secret]),(1,[vi t_Made]),(1,[vi t_Add])]]) rfl hmem hro hd ?_
 unfold halberdref19_SealTicket at H
 refine TC_seq (TC_region (TLe (E_boxP [(1,[vi t_Suite]),(1,[vs t_Secret]),(1,[vi t_Made]),(1,[vi t_Add])] rfl rfl ⟨rfl,rfl,rfl,rfl,trivial⟩) (fun b1=>?_)))
 refine TVa ?_
 refine TVa ?_
 refine TL_nil (TX_next (TC_seq (TC_region (TLv (V_fieldE rfl underlying66 rfl rfl inf3 rfl (v:=ptr (some (b1,0)) 0) rfl) ?_))))
 refine TLv (V_load rfl (.o 0) rfl isAgg3) ?_
 obtain ⟨r_1,hr_1,H⟩:=bind_elim H
 refine TLe (E_c0 (F42_calls t_Suite r_1 hr_1) call42 .z) (fun g_1=>?_)
 refine TVm ?_
 refine TLv V_ex ?_
 refine TLv V_ex ?_
 refine TVa ?_
 refine TVa ?_
 refine TL_nil (TX_next (TC_seq (TC_seq (TC_region (TVm ?_)))))
 refine TLv (V_bin rfl rfl (fun w=>neqI w r_1.2 0)) ?_
 refine TVm ?_
 obtain ⟨j1,Hj,H⟩:=bind_elim H
 refine TL_join (Γ:=Unit) (fun gj1=>[(0,vs key),(1,vs nonce),(5,ptr (some (b1,0)) 0),(57,vb j1)]) (fun gj1=>[⟨some (b1,0),[vi t_Suite]⟩,⟨some (b1,1),[vs t_Secret]⟩,⟨some (b1,2),[vi t_Made]⟩,⟨some (b1,3),[vi t_Add]⟩]) ?_ ?_
 ·intro gj1
  refine TX_next (TCb H (fun hc H=>?_) (fun hc H=>?_))
  ·refine TC_seq (TC_region (TVa ?_))
   refine TVa ?_
   refine TL_nil (TX_next (TC_ret (TX_then_ret ?_)))
   obtain rfl:=sj H
   exact TX2
  ·refine TC_skip (TX_next (TC_seq ?_))
   obtain ⟨r_2,hr_2,H⟩:=bind_elim H
   obtain ⟨r_3,hr_3,H⟩:=bind_elim H
   obtain ⟨h1,H⟩:=if_elim H
   obtain ⟨r_4,hr_4,H⟩:=bind_elim H
   obtain ⟨h2,H⟩:=if_elim H
   obtain ⟨h3,H⟩:=if_elim H
   obtain ⟨r_5,hr_5,H⟩:=bind_elim H
   refine TA_begin [] 22 (by kernel_rfl) (N:=22) rfl ?_
   refine TA_mix (is:=[]) (done':=dn 22 4194303) [itV 0 59 (vs key) [],itV 1 60 (vs nonce) [],itV 2 61 (ptr (some (b1,0)) 0) [],itV 3 62 (vi t_Suite) [2],itV 4 63 (vs r_2) [3],itV 5 64 (ptr (some (b1,2)) 0) [],itV 6 65 (vi t_Made) [5],itV 7 66 (vs r_3) [6],itV 8 67 (vs (r_2++r_3)) [7,4],itV 9 68 (ptr (some (b1,3)) 0) [],itV 10 69 (vi t_Add) [9],itV 11 70 (vs r_4) [10],itV 12 71 (vs ((r_2++r_3)++r_4)) [8,11],itV 13 72 (ptr (some (b1,1)) 0) [],itV 14 73 (vs t_Secret) [13],itV 15 74 (vs (((r_2++r_3)++r_4)++t_Secret)) [14,12],itV 16 75 (Value.tuple [vs r_5.1,vi r_5.2].toArray) [15,0,1],itV 17 58 (Value.tuple [vs r_5.1,vi r_5.2].toArray) [16],itV 18 76 (vs r_5.1) [17],itV 19 77 (vi r_5.2) [17],itV 20 10 (vs r_5.1) [18],itV 21 11 (vi r_5.2) [19]] [] 0 (by kernel_rfl) (QP.then QP.body) (by kernel_rfl) rfl (.v rfl (V_move rfl) (.v rfl (V_move rfl) (.v rfl (V_fe underlying66 inf3) (.v rfl (V_load rfl (.o 0) rfl isAgg3) (.e rfl (E_cu (F60_calls t_Suite 2 r_2 hr_2) call60 .z) (.v rfl (V_fe underlying66 inf3) (.v rfl (V_load rfl (.o 2) rfl isAgg3) (.e rfl (E_cu (F60_calls t_Made 4 r_3 hr_3) call60 .z) (.v rfl (V_bin rfl rfl (fun w=>addS w r_2 r_3 h1)) (.v rfl (V_fe underlying66 inf3) (.v rfl (V_load rfl (.o 3) rfl isAgg3) (.e rfl (E_cu (F60_calls t_Add 4 r_4 hr_4) call60 .z) (.v rfl (V_bin rfl rfl (fun w=>addS w (r_2++r_3) r_4 h2)) (.v rfl (V_fe underlying66 inf9) (.v rfl (V_load rfl (.o 1) rfl isAgg9) (.v rfl (V_bin rfl rfl (fun w=>addS w ((r_2++r_3)++r_4) t_Secret h3)) (.e rfl (E_cu (F59_calls key nonce ([]:Str) (((r_2++r_3)++r_4)++t_Secret) r_5 hr_5) call59 .z) (.v rfl (V_move rfl) (.v rfl V_ex (.v rfl V_ex (.v rfl (V_assign rfl) (.v rfl (V_assign rfl) .nil)))))))))))))))))))))) .nil (by kernel_rfl) rfl (fun γ=>?_)
   refine TA_cut [(10,vs r_5.1),(1,vs nonce)] [⟨some (b1,0),[vi t_Suite]⟩,⟨some (b1,1),[vs t_Secret]⟩,⟨some (b1,2),[vi t_Made]⟩,⟨some (b1,3),[vi t_Add]⟩] ⟨rfl,rfl,trivial⟩ rfl ?_
   refine TA_done (by kernel_rfl) ?_ 0
   refine TX_next (TC_seq (TC_region (TVm ?_)))
   refine TVm ?_
   obtain ⟨h4,H⟩:=if_elim H
   refine TLv (V_bin rfl rfl (fun w=>addS w nonce r_5.1 h4)) ?_
   refine TVa ?_
   obtain ⟨x1,hx1,H⟩:=ltt_elim H
   refine TLr 6 (congrArg vs hx1) ?_
   refine TVa ?_
   refine TL_nil (TX_next (TC_ret ?_))
   obtain rfl:=sj H
   exact TX2
 ·intro hJ
  replace H:=Hj
  refine TFd (d:=20) H (fun hc H=>?_) (fun hc H=>?_)
  ·refine TLs ?_
   refine TLs ?_
   refine TLs ?_
   refine TVt ?_
   refine TVm ?_
   refine TLs ?_
   refine TLs ?_
   refine TLs ?_
   refine TVt ?_
   refine TVm ?_
   refine TLs ?_
   refine TLs ?_
   refine TLs ?_
   refine TLs ?_
   refine TLs ?_
   refine TLs ?_
   refine TVt ?_
   refine TVm ?_
   refine TLs ?_
   refine TLs ?_
   refine TLs ?_
   refine TVt ?_
   refine TVm ?_
   refine TLs ?_
   refine TLs ?_
   refine TLs ?_
   refine TVt ?_
   refine TVm ?_
   refine TLs ?_
   refine TLs ?_
   refine TLs ?_
   refine TVt ?_
   refine TVm ?_
   refine TLs ?_
   refine TLs ?_
   refine TLs ?_
   refine TVt ?_
   refine TL_nil ?_
   obtain rfl:=sj H
   exact TXj [0,0,0,0] (hJ ())
  ·refine TLw (V_move rfl) ?_
   refine TLw (V_len_str rfl underlying9) ?_
   refine TLw (V_bin rfl rfl (fun w=>neqI w ((key).length:Int) 32)) ?_
   refine TVf ?_
   refine TVm ?_
   refine TFd (d:=25) H (fun hc H=>?_) (fun hc H=>?_)
   ·refine TLs ?_
    refine TLs ?_
    refine TLs ?_
    refine TVt ?_
    refine TVm ?_
    refine TLs ?_
    refine TLs ?_
    refine TLs ?_
    refine TLs ?_
    refine TLs ?_
    refine TLs ?_
    refine TVt ?_
    refine TVm ?_
    refine TLs ?_
    refine TLs ?_
    refine TLs ?_
    refine TVt ?_
    refine TVm ?_
    refine TLs ?_
    refine TLs ?_
    refine TLs ?_
    refine TVt ?_
    refine TVm ?_
    refine TLs ?_
    refine TLs ?_
    refine TLs ?_
    refine TVt ?_
    refine TVm ?_
    refine TLs ?_
    refine TLs ?_
    refine TLs ?_
    refine TVt ?_
    refine TL_nil ?_
    obtain rfl:=sj H
    exact TXj [0,0,0,0] (hJ ())
   ·refine TLw (V_move rfl) ?_
    refine TLw (V_len_str rfl underlying9) ?_
    refine TLw (V_bin rfl rfl (fun w=>neqI w ((nonce).length:Int) 12)) ?_
    refine TVf ?_
    refine TVm ?_
    refine TFd (d:=30) H (fun hc H=>?_) (fun hc H=>?_)
    ·refine TLs ?_
     refine TLs ?_
     refine TLs ?_
     refine TLs ?_
     refine TLs ?_
     refine TLs ?_
     refine TVt ?_
     refine TVm ?_
     refine TLs ?_
     refine TLs ?_
     refine TLs ?_
     refine TVt ?_
     refine TVm ?_
     refine TLs ?_
     refine TLs ?_
     refine TLs ?_
     refine TVt ?_
     refine TVm ?_
     refine TLs ?_
     refine TLs ?_
     refine TLs ?_
     refine TVt ?_
     refine TVm ?_
     refine TLs ?_
     refine TLs ?_
     refine TLs ?_
     refine TVt ?_
     refine TL_nil ?_
     obtain rfl:=sj H
     exact TXj [0,0,0,0] (hJ ())
    ·refine TLw (V_fieldE rfl underlying66 rfl rfl inf9 rfl (v:=ptr (some (b1,1)) 0) rfl) ?_
     refine TLw (V_load rfl (.o 1) rfl isAgg9) ?_
     refine TLw (V_len_str rfl underlying9) ?_
     refine TLw (V_move rfl) ?_
     refine TLw (V_bin rfl rfl (fun w=>quoI w r_1.1 8 (by decide))) ?_
     refine TLw (V_bin rfl rfl (fun w=>neqI w ((t_Secret).length:Int) (w64 (r_1.1.tdiv 8)))) ?_
     refine TVf ?_
     refine TVm ?_
     refine TFd (d:=38) H (fun hc H=>?_) (fun hc H=>?_)
     ·refine TLs ?_
      refine TLs ?_
      refine TLs ?_
      refine TVt ?_
      refine TVm ?_
      refine TLs ?_
      refine TLs ?_
      refine TLs ?_
      refine TVt ?_
      refine TVm ?_
      refine TLs ?_
      refine TLs ?_
      refine TLs ?_
      refine TVt ?_
      refine TVm ?_
      refine TLs ?_
      refine TLs ?_
      refine TLs ?_
      refine TVt ?_
      refine TL_nil ?_
      obtain rfl:=sj H
      exact TXj [0,0,0,0] (hJ ())
     ·refine TLw (V_fieldE rfl underlying66 rfl rfl inf3 rfl (v:=ptr (some (b1,2)) 0) rfl) ?_
      refine TLw (V_load rfl (.o 2) rfl isAgg3) ?_
      refine TLw (V_bin rfl rfl (fun w=>lssI w t_Made 0)) ?_
      refine TVf ?_
      refine TVm ?_
      refine TFd (d:=43) H (fun hc H=>?_) (fun hc H=>?_)
      ·refine TLs ?_
       refine TLs ?_
       refine TLs ?_
       refine TVt ?_
       refine TVm ?_
       refine TLs ?_
       refine TLs ?_
       refine TLs ?_
       refine TVt ?_
       refine TVm ?_
       refine TLs ?_
       refine TLs ?_
       refine TLs ?_
       refine TVt ?_
       refine TL_nil ?_
       obtain rfl:=sj H
       exact TXj [0,0,0,0] (hJ ())
      ·refine TLw (V_fieldE rfl underlying66 rfl rfl inf3 rfl (v:=ptr (some (b1,2)) 0) rfl) ?_
       refine TLw (V_load rfl (.o 2) rfl isAgg3) ?_
       refine TLw (V_bin rfl rfl (fun w=>gtrI w t_Made 4294967295)) ?_
       refine TVf ?_
       refine TVm ?_
       refine TFd (d:=48) H (fun hc H=>?_) (fun hc H=>?_)
       ·refine TLs ?_
        refine TLs ?_
        refine TLs ?_
        refine TVt ?_
        refine TVm ?_
        refine TLs ?_
        refine TLs ?_
        refine TLs ?_
        refine TVt ?_
        refine TL_nil ?_
        obtain rfl:=sj H
        exact TXj [0,0,0,0] (hJ ())
       ·refine TLw (V_fieldE rfl underlying66 rfl rfl inf3 rfl (v:=ptr (some (b1,3)) 0) rfl) ?_
        refine TLw (V_load rfl (.o 3) rfl isAgg3) ?_
        refine TLw (V_bin rfl rfl (fun w=>lssI w t_Add 0)) ?_
        refine TVf ?_
        refine TVm ?_
        refine TFd (d:=53) H (fun hc H=>?_) (fun hc H=>?_)
        ·refine TLs ?_
         refine TLs ?_
         refine TLs ?_
         refine TVt ?_
         refine TL_nil ?_
         obtain rfl:=sj H
         exact TXj [0,0,0,0] (hJ ())
        ·refine TLw (V_fieldE rfl underlying66 rfl rfl inf3 rfl (v:=ptr (some (b1,3)) 0) rfl) ?_
         refine TLw (V_load rfl (.o 3) rfl isAgg3) ?_
         refine TLw (V_bin rfl rfl (fun w=>gtrI w t_Add 4294967295)) ?_
         refine TVf ?_
         refine TL_nil ?_
         obtain rfl:=sj H
         exact TXj [0,0,0,0] (hJ ())
end Go.Proofs
end

section
namespace Go.Proofs
open Go Go.Kx
theorem or_byte (a b:Nat) (ha:a<4294967296) (hb:b<256):iop (· ||| ·) (shlI' (a:Int) 8) (b:Int)=((a * 256+b:Nat):Int):=by
 unfold iop shlI'
 have e1:w64 ((a:Int) * 2 ^ (min (8:Int).toNat 64))=((a * 256:Nat):Int):=by
  rw [show min (8:Int).toNat 64=8 from rfl,w64_id (by omega) (by omega)]; omega
 rw [e1]
 have e2:(BitVec.ofInt 64 ((a * 256:Nat):Int) ||| BitVec.ofInt 64 (b:Int)).toNat=a * 256+b:=by
  rw [BitVec.ofInt_natCast,BitVec.ofInt_natCast,BitVec.toNat_or,BitVec.toNat_ofNat,BitVec.toNat_ofNat,Nat.mod_eq_of_lt (by omega),Nat.mod_eq_of_lt (by omega)]
  rw [show a * 256=a <<< 8 from by rw [Nat.shiftLeft_eq]]
  rw [← Nat.shiftLeft_add_eq_or_of_lt (by omega:b<2 ^ 8)]
 rw [e2]
 exact w64_nat (by omega)
def numB (s:Str) (a:Nat):Nat → Nat
 | 0=>0
 | n+1=>numB s a n * 256+(s.getD (a+n) 0#8).toNat
theorem numB_lt (s:Str) (a:Nat) : ∀ n,numB s a n<256 ^ n
 | 0=>by simp [numB]
 | n+1=>by
  have:=numB_lt s a n
  have h2:=(s.getD (a+n) 0#8).isLt
  rw [Nat.pow_succ]
  show numB s a n * 256+_<_
  omega
def rdN (s:Str) (a n:Nat):Int × Int × Int:=if a+n≤s.length then ((numB s a n:Nat),((a+n:Nat):Int),0) else (0,0,100)
theorem rd_step (s:Str) (a n k:Nat) (hk:k<n) (hn:n≤4) (h:a+n≤s.length):iop (· ||| ·) (shlI' (numB s a k:Int) 8) ((sg s ((a+k:Nat):Int)).toNat:Int)=((numB s a (k+1):Nat):Int):=by
 have h1:=numB_lt s a k
 have h2:(256:Nat) ^ k≤256 ^ 3:=Nat.pow_le_pow_right (by decide) (by omega)
 unfold sg
 rw [Int.toNat_natCast]
 exact or_byte _ _ (by omega) (s.getD (a+k) 0#8).isLt
theorem number_eq (s:Str) (a n:Nat) (hn:n≤4) (hs:s.length<1152921504606846976) (ha:a<1152921504606846976):wire_number s (a:Int) (n:Int)=some (rdN s a n):=by
 have e1:w64 ((s.length:Int) - (a:Int))=(s.length:Int) - (a:Int):=w64_id (by omega) (by omega)
 have e2:w64 ((a:Int)+(n:Int))=((a+n:Nat):Int):=by rw [w64_id (by omega) (by omega)]; omega
 unfold wire_number rdN
 rw [e1,e2]
 clear e1 e2
 by_cases c:a+n≤s.length
 ·rw [if_pos c]
  refine if_n (by omega) (if_n (by omega) (if_n (by omega) (bind_i (v:=((numB s a n:Nat):Int)) (loop_fn (fun k=>(((numB s a k:Nat):Int),(k:Int))) n _ (by omega) rfl (fun k hk=>?_) ?_) rfl)))
  ·have e3:w64 ((a:Int)+(k:Int))=((a+k:Nat):Int):=by rw [w64_id (by omega) (by omega)]; omega
   have e4:w64 ((k:Int)+1)=((k+1:Nat):Int):=by rw [w64_id (by omega) (by omega)]; omega
   unfold wire_number.b0
   simp only [e3,e4]
   clear e3 e4
   refine if_i (by omega) (if_i (by omega) (ltt_i fun x hx=>?_))
   rw [hx,rd_step s a n k hk hn c]
  ·unfold wire_number.b0
   exact if_n (by dsimp only; omega) rfl
 ·rw [if_neg c]
  refine if_n (by omega) ?_
  by_cases c2:s.length<a
  ·exact if_i (by omega) rfl
  ·exact if_n (by omega) (if_i (by omega) rfl)
theorem bytesI_getD (x:Int) (n i:Nat) (h:i<n):(bytesI x n).getD i 0#8=BitVec.ofInt 8 (x / 256 ^ (n - 1 - i)):=by
 simp [bytesI,List.getD,h]
theorem ofInt8_toNat (x:Int):((BitVec.ofInt 8 x).toNat:Int)=x % 256:=by
 rw [BitVec.toNat_ofInt]
 have:0≤x % ((2 ^ 8:Nat):Int):=Int.emod_nonneg _ (by decide)
 rw [Int.toNat_of_nonneg this]; rfl
theorem numB_div (s:Str) (a k:Nat) : ∀ j,numB s a (k+j) / 256 ^ j=numB s a k
 | 0=>by simp
 | j+1=>by
  have h2:=(s.getD (a+(k+j)) 0#8).isLt
  show (numB s a (k+j) * 256+(s.getD (a+(k+j)) 0#8).toNat) / 256 ^ (j+1)=_
  rw [Nat.pow_succ,Nat.mul_comm (256 ^ j) 256, ← Nat.div_div_eq_div_mul]
  rw [show (numB s a (k+j) * 256+(s.getD (a+(k+j)) 0#8).toNat) / 256=numB s a (k+j) from by omega]
  exact numB_div s a k j
theorem num_enc (s:Str) (a n x:Nat) (hx:x<256 ^ n) (hb : ∀ i,i<n → (s.getD (a+i) 0#8).toNat=x / 256 ^ (n - 1 - i) % 256):numB s a n=x:=by
 have key : ∀ k,k≤n → numB s a k=x / 256 ^ (n - k):=by
  intro k
  induction k with
  | zero=>intro _; rw [Nat.sub_zero,Nat.div_eq_of_lt hx]; rfl
  | succ k ih =>
   intro hk
   show numB s a k * 256+(s.getD (a+k) 0#8).toNat=_
   rw [ih (by omega),hb k (by omega)]
   have e:n - k=(n - (k+1))+1:=by omega
   have e2:n - 1 - k=n - (k+1):=by omega
   rw [e,e2,Nat.pow_succ, ← Nat.div_div_eq_div_mul]
   omega
 have:=key n (Nat.le_refl _)
 rwa [Nat.sub_self,Nat.pow_zero,Nat.div_one] at this
theorem ofInt8_nat (x j:Nat):(BitVec.ofInt 8 ((x:Int) / 256 ^ j)).toNat=x / 256 ^ j % 256:=by
 have h:=ofInt8_toNat ((x:Int) / 256 ^ j)
 have e:(x:Int) / 256 ^ j=((x / 256 ^ j:Nat):Int):=by rw [Int.natCast_ediv]; simp
 rw [e] at h ⊢
 omega
theorem num_at (p r:Str) (n x:Nat) (hx:x<256 ^ n):numB (p++(bytesI (x:Int) n++r)) p.length n=x:=by
 refine num_enc _ _ _ _ hx fun i hi=>?_
 have:(p++(bytesI (x:Int) n++r)).getD (p.length+i) 0#8=(bytesI (x:Int) n).getD i 0#8:=by
  rw [List.getD_eq_getElem?_getD,List.getD_eq_getElem?_getD,List.getElem?_append_right (by omega),Nat.add_sub_cancel_left,List.getElem?_append_left (by rw [bytesI_length]; exact hi)]
 rw [this,bytesI_getD _ _ _ hi,ofInt8_nat]
theorem enc_num (s:Str) (a n:Nat) (h:a+n≤s.length):bytesI ((numB s a n:Nat):Int) n=sub s a (a+n):=by
 refine List.ext_getElem (by rw [bytesI_length,sub_length h]; omega) fun i h1 h2=>?_
 have hi:i<n:=by rw [bytesI_length] at h1; exact h1
 have e1:(bytesI ((numB s a n:Nat):Int) n).getD i 0#8=(sub s a (a+n)).getD i 0#8:=by
  rw [bytesI_getD _ _ _ hi,sub_getD _ _ _ _ (by omega)]
  apply BitVec.eq_of_toNat_eq
  rw [ofInt8_nat]
  have hd:=numB_div s a (i+1) (n - 1 - i)
  rw [show i+1+(n - 1 - i)=n from by omega] at hd
  rw [hd]
  have h2:=(s.getD (a+i) 0#8).isLt
  show (numB s a i * 256+(s.getD (a+i) 0#8).toNat) % 256=_
  omega
 simpa [List.getD,h1,h2] using e1
end Go.Proofs
end

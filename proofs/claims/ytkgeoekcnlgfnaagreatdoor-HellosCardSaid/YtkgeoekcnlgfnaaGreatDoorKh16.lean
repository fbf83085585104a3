/-
  Part 16 of the proof of what several laws share.
-/
import Derived.Test.YtkgeoekcnlgfnaaGreatDoorKh15
set_option maxHeartbeats 4000000
set_option maxRecDepth 20000
set_option linter.unusedVariables false
set_option linter.unusedSimpArgs false
section
namespace Go.Proofs
open Go Go.Kx
open Vector (replicate)
abbrev NW (key:Str):Prop:=key.length=16 ∨ key.length=32
def kw (key:Str):List V4:=(II key (key.length / 4) (4 * (key.length / 4+7))).2
def ek (key:Str) (b:KA):KA:=rO (keysOf (kw key)) b
theorem nV (key:Str):(kw key).length=4 * (key.length / 4+7):=KD key _ _
theorem Jn (key:Str):(keysOf (kw key)).length=key.length / 4+7:=by rw [Lm,nV]; omega
theorem xu (key:Str) (hk:NW key) (b:KA):Zp OY (keysOf (kw key)) b=some (ek key b) :=
 dM _ b (by rw [Jn]; omega) (by rw [Jn]; unfold NW at hk; omega)
theorem xP (key:Str) (hk:NW key):ZU key=some (kw key):=by
 unfold NW at hk
 exact aj key _ (by omega) (by omega)
theorem sD (key:Str) (hk:NW key) (s:Str) (hs:s.length=16):ZF (kw key) s=some (ek key (oF s)).toList:=by
 unfold NW at hk
 exact rD _ s (key.length / 4+7) (nV key) (by omega) (by omega) hs
def hE (key:Str):E2:=ld (ek key (replicate 16 0#8)).toList 0
theorem gK (key:Str) (hk:NW key):Kg key=some (.inr (OY,key.length / 4+7,keysOf (kw key),(hE key).1,(hE key).2)):=by
 unfold Kg
 have hn:key.length / 4=4 ∨ key.length / 4=8:=by unfold NW at hk; omega
 have h4:key.length=4 * (key.length / 4):=by unfold NW at hk; omega
 refine Z5 (ax key _ hn h4) (ZM (Jn key).symm (Z5 (xu key hk _) (Z5 (uf _ (by simp) (by simp)) ?_)))
 simp only
 rw [show (keysOf (II key (key.length / 4) (4 * (key.length / 4+7))).2).length=key.length / 4+7 from Jn key]
 rfl
theorem rJ (key:Str) (hk : ¬ NW key):Kg key=some (.inl ()):=by
 unfold Kg
 refine Z5 (v := .inl ()) ?_ rfl
 unfold NW at hk
 unfold WH
 exact Z5 (v:=true) (ZM (by omega) (by rw [decide_eq_true (by omega)])) (ZM rfl rfl)
def cb (ZA:Str) (n:Nat):KA:=oF (ZA++TJ (n:Int) 4)
theorem DN (ZA:Str) (n:Nat) (hn:ZA.length=12) (h:n<4294967296):Tp ZA (BitVec.ofNat 32 n)=some (cb ZA n):=by
 have hb:=Vv (n:Int) 4
 have hbt : ∀ i,i<4 → (TJ (n:Int) 4).getD i 0#8=((BitVec.ofNat 32 n) >>> (8 * (3 - i))).setWidth 8:=fun i hi=>by
  unfold TJ
  rw [List.getD_eq_getElem?_getD,List.getElem?_map,List.getElem?_range hi]
  apply BitVec.eq_of_toNat_eq
  have h3:((n:Int) / 256 ^ (4 - 1 - i))=((n / 2 ^ (8 * (3 - i)):Nat):Int):=by
   rw [Nat.pow_mul]; simp
  simp only [Option.map_some,Option.getD_some,h3,BitVec.toNat_ofInt,BitVec.toNat_setWidth,BitVec.toNat_ushiftRight,BitVec.toNat_ofNat,Nat.shiftRight_eq_div_pow]
  rw [Nat.mod_eq_of_lt (a:=n) (by omega)]
  omega
 unfold Tp
 refine Ze fun m hm=>Z5 (v:=cb ZA n) (Vw (fun k=>((k:Int),(Vector.ofFn fun i=>if 12≤i.val∧i.val+k<16 then 0#8 else (ZA++TJ (n:Int) 4).getD i.val 0#8:KA))) 4 _ (by omega) ?_ (fun k hk=>?_) ?_) rfl
 ·refine Prod.ext rfl (RA fun i hi=>?_)
  have ht:ZA.take (min ZA.length 16)=ZA:=List.take_of_length_le (by omega)
  rw [hm,ht,Bb _ _ _ _ (by omega) hi,Tw hi]
  dsimp only
  by_cases c:i<12
  ·rw [if_pos (by omega),if_neg (by omega),List.getD_eq_getElem?_getD,List.getD_eq_getElem?_getD,List.getElem?_append_left (by omega),Nat.sub_zero]
   rfl
  ·rw [if_neg (by omega),if_pos (by omega),MC hi]; simp
 ·have e1:ZJ ((k:Int)+1)=((k+1:Nat):Int):=Vj (b:=1) (by omega)
  have e2:ZJ (8 * (k:Int))=((8 * k:Nat):Int):=GI (a:=8) (by omega)
  have e3:ZJ (15 - (k:Int))=((15 - k:Nat):Int):=Bd (a:=15) (by omega) (by omega)
  unfold Tp.b0
  simp only [e1,e2,e3,Int.toNat_natCast]
  clear e1 e2 e3
  refine ZM (by omega) (ZM (by omega) (ZM (by omega) (Ze fun m2 qz=>?_)))
  have:m2=(Vector.ofFn fun i=>if 12≤i.val∧i.val+(k+1)<16 then 0#8 else (ZA++TJ (n:Int) 4).getD i.val 0#8:KA):=by
   rw [qz]
   refine RA fun i hi=>?_
   rw [Qr (by omega) hi,Tw hi,Tw hi]
   dsimp only
   by_cases c:15 - k=i
   ·rw [if_pos c,if_neg (by omega),List.getD_eq_getElem?_getD,List.getElem?_append_right (by omega), ← List.getD_eq_getElem?_getD,hbt _ (by omega),show 8 * (3 - (i - ZA.length))=8 * k by omega]
   ·rw [if_neg c]
    by_cases c2:12≤i∧i+k<16
    ·rw [if_pos c2,if_pos (by omega)]
    ·rw [if_neg c2,if_neg (by omega)]
  rw [this]
 ·refine Zi (by show ¬ (((4:Nat):Int)<4); omega) (congrArg some (congrArg Sum.inr ?_))
  refine RA fun i hi=>?_
  rw [Tw hi,cb,oF,Tw hi,if_neg (by omega)]
def ko (key ZA:Str) (from_:Nat) (s:Str) (i:Nat):BitVec 8:=s.getD i 0#8 ^^^ vg (ek key (cb ZA (from_+i / 16))) (i % 16)
def xo (key ZA:Str) (from_:Nat) (s:Str):Str:=(List.range s.length).map (ko key ZA from_ s)
theorem NA (key ZA:Str) (f:Nat) (s:Str):(xo key ZA f s).length=s.length:=by simp [xo]
def wG (key ZA s:Str) (m:Nat):Str:=(List.range s.length).map fun i=>if i<m then ko key ZA 2 s i else s.getD i 0#8
theorem Dz (key ZA s:Str) (m:Nat):(wG key ZA s m).length=s.length:=by simp [wG]
theorem bV (key ZA s:Str) (m i:Nat) (hi:i<s.length):lg (wG key ZA s m) i=if i<m then ko key ZA 2 s i else s.getD i 0#8:=by
 simp [lg,wG,hi]
theorem f_ (key ZA s:Str) (m:Nat) (hm:m<s.length):(wG key ZA s m).set m (ko key ZA 2 s m)=wG key ZA s (m+1):=by
 unfold wG
 refine List.ext_getElem (by simp) fun i h1 h2=>?_
 simp only [List.getElem_set,List.getElem_map,List.getElem_range]
 by_cases c:m=i
 ·subst c; rw [if_pos rfl,if_pos (by omega)]
 ·rw [if_neg c]
  by_cases c2:i<m
  ·rw [if_pos c2,if_pos (by omega)]
  ·rw [if_neg c2,if_neg (by omega)]
theorem bQ (key ZA b:Str) (k:Nat) (n:BitVec 32) (t0:Str) (hk:16 * k<b.length) (hl:b.length<1000000) :
  loop (Xc.b1 b (16 * k,n,t0) (ek key (cb ZA (2+k))) ((min (b.length - 16 * k) 16:Nat):Int)) BIG (0,wG key ZA b (16 * k))=some (wG key ZA b (min (16 * (k+1)) b.length)):=by
 refine Vw (fun j=>((j:Int),wG key ZA b (16 * k+j))) (min (b.length - 16 * k) 16) _ (by omega) rfl (fun j hj=>?_) ?_
 ·have e1:ZJ ((j:Int)+1)=((j+1:Nat):Int):=Vj (b:=1) (by omega)
  have hlen:=Dz key ZA b (16 * k+j)
  unfold Xc.b1
  simp only [e1,Int.toNat_natCast]
  clear e1
  refine ZM (by omega) (ZM (by omega) (ZM (by omega) (ZM (by omega) (ZM (by omega) (ZM (by omega) (ZM (by omega) (ZM (by omega) (Ze fun m hm=>?_))))))))
  have:m=wG key ZA b (16 * k+(j+1)):=by
   rw [hm,bV _ _ _ _ _ (by omega),if_neg (by omega), ← Nat.add_assoc, ← f_ key ZA b (16 * k+j) (by omega)]
   unfold ko
   rw [show (16 * k+j) / 16=k by omega,show (16 * k+j) % 16=j by omega]
  rw [this]
 ·unfold Xc.b1
  refine Zi (by simp only; omega) ?_
  rw [show 16 * k+min (b.length - 16 * k) 16=min (16 * (k+1)) b.length by omega]
theorem dz (key ZA:Str) (hk:NW key) (hn:ZA.length=12) (h:E2) (b:Str) (hl:b.length<1000000):Xc OY (keysOf (kw key)) h.1 h.2 ZA b=some (xo key ZA 2 b):=by
 unfold Xc
 refine Z5 (v:=xo key ZA 2 b) (Vw (fun k=>(min (16 * k) b.length,BitVec.ofNat 32 (2+k),wG key ZA b (min (16 * k) b.length))) ((b.length+15) / 16) _ (by omega) ?_ (fun k fu=>?_) ?_) rfl
 ·refine Prod.ext (by simp) (Prod.ext rfl ?_)
  show b=wG key ZA b (min (16 * 0) b.length)
  unfold wG
  refine List.ext_getElem (by simp) fun i h1 h2=>?_
  simp [h1]
 ·have hkb:16 * k<b.length:=by omega
  have hm1:min (16 * k) b.length=16 * k:=by omega
  rw [hm1]
  unfold Xc.b0
  simp only
  refine ZM (by omega) (Z5 (DN ZA (2+k) hn (by omega)) (Z5 (xu key hk _) (Ze fun m hm=>?_)))
  have qz:m=((min (b.length - 16 * k) 16:Nat):Int):=by rw [hm]; omega
  rw [qz]
  refine Z5 (bQ key ZA b k _ _ hkb hl) ?_
  have hlen:=Dz key ZA b (min (16 * (k+1)) b.length)
  simp only [Int.toNat_natCast]
  refine ZM (by omega) (ZM (by omega) (ZM (by omega) (ZM (by omega) (Ze fun n1 wY=>?_))))
  have h2k:BitVec.ofNat 32 (2+(k+1))=BitVec.ofNat 32 (2+k)+1#32:=by rw [show 2+(k+1)=(2+k)+1 by omega,BitVec.ofNat_add]
  rw [wY,h2k,show 16 * k+min (b.length - 16 * k) 16=min (16 * (k+1)) b.length by omega]
 ·unfold Xc.b0
  refine Zi (by simp only; omega) (congrArg some (congrArg Sum.inr ?_))
  simp only
  unfold wG xo
  refine List.map_congr_left fun i hi=>?_
  have:i<b.length:=by simpa using hi
  rw [if_pos (by omega)]
def pE (key ZA:Str) (f:Nat) (s:Str) (m:Nat):Str:=(List.range s.length).map fun i=>if i<m then ko key ZA f s i else 0#8
theorem iK (key ZA:Str) (f:Nat) (s:Str) (m:Nat) (hm:m<s.length):(pE key ZA f s m).set m (ko key ZA f s m)=pE key ZA f s (m+1):=by
 unfold pE
 refine List.ext_getElem (by simp) fun i h1 h2=>?_
 simp only [List.getElem_set,List.getElem_map,List.getElem_range]
 by_cases c:m=i
 ·subst c; rw [if_pos rfl,if_pos (by omega)]
 ·rw [if_neg c]
  by_cases c2:i<m
  ·rw [if_pos c2,if_pos (by omega)]
  ·rw [if_neg c2,if_neg (by omega)]
theorem di (key ZA s:Str) (f k:Nat) (hk:16 * k<s.length) (hl:s.length<1000000) (t0:Str) :
  loop (Yt.b1 s (((16 * k:Nat):Int),t0) (ek key (cb ZA (f+k))).toList) BIG (0,pE key ZA f s (16 * k))=some (pE key ZA f s (min (16 * (k+1)) s.length)):=by
 refine Vw (fun j=>((j:Int),pE key ZA f s (16 * k+j))) (min (s.length - 16 * k) 16) _ (by omega) rfl (fun j hj=>?_) ?_
 ·have e1:ZJ ((j:Int)+1)=((j+1:Nat):Int):=Vj (b:=1) (by omega)
  have e2:ZJ (((16 * k:Nat):Int)+(j:Int))=((16 * k+j:Nat):Int):=Vj (by omega)
  have hlen:(pE key ZA f s (16 * k+j)).length=s.length:=by simp [pE]
  unfold Yt.b1
  simp only [e1,e2,Int.toNat_natCast,J6]
  clear e1 e2
  refine ZM (by omega) (ZM (by omega) (ZM (by omega) (ZM (by simp; omega) (ZM (by omega) (ZM (by omega) (Ze fun m hm=>Ze fun j1 hj1=>?_))))))
  have:m=pE key ZA f s (16 * k+(j+1)):=by
   rw [hm, ← Nat.add_assoc, ← iK key ZA f s (16 * k+j) (by omega)]
   unfold ko
   rw [show (16 * k+j) / 16=k by omega,show (16 * k+j) % 16=j by omega]
   rfl
  rw [hj1,this]
 ·unfold Yt.b1
  have hend:16 * k+min (s.length - 16 * k) 16=min (16 * (k+1)) s.length:=by omega
  rw [hend]
  by_cases c:16≤s.length - 16 * k
  ·exact Zi (by simp only; omega) rfl
  ·have e2:ZJ (((16 * k:Nat):Int)+((min (s.length - 16 * k) 16:Nat):Int))=((16 * k+min (s.length - 16 * k) 16:Nat):Int):=Vj (by omega)
   simp only [e2]
   exact ZM (by omega) (Zi (by omega) rfl)
theorem Jv (key ZA:Str) (hk:NW key) (hn:ZA.length=12) (f:Nat) (hf:f<1000) (s:Str) (hl:s.length<1000000):Yt (kw key) ZA (f:Int) s=some (xo key ZA f s):=by
 unfold Yt
 refine ZM (by omega) (Z5 (v:=xo key ZA f s) (Vw (fun k=>(((16 * k:Nat):Int),pE key ZA f s (min (16 * k) s.length))) ((s.length+15) / 16) _ (by omega) ?_ (fun k fu=>?_) ?_) (ZM (by rw [NA]; rfl) rfl))
 ·refine Prod.ext rfl ?_
  show List.replicate ((s.length:Int).toNat) 0#8=pE key ZA f s (min (16 * 0) s.length)
  unfold pE
  refine List.ext_getElem (by simp) fun i h1 h2=>?_
  simp
 ·have hkb:16 * k<s.length:=by omega
  have hm1:min (16 * k) s.length=16 * k:=by omega
  have e1:ZJ (((16 * k:Nat):Int).tdiv 16)=(k:Int):=(GA (a:=16 * k) (b:=16) (by omega)).trans (by omega)
  have e2:ZJ ((f:Int)+(k:Int))=((f+k:Nat):Int):=Vj (by omega)
  have e3:ZJ (((16 * k:Nat):Int)+16)=((16 * (k+1):Nat):Int):=(Vj (b:=16) (by omega)).trans (by omega)
  have hb:=Vv ((f+k:Nat):Int) 4
  rw [hm1]
  unfold Yt.b0
  simp only [e1,e2,e3]
  clear e1 e2 e3
  refine ZM (by omega) (Z5 (Br _ 4 (by decide)) (ZM (by omega) (Z5 (sD key hk _ (by rw [List.length_append]; omega)) (Z5 (di key ZA s f k hkb hl _) (Ze fun i hi=>?_)))))
  rw [hi]
 ·unfold Yt.b0
  refine Zi (by simp only; omega) (congrArg some (congrArg Sum.inr ?_))
  simp only
  unfold pE xo
  refine List.map_congr_left fun i hi=>?_
  have:i<s.length:=by simpa using hi
  rw [if_pos (by omega)]
theorem kr (x:BitVec 64):((x >>> 8) <<< 8) ||| ((x.setWidth 8).setWidth 64)=x:=by
 apply BitVec.eq_of_getLsbD_eq
 intro i hi
 simp only [BitVec.getLsbD_or,BitVec.getLsbD_shiftLeft,BitVec.getLsbD_ushiftRight,BitVec.getLsbD_setWidth]
 by_cases c:i<8
 ·simp [c,hi]
 ·simp [c,hi,show 8+(i - 8)=i by omega]
theorem xS (s:Str) (a:Nat) (w:BitVec 64) (h : ∀ i,i<8 → s.getD (a+i) 0#8=(w >>> (8 * (7 - i))).setWidth 8):Ae s a 8=w:=by
 have : ∀ j,j≤8 → Ae s a j=w >>> (8 * (8 - j)):=by
  intro j
  induction j with
  | zero=>intro _; exact (BitVec.ushiftRight_eq_zero (Nat.le_refl _)).symm
  | succ j ih =>
   intro hj
   simp only [Ae]
   rw [ih (by omega),h j (by omega)]
   have:=kr (w >>> (8 * (8 - (j+1))))
   rw [← BitVec.shiftRight_add,show 8 * (8 - (j+1))+8=8 * (8 - j) by omega] at this
   rw [show 8 * (7 - j)=8 * (8 - (j+1)) by omega]
   exact this
 have:=this 8 (Nat.le_refl _)
 simpa using this
theorem tN (e:E2):ld (L8 e) 0=e:=by
 unfold ld
 refine Prod.ext ?_ ?_
 ·exact xS _ _ _ fun i hi=>by rw [Nat.zero_add,Gi e i (by omega),if_pos hi]
 ·exact xS _ _ _ fun i hi=>by rw [Nat.zero_add,Gi e (8+i) (by omega),if_neg (by omega),show 8+i - 8=i by omega]
theorem GU (L:Nat):TJ (L:Int) 8=wU (BitVec.ofNat 64 L) 8:=by
 unfold TJ wU
 refine List.map_congr_left fun i hi=>?_
 have hi8:i<8:=by simpa using hi
 apply BitVec.eq_of_toNat_eq
 have h3:((L:Int) / 256 ^ (8 - 1 - i))=((L / 2 ^ (8 * (8 - 1 - i)):Nat):Int):=by
  rw [Nat.pow_mul]; simp
 simp only [h3,BitVec.toNat_ofInt,BitVec.toNat_setWidth,BitVec.toNat_ushiftRight,BitVec.toNat_ofNat,Nat.shiftRight_eq_div_pow]
 rcases (by omega:i=0 ∨ i=1 ∨ i=2 ∨ i=3 ∨ i=4 ∨ i=5 ∨ i=6 ∨ i=7) with h | h | h | h | h | h | h | h <;> subst h <;> simp only [Nat.reduceSub,Nat.reduceMul,Nat.reducePow,Nat.reduceAdd] <;> omega
def szs (Ur c:Str):E2:=(BitVec.ofNat 64 (8 * Ur.length),BitVec.ofNat 64 (8 * c.length))
def qA (key Ur c:Str):E2:=tY (hE key) (Fa Ur++Fa c++L8 (szs Ur c)) z2
def EC (key ZA Ur c:Str):Str:=xo key ZA 1 (L8 (qA key Ur c))
theorem aa1 (h:E2) (s:Str) (y:E2) (hs:s.length=16):tY h s y=prod (xr (ld s 0) y) h:=by
 unfold tY
 rw [hs,show 16 / 16=0+1 from rfl]
 simp only [iter]
 unfold gh
 rw [Nat.mul_zero]
theorem iy (key Ur c:Str):qA key Ur c=prod (xr (szs Ur c) (tY (hE key) (Fa c) (tY (hE key) (Fa Ur) z2))) (hE key):=by
 have h1:(Fa Ur).length % 16=0:=by rw [PW]; omega
 have h2:(Fa c).length % 16=0:=by rw [PW]; omega
 unfold qA
 rw [uw _ _ _ _ (by rw [List.length_append]; omega),uw _ _ _ _ h1,aa1 _ _ _ (Sz _),tN]
theorem dh (V W:KA):loop (Vq.b0 W) BIG (0,V)=some (Vector.ofFn fun i=>vg V i.val ^^^ vg W i.val):=by
 refine Q9 _ (fun i=>vg V i ^^^ vg W i) id (by omega) (fun k v hk hv=>?_) (fun v=>?_)
 ·have e1:ZJ ((k:Int)+1)=((k+1:Nat):Int):=Vj (b:=1) (by omega)
  unfold Vq.b0
  simp only [e1,Int.toNat_natCast]
  refine ZM (by omega) (ZM (by omega) (ZM (by omega) (ZM (by omega) (Ze fun m hm=>?_))))
  rw [hm,hv k (Nat.le_refl _) hk]
 ·unfold Vq.b0
  exact Zi (by omega) rfl
theorem bi (key ZA:Str) (hk:NW key) (hn:ZA.length=12) (Ur b:Str) (ha:Ur.length<1000000) (hb:b.length<1000000):Vq OY (keysOf (kw key)) (hE key).1 (hE key).2 ZA Ur b=some (EC key ZA Ur b):=by
 unfold Vq
 obtain ⟨V1,hV1,he1⟩:=Bo (szs Ur b)
 obtain ⟨V2,hV2,he2⟩:=Bo (qA key Ur b)
 have hsz : ∀ n:Nat,(BitVec.ofInt 64 (n:Int)) * 8#64=BitVec.ofNat 64 (8 * n):=fun n=>by
  rw [BitVec.ofInt_natCast,Nat.mul_comm,BitVec.ofNat_mul]
 refine Z5 (qi (hE key)) (Z5 (lM (hE key) z2 Ur (by omega)) (Z5 (lM (hE key) _ b (by omega)) ?_))
 rw [hsz,hsz]
 refine Z5 he1 (Z5 (vF (hE key) _ _ (by simp) (by simp)) ?_)
 rw [hV1,tN, ← iy]
 refine Z5 he2 (Z5 (DN ZA 1 hn (by decide)) (Z5 (xu key hk _) (Z5 (dh _ _) (congrArg some ?_))))
 have abf : ∀ i,vg V2 i=(L8 (qA key Ur b)).getD i 0#8:=fun i=>by
  show V2.toList.getD i 0#8=_
  rw [hV2]
 unfold EC xo
 generalize qA key Ur b=Y at abf
 rw [Sz]
 refine List.ext_getElem (by simp) fun i h1 h2=>?_
 have hi:i<16:=by simpa using h1
 simp only [Vector.getElem_toList,Vector.getElem_ofFn,List.getElem_map,List.getElem_range]
 unfold ko
 rw [show 1+i / 16=1 by omega,show i % 16=i by omega,abf]
theorem uP (key ZA:Str) (hk:NW key) (hn:ZA.length=12) (Ur c:Str) (ha:Ur.length<1000000) (hc:c.length<1000000):RU (kw key) ZA Ur c=some (EC key ZA Ur c):=by
 have e1 : ∀ n:Nat,n<1000000 → ZJ (8 * (n:Int))=((8 * n:Nat):Int):=fun n h=>GI (a:=8) (by omega)
 have f1:=PW Ur
 have f2:=PW c
 unfold RU
 rw [e1 _ ha,e1 _ hc]
 have hz:oF (List.replicate 16 0#8)=replicate 16 0#8:=by decide +kernel
 refine ZM (by simp) (Z5 (sD key hk _ (by simp)) (Z5 (Br _ 8 (by decide)) (Z5 (Br _ 8 (by decide)) (ZM (by simp [Vv]) (Z5 (Bh Ur (by omega)) (Z5 (Bh c (by omega)) (ZM (by show (Fa Ur).length+(Fa c).length≤_; omega) (ZM (by simp only [List.length_append,Vv,List.length_replicate]; omega) ?_))))))))
 rw [hz]
 have hs:TJ ((8 * Ur.length:Nat):Int) 8++TJ ((8 * c.length:Nat):Int) 8=L8 (szs Ur c):=by
  rw [GU,GU]; rfl
 rw [hs]
 have hlen:(Fa Ur++Fa c++L8 (szs Ur c)).length<1152921504606846976:=by
  simp only [List.length_append,Sz]; omega
 refine Z5 (lD _ _ (by simp) hlen) (Z5 (Jv key ZA hk hn 1 (by decide) _ (by rw [Sz]; decide)) rfl)
abbrev j_ (key ZA Ur:Str) (n most:Nat):Prop:=NW key∧ZA.length=12∧Ur.length≤65536∧n≤most
theorem cB (ZA Ur:Str) (most long:Nat):GG ZA Ur (most:Int) (long:Int)=some (decide (ZA.length=12∧Ur.length≤65536∧long≤most)):=by
 unfold GG
 by_cases c1:ZA.length=12
 ·refine ZM (by omega) ?_
  by_cases c2:Ur.length≤65536
  ·refine ZM (by omega) (Ze fun x hx=>?_)
   rw [hx]
   refine congrArg some ?_
   rw [decide_eq_decide]
   omega
  ·refine Zi (by omega) (congrArg some ?_)
   rw [eq_comm,decide_eq_false_iff_not]; omega
 ·refine Zi (by omega) (congrArg some ?_)
  rw [eq_comm,decide_eq_false_iff_not]; omega
theorem BB (key ZA Ur s:Str) (more:Nat) (hm:more≤1000):TF key ZA Ur s (more:Int)=some (decide (j_ key ZA Ur s.length (65536+more))):=by
 have e1:ZJ (65536+(more:Int))=((65536+more:Nat):Int):=Vj (a:=65536) (by omega)
 unfold TF j_ NW
 rw [e1]
 clear e1
 have tail : ∀ (hk:key.length=16 ∨ key.length=32),(if ((ZA).length:Int)=12 then (if ((Ur).length:Int)≤65536 then (X5 (decide (((s).length:Int)≤((65536+more:Nat):Int))) fun (x1:Bool)=>(some x1)) else (some false)) else (some false))=some (decide ((key.length=16 ∨ key.length=32)∧ZA.length=12∧Ur.length≤65536∧s.length≤65536+more)):=by
  intro hk
  by_cases c1:ZA.length=12
  ·refine ZM (by omega) ?_
   by_cases c2:Ur.length≤65536
   ·refine ZM (by omega) (Ze fun x hx=>?_)
    rw [hx]
    refine congrArg some ?_
    rw [decide_eq_decide]
    omega
   ·refine Zi (by omega) (congrArg some ?_)
    rw [eq_comm,decide_eq_false_iff_not]; omega
  ·refine Zi (by omega) (congrArg some ?_)
   rw [eq_comm,decide_eq_false_iff_not]; omega
 by_cases k1:key.length=16
 ·exact ZM (by omega) (tail (.inl k1))
 ·refine Zi (by omega) ?_
  by_cases k2:key.length=32
  ·exact ZM (by omega) (tail (.inr k2))
  ·refine Zi (by omega) (congrArg some ?_)
   rw [eq_comm,decide_eq_false_iff_not]; omega
def Gz (key ZA Ur s:Str):Str × Int:=if j_ key ZA Ur s.length 65536 then (xo key ZA 2 s++EC key ZA Ur (xo key ZA 2 s),0) else ([],500)
theorem Fj (key ZA Ur c:Str):(EC key ZA Ur c).length=16:=by rw [EC,NA,Sz]
theorem mr (key ZA Ur s:Str):SX key ZA Ur s=some (Gz key ZA Ur s):=by
 unfold SX Gz
 refine Z5 (BB key ZA Ur s 0 (by decide)) ?_
 rw [Nat.add_zero]
 by_cases c:j_ key ZA Ur s.length 65536
 ·have hx:=NA key ZA 2 s
  have ht:=Fj key ZA Ur (xo key ZA 2 s)
  obtain ⟨hk,hn,ha,hl⟩:=id c
  rw [if_pos c]
  refine Zi (by simp [c]) (Z5 (xP key hk) (Z5 (Jv key ZA hk hn 2 (by decide) s (by omega)) (Z5 (uP key ZA hk hn Ur _ (by omega) (by omega)) (ZM (by omega) rfl))))
 ·rw [if_neg c]
  exact ZM (by simp [c]) rfl
def Rh (key ZA Ur s:Str):Str × Int :=
 if j_ key ZA Ur s.length 65552 then (if s.length<16 then ([],501) else if EC key ZA Ur (sub s 0 (s.length - 16)) ≠ sub s (s.length - 16) s.length then ([],501) else (xo key ZA 2 (sub s 0 (s.length - 16)),0)) else ([],500)
theorem Ba (key ZA Ur s:Str):Ju key ZA Ur s=some (Rh key ZA Ur s):=by
 unfold Ju Rh
 by_cases hk:NW key
 ·refine Z5 (gK key hk) (Z5 (cB ZA Ur 65552 s.length) ?_)
  by_cases c:ZA.length=12∧Ur.length≤65536∧s.length≤65552
  ·rw [if_pos (⟨hk,c⟩:j_ key ZA Ur s.length 65552)]
   have e0:ZJ ((s.length:Int) - 16)=(s.length:Int) - 16:=Yr (by omega) (by omega)
   refine Zi (by simp [c]) (Ze fun n1 wY=>?_)
   rw [e0] at wY
   clear e0
   by_cases c2:s.length<16
   ·rw [if_pos c2]
    exact ZM (by omega) rfl
   ·rw [if_neg c2]
    have hn:n1.toNat=s.length - 16:=by omega
    rw [hn]
    have hsl:(sub s 0 (s.length - 16)).length=s.length - 16:=by rw [WA (by omega)]; omega
    refine Zi (by omega) (ZM (by omega) (ZM (by omega) (ZM (Jn key).symm (Z5 (bi key ZA hk c.1 Ur _ (by omega) (by omega)) (ZM (by omega) (ZM (by omega) ?_))))))
    by_cases c3:EC key ZA Ur (sub s 0 (s.length - 16)) ≠ sub s (s.length - 16) s.length
    ·rw [if_pos c3,if_pos c3]
    ·rw [if_neg c3,if_neg c3]
     exact Z5 (dz key ZA hk c.1 _ _ (by omega)) (ZM (NA _ _ _ _) rfl)
  ·rw [if_neg (show ¬ j_ key ZA Ur s.length 65552 from fun h=>c h.2)]
   exact ZM (by simp [c]) rfl
 ·rw [if_neg (show ¬ j_ key ZA Ur s.length 65552 from fun h=>hk h.1)]
  exact Z5 (rJ key hk) rfl
theorem ni (key ZA Ur s:Str):S9 key ZA Ur s=some (Rh key ZA Ur s):=by
 unfold S9 Rh
 refine Z5 (BB key ZA Ur s 16 (by decide)) ?_
 rw [show 65536+16=65552 from rfl]
 by_cases c:j_ key ZA Ur s.length 65552
 ·obtain ⟨hk,uV,ha,hl⟩:=id c
  rw [if_pos c]
  have e0:ZJ ((s.length:Int) - 16)=(s.length:Int) - 16:=Yr (by omega) (by omega)
  refine Zi (by simp [c]) (Ze fun n1 wY=>?_)
  rw [e0] at wY
  clear e0
  by_cases c2:s.length<16
  ·rw [if_pos c2]
   exact ZM (by omega) rfl
  ·rw [if_neg c2]
   have hn:n1.toNat=s.length - 16:=by omega
   rw [hn]
   have hsl:(sub s 0 (s.length - 16)).length=s.length - 16:=by rw [WA (by omega)]; omega
   refine Zi (by omega) (Z5 (xP key hk) (ZM (by omega) (ZM (by omega) (Z5 (uP key ZA hk uV Ur _ (by omega) (by omega)) (ZM (by omega) (ZM (by omega) ?_))))))
   by_cases c3:EC key ZA Ur (sub s 0 (s.length - 16)) ≠ sub s (s.length - 16) s.length
   ·rw [if_pos c3,if_pos c3]
   ·rw [if_neg c3,if_neg c3]
    exact ZM (by omega) (ZM (by omega) (Z5 (Jv key ZA hk uV 2 (by decide) _ (by omega)) rfl))
 ·rw [if_neg c]
  exact ZM (by simp [c]) rfl
theorem aam (key ZA:Str) (f:Nat) (s:Str):xo key ZA f (xo key ZA f s)=s:=by
 unfold xo
 refine List.ext_getElem (by simp) fun i h1 h2=>?_
 simp only [List.getElem_map,List.getElem_range,ko,List.getD_eq_getElem?_getD,List.getElem?_map,List.getElem?_range h2,Option.map_some,Option.getD_some,BitVec.xor_assoc,BitVec.xor_self,BitVec.xor_zero]
 rw [List.getElem?_eq_getElem h2]; rfl
end Go.Proofs
end

section
namespace Go.Kx
open Go
def ab5:TypeDesc → Bool
 | .interface _=>false
 | _=>true
section
variable {C:Ctx} {m:Sl} {L:Mem} {dst:Option Tmp} {ty:TypeId} {pos:String} {af:Array Edge} {gd:Option (Nat × Bool)}
theorem JU {x:Operand} {v r:Value} {t:TypeId} {d:TypeDesc} (hx:ev m x=some v) (hu:C.P.underlying t=some d) (hd:ab5 d=true) (hr:Value.iface t v=r):Ou C ⟨dst, .makeInterface t x,ty,pos,af,gd⟩ m L r:=fun a w hs=>by
 subst hr
 show ((Instr.makeInterface t (a.eval x)) >>= fun r=>pure (Next.value r)).run C.P w=_
 rw [hs.slots.ev hx]
 unfold Instr.makeInterface
 simp only [Sem.run_bind,run_underlying hu]
 cases d <;> simp_all [ab5,Result.andThen]
end
section
variable {P:Program} {t:TypeId} {x:Operand} {c:Value}
theorem adA (w:World) (k:Nat) (e:Er) {ms} (ht:P.underlying t=some (.interface ms)):(Op.equalIn (k+1) t (vE e) .nilIface).run P w = .ok (Er.isNil e) w:=by
 cases e <;> simp [Op.equalIn,vE,Sem.run_bind,run_underlying ht,Er.isNil]
theorem guardE {op:BinOp} (w:World) (e:Er):(eqGuard op t x (.const c) (vE e) .nilIface).run P w = .ok () w:=by
 cases e <;> cases op <;> simp [eqGuard,vE]
theorem aaE (w:World) (e:Er) {ms} (ht:P.underlying t=some (.interface ms)):(TU .neq t x (.const c) (vE e) (vE Er.nil)).run P w = .ok (vb (!(Er.isNil e))) w:=XI w (guardE w e) (by
 have h:=adA (P:=P) (t:=t) w 9999 e ht
 cases e <;> (show ((Op.equalIn (9999+1) t _ .nilIface) >>= fun r=>pure (Value.bool (!r))).run P w=_; rw [Sem.run_bind,h]; simp [vb]))
end
end Go.Kx
end

section
namespace Go.Proofs
open Go Go.Kx
open TryzI Tryz
def TN.b0 (s_:Str) (at_ size:Int) (s0:Int × Int):Option ((Int × Int) ⊕ (Int)) :=
 if s0.2<size then (if 0≤ZJ (at_+s0.2)∧ZJ (at_+s0.2)<((s_).length:Int) then (X5 (HZ (· ||| ·) (EB s0.1 8) ((sg s_ (ZJ (at_+s0.2))).toNat:Int)) fun x1=>(some (.inl (x1,ZJ (s0.2+1))))) else none) else (some (.inr s0.1))
def TN (s_:Str) (at_ size:Int):Option (Int × Int × Int) :=
 if at_<0 then (some (0,0,100)) else (if ((s_).length:Int)<at_ then (some (0,0,100)) else (if (ZJ (((s_).length:Int) - at_))<size then (some (0,0,100)) else ((loop (TN.b0 s_ at_ size) BIG (0,0)).bind fun Yw=>(X5 (ZJ (at_+size)) fun x2=>(some (Yw,x2,0))))))
theorem C9 {s_:Str} {at_:Int} {size:Int} {r:Int × Int × Int} (H:TN s_ at_ size=some r) :
  Does Tryz.prog 132 [vs s_,vi at_,vi size] [] [] (Γ:=Unit) (fun g=>Value.tuple [vi r.1,vi r.2.1,vi r.2.2].toArray) (fun g=>[]):=by
 intro w hmem hro hd
 refine Zn func132 rfl ntmps132 rfl hmem hro hd ?_
 unfold TN at H
 refine Z_ (Zj 3 rfl ?_)
 refine Z6 (ZY (Z_ (YP ?_)))
 refine ZV (ZT WV) ?_
 refine YP ?_
 refine Td (d:=13) H (fun hc H=>?_) (fun hc H=>?_)
 ·refine Zj 13 rfl ?_
  refine Z6 (VI rfl ?_)
  refine Z_ (Zj 3 rfl ?_)
  refine Zq (ZZ ?_)
  obtain rfl:=sj H
  exact SF (vs:=[_,_,_]) rfl ⟨rfl,rfl,rfl,trivial⟩
 refine Zj 2 rfl ?_
 refine Zc (Zf rfl underlying9) ?_
 refine Zc (ZT Sv) ?_
 refine Zj 2 rfl ?_
 refine Td (d:=19) H (fun hc H=>?_) (fun hc H=>?_)
 ·refine Zj 7 rfl ?_
  refine Z6 (VI rfl ?_)
  refine Z_ (Zj 3 rfl ?_)
  refine Zq (ZZ ?_)
  obtain rfl:=sj H
  exact SF (vs:=[_,_,_]) rfl ⟨rfl,rfl,rfl,trivial⟩
 refine Zc (ZO rfl) ?_
 refine Zc (Zf rfl underlying9) ?_
 refine Zc (ZO rfl) ?_
 refine Zc (ZT OX) ?_
 refine Zc (ZO rfl) ?_
 refine Zc (ZT WV) ?_
 refine FE ?_
 refine Z6 (UK H (fun hc H=>?_) (fun hc H=>?_))
 ·refine Z_ (Zj 3 rfl ?_)
  refine Zq (ZZ ?_)
  obtain rfl:=sj H
  exact SF (vs:=[_,_,_]) rfl ⟨rfl,rfl,rfl,trivial⟩
 refine ZN (Z7 (Z_ (Y2 ?_)))
 refine Z6 (ZY (Z_ (Zj 2 rfl ?_)))
 refine Z6 (ZP ?_)
 have ⟨Yw,Hl,H⟩:=Z9 H
 refine Wz [0,1,2,9,27,28] [] rfl rfl ?_
 refine Yv (id:=0) (body:=(TN.b0 s_ at_ size)) (σ:=Int × Int) (Γ:=Unit) (Γx:=Unit) (fun s0 WG=>[(0,vs s_),(1,vi at_),(2,vi size),(9,vi s0.1),(27,vi size),(28,vi s0.2)]) (fun s0 WG=>[]) (fun t g=>[(1,vi at_),(2,vi size),(9,vi t)]) (fun t g=>[]) ?_ BIG (0,0) () Yw Hl ?_
 ·intro s0 WG r1 H K hK hE
  unfold TN.b0 at H
  refine Z_ (ZV (ZT WV) ?_)
  refine Z6 (ZY (UK H (fun hc H=>?_) (fun hc H=>?_)))
  ·refine ZN (Z7 (ZY (ZP (Z_ (Zj 2 rfl ?_)))))
   refine Z6 (ZH (YP ?_))
   refine ZV (Zg rfl rfl (fun w=>abE w s0.1 .u64 8 (by decide))) ?_
   refine Zj 3 rfl ?_
   refine ZV (ZT XN) ?_
   have ⟨h1,H⟩:=Z4 H
   refine ZV (U2 rfl rfl (i:=ZJ (at_+s0.2)) underlying9 h1.1 h1.2) ?_
   refine ZV (Vu rfl (fun w=>nY w _ _ underlying3 (zh) (sg s_ (ZJ (at_+s0.2))))) ?_
   refine ZV (ZT orI) ?_
   refine Y2 ?_
   have ⟨x1,TK,H⟩:=ZX H
   refine WN 9 (congrArg vi TK) ?_
   refine ZK (ZW (Z7 (ZH (ZV (ZT XN) ?_))))
   refine YP ?_
   refine ZK ?_
   obtain rfl:=sj H
   exact Ri [] (hK (x1,ZJ (s0.2+1)) rfl ())
  refine YW (Z0 (Z0 ?_))
  obtain rfl:=sj H
  exact WW [] (hE s0.1 rfl ())
 intro g
 refine ZL (Z7 (Z_ (Zj 3 rfl ?_)))
 refine ZV (ZT XN) ?_
 refine Zj 2 rfl ?_
 have ⟨x2,KO,H⟩:=ZX H
 refine WN 7 (congrArg vi KO) ?_
 refine Y2 ?_
 refine Zq ?_
 obtain rfl:=sj H
 exact SF (vs:=[_,_,_]) rfl ⟨rfl,rfl,rfl,trivial⟩
def K4 (s_:Str) (at_:Int):Option (Int × Int × Int) :=
 (TN s_ at_ 2).bind fun Zu=>(some (Zu.1,Zu.2.1,Zu.2.2))
theorem wP {s_:Str} {at_:Int} {r:Int × Int × Int} (H:K4 s_ at_=some r) :
  Does Tryz.prog 120 [vs s_,vi at_] [] [] (Γ:=Unit) (fun g=>Value.tuple [vi r.1,vi r.2.1,vi r.2.2].toArray) (fun g=>[]):=by
 intro w hmem hro hd
 refine Zn func120 rfl ntmps120 rfl hmem hro hd ?_
 unfold K4 at H
 refine Z_ (Zj 3 rfl ?_)
 refine Z6 (Z_ (Zj 2 rfl ?_))
 have ⟨Zu,Yk,H⟩:=Z9 H
 refine YE (Y4 (C9 Yk :) call132 .z) (fun Re=>?_)
 refine Zj 6 rfl ?_
 refine Zq ?_
 obtain rfl:=sj H
 exact SF (vs:=[_,_,_]) rfl ⟨rfl,rfl,rfl,trivial⟩
def Ni (s_:Str) (at_:Int):Option (Int × Int × Int) :=
 (TN s_ at_ 4).bind fun Zu=>(some (Zu.1,Zu.2.1,Zu.2.2))
theorem Ep {s_:Str} {at_:Int} {r:Int × Int × Int} (H:Ni s_ at_=some r) :
  Does Tryz.prog 121 [vs s_,vi at_] [] [] (Γ:=Unit) (fun g=>Value.tuple [vi r.1,vi r.2.1,vi r.2.2].toArray) (fun g=>[]):=by
 intro w hmem hro hd
 refine Zn func121 rfl ntmps121 rfl hmem hro hd ?_
 unfold Ni at H
 refine Z_ (Zj 3 rfl ?_)
 refine Z6 (Z_ (Zj 2 rfl ?_))
 have ⟨Zu,Yk,H⟩:=Z9 H
 refine YE (Y4 (C9 Yk :) call132 .z) (fun Re=>?_)
 refine Zj 6 rfl ?_
 refine Zq ?_
 obtain rfl:=sj H
 exact SF (vs:=[_,_,_]) rfl ⟨rfl,rfl,rfl,trivial⟩
def OU (Sj:Int):Option (Int × Int × Int) :=
 X5 (decide (Sj=4865)) fun x1=>(if x1=true then (some (16,256,0)) else (X5 (decide (Sj=4866)) fun x2=>(if x2=true then (some (32,384,0)) else (X5 (decide (Sj=4867)) fun x3=>(if x3=true then (some (32,256,0)) else (some (0,0,800)))))))
theorem Gh {Sj:Int} {r:Int × Int × Int} (H:OU Sj=some r) :
  Does Tryz.prog 70 [vi Sj] [] [] (Γ:=Unit) (fun g=>Value.tuple [vi r.1,vi r.2.1,vi r.2.2].toArray) (fun g=>[]):=by
 intro w hmem hro hd
 refine Zn func70 rfl ntmps70 rfl hmem hro hd ?_
 unfold OU at H
 refine Z_ (Zj 3 rfl ?_)
 refine Z6 (ZY (Z_ (YP ?_)))
 refine Z6 (ZP (Z_ (ZV (ZT Xr) ?_)))
 refine Y2 ?_
 have ⟨x1,TK,H⟩:=ZX H
 refine WN 6 (congrArg vb TK) ?_
 refine Z6 (Sn H (fun hc H=>?_) (fun hc H=>?_))
 ·refine Z_ (Zj 3 rfl ?_)
  refine Zq (ZE (ZZ ?_))
  obtain rfl:=sj H
  exact SF (vs:=[_,_,_]) rfl ⟨rfl,rfl,rfl,trivial⟩
 refine Z_ (ZV (ZT Xr) ?_)
 refine Y2 ?_
 have ⟨x2,KO,H⟩:=ZX H
 refine WN 8 (congrArg vb KO) ?_
 refine Z6 (Sn H (fun hc H=>?_) (fun hc H=>?_))
 ·refine Z_ (Zj 3 rfl ?_)
  refine Zq (ZE (ZZ ?_))
  obtain rfl:=sj H
  exact SF (vs:=[_,_,_]) rfl ⟨rfl,rfl,rfl,trivial⟩
 refine Z_ (ZV (ZT Xr) ?_)
 refine Y2 ?_
 have ⟨x3,qx,H⟩:=ZX H
 refine WN 10 (congrArg vb qx) ?_
 refine Z6 (Sn H (fun hc H=>?_) (fun hc H=>?_))
 ·refine Z_ (Zj 3 rfl ?_)
  refine Zq (ZE (ZZ ?_))
  obtain rfl:=sj H
  exact SF (vs:=[_,_,_]) rfl ⟨rfl,rfl,rfl,trivial⟩
 refine ZN (ZW (Z7 (Z_ (Zj 3 rfl ?_))))
 refine Zq ?_
 obtain rfl:=sj H
 exact SF (vs:=[_,_,_]) rfl ⟨rfl,rfl,rfl,trivial⟩
def P9 (x size:Int):Option (Str) :=
 X5 (decide (size=4)) fun x1=>(if x1=true then (if (([]:List (BitVec 8))).length+(([BitVec.ofInt 8 (VO x 24)]:List (BitVec 8))).length≤140737488355328 then (X5 (([]:List (BitVec 8))++([BitVec.ofInt 8 (VO x 24)]:List (BitVec 8))) fun l1=>(if (l1).length+(([BitVec.ofInt 8 (VO x 16)]:List (BitVec 8))).length≤140737488355328 then (X5 (l1++([BitVec.ofInt 8 (VO x 16)]:List (BitVec 8))) fun l2=>(if (l2).length+(([BitVec.ofInt 8 (VO x 8)]:List (BitVec 8))).length≤140737488355328 then (X5 (l2++([BitVec.ofInt 8 (VO x 8)]:List (BitVec 8))) fun l3=>(if (l3).length+(([BitVec.ofInt 8 x]:List (BitVec 8))).length≤140737488355328 then (X5 (l3++([BitVec.ofInt 8 x]:List (BitVec 8))) fun l4=>(some l4)) else none)) else none)) else none)) else none) else (X5 (decide (size=3)) fun x2=>(if x2=true then (if (([]:List (BitVec 8))).length+(([BitVec.ofInt 8 (VO x 16)]:List (BitVec 8))).length≤140737488355328 then (X5 (([]:List (BitVec 8))++([BitVec.ofInt 8 (VO x 16)]:List (BitVec 8))) fun l5=>(if (l5).length+(([BitVec.ofInt 8 (VO x 8)]:List (BitVec 8))).length≤140737488355328 then (X5 (l5++([BitVec.ofInt 8 (VO x 8)]:List (BitVec 8))) fun l6=>(if (l6).length+(([BitVec.ofInt 8 x]:List (BitVec 8))).length≤140737488355328 then (X5 (l6++([BitVec.ofInt 8 x]:List (BitVec 8))) fun l7=>(some l7)) else none)) else none)) else none) else (X5 (decide (size=2)) fun x3=>(if x3=true then (if (([]:List (BitVec 8))).length+(([BitVec.ofInt 8 (VO x 8)]:List (BitVec 8))).length≤140737488355328 then (X5 (([]:List (BitVec 8))++([BitVec.ofInt 8 (VO x 8)]:List (BitVec 8))) fun l8=>(if (l8).length+(([BitVec.ofInt 8 x]:List (BitVec 8))).length≤140737488355328 then (X5 (l8++([BitVec.ofInt 8 x]:List (BitVec 8))) fun l9=>(some l9)) else none)) else none) else (if (([]:List (BitVec 8))).length+(([BitVec.ofInt 8 x]:List (BitVec 8))).length≤140737488355328 then (X5 (([]:List (BitVec 8))++([BitVec.ofInt 8 x]:List (BitVec 8))) fun pG=>(some pG)) else none))))))
theorem Ee {x:Int} {size:Int} {r:Str} (H:P9 x size=some r) :
  Does Tryz.prog 134 [vi x,vi size] [] [] (Γ:=Unit) (fun g=>vs r) (fun g=>[]):=by
 intro w hmem hro hd
 refine Zn func134 rfl ntmps134 rfl hmem hro hd ?_
 unfold P9 at H
 refine Z_ (Y2 ?_)
 refine Qb rfl ?_
 refine Z_ (YE (FM rfl (z:=e8 (([]:List (BitVec 8))++([]:List (BitVec 8)))) rfl) (fun A1=>?_))
 refine Qb rfl ?_
 refine ZY (Z_ (YP ?_))
 refine Qb rfl ?_
 refine ZP (ZY (ZP (ZY (ZP (ZY (ZP (ZY (ZP (ZY (ZY (Z_ (ZV (ZT Xr) ?_))))))))))))
 refine Y2 ?_
 have ⟨x1,TK,H⟩:=ZX H
 refine WN 7 (congrArg vb TK) ?_
 refine Qb rfl ?_
 refine Sn H (fun hc H=>?_) (fun hc H=>?_)
 ·refine YW (Z0 (Z0 (ZL (Z7 (ZH (Zj 2 rfl ?_))))))
  refine ZV (Zg rfl rfl (fun w=>yS w x .u64 24 (by decide))) ?_
  refine ZV (Vu rfl (fun w=>F3 w _ _ underlying5 (HY) .i64 (VO x 24))) ?_
  refine YE (Ya (pv:=[(0,v8 (BitVec.ofInt 8 (VO x 24)))]) rfl rfl underlying86 Yn (s:=1) rfl KR rfl rfl rfl (cs:=e8 ([BitVec.ofInt 8 (VO x 24)]:List (BitVec 8))) (by kernel_rfl)) (fun b1=>?_)
  refine WN (v':=sl (some (b1,0)) ((([BitVec.ofInt 8 (VO x 24)]:List (BitVec 8))).length) 1) 17 (congrArg (fun n=>sl (some (b1,0)) n 1) rfl) ?_
  have ⟨h1,H⟩:=Z4 H
  have ⟨l1,AO,H⟩:=ZX H
  refine YE (SH (f:=v8) (j:=1) (l:=([]:List (BitVec 8))) (sp:=([]:List (BitVec 8))) (ds:=([BitVec.ofInt 8 (VO x 24)]:List (BitVec 8))) 0#8 (.o 0) rfl rfl rfl (fun _=>rfl) underlying86 underlying86 Yn rfl KR (B':=1) rfl (by have:=h1; omega) (by have:=h1; omega) AO) (fun q1=>?_)
  refine Y2 ?_
  refine ZK (ZW (Z7 (ZH (Zj 2 rfl ?_))))
  refine ZV (Zg rfl rfl (fun w=>yS w x .u64 16 (by decide))) ?_
  refine ZV (Vu rfl (fun w=>F3 w _ _ underlying5 (HY) .i64 (VO x 16))) ?_
  refine YE (Ya (pv:=[(0,v8 (BitVec.ofInt 8 (VO x 16)))]) rfl rfl underlying86 Yn (s:=1) rfl KR rfl rfl rfl (cs:=e8 ([BitVec.ofInt 8 (VO x 16)]:List (BitVec 8))) (by kernel_rfl)) (fun b2=>?_)
  refine WN (v':=sl (some (b2,0)) ((([BitVec.ofInt 8 (VO x 16)]:List (BitVec 8))).length) 1) 23 (congrArg (fun n=>sl (some (b2,0)) n 1) rfl) ?_
  have ⟨h2,H⟩:=Z4 H
  have ⟨l2,Cw,H⟩:=ZX H
  refine YE (SH (f:=v8) (j:=2) (l:=l1) (sp:=q1.2) (ds:=([BitVec.ofInt 8 (VO x 16)]:List (BitVec 8))) 0#8 (.o 0) rfl rfl rfl (fun _=>rfl) underlying86 underlying86 Yn rfl KR (B':=1) rfl (by have:=h2; omega) (by have:=h2; omega) Cw) (fun q2=>?_)
  refine Y2 ?_
  refine ZK (ZW (Z7 (ZH (Zj 2 rfl ?_))))
  refine ZV (Zg rfl rfl (fun w=>yS w x .u64 8 (by decide))) ?_
  refine ZV (Vu rfl (fun w=>F3 w _ _ underlying5 (HY) .i64 (VO x 8))) ?_
  refine YE (Ya (pv:=[(0,v8 (BitVec.ofInt 8 (VO x 8)))]) rfl rfl underlying86 Yn (s:=1) rfl KR rfl rfl rfl (cs:=e8 ([BitVec.ofInt 8 (VO x 8)]:List (BitVec 8))) (by kernel_rfl)) (fun b3=>?_)
  refine WN (v':=sl (some (b3,0)) ((([BitVec.ofInt 8 (VO x 8)]:List (BitVec 8))).length) 1) 29 (congrArg (fun n=>sl (some (b3,0)) n 1) rfl) ?_
  have ⟨h3,H⟩:=Z4 H
  have ⟨l3,hl3,H⟩:=ZX H
  refine YE (SH (f:=v8) (j:=3) (l:=l2) (sp:=q2.2) (ds:=([BitVec.ofInt 8 (VO x 8)]:List (BitVec 8))) 0#8 (.o 0) rfl rfl rfl (fun _=>rfl) underlying86 underlying86 Yn rfl KR (B':=1) rfl (by have:=h3; omega) (by have:=h3; omega) hl3) (fun q3=>?_)
  refine Y2 ?_
  refine ZK (ZW (Z7 (N7 [0,5] rfl rfl ?_)))
  refine Z_ (Zj 2 rfl ?_)
  refine ZV (Vu rfl (fun w=>F3 w _ _ underlying5 (HY) .i64 x)) ?_
  refine YE (Ya (pv:=[(0,v8 (BitVec.ofInt 8 x))]) rfl rfl underlying86 Yn (s:=1) rfl KR rfl rfl rfl (cs:=e8 ([BitVec.ofInt 8 x]:List (BitVec 8))) (by kernel_rfl)) (fun b4=>?_)
  refine WN (v':=sl (some (b4,0)) ((([BitVec.ofInt 8 x]:List (BitVec 8))).length) 1) 34 (congrArg (fun n=>sl (some (b4,0)) n 1) rfl) ?_
  have ⟨h4,H⟩:=Z4 H
  have ⟨l4,hl4,H⟩:=ZX H
  refine YE (SH (f:=v8) (j:=4) (l:=l3) (sp:=q3.2) (ds:=([BitVec.ofInt 8 x]:List (BitVec 8))) 0#8 (.o 0) rfl rfl rfl (fun _=>rfl) underlying86 underlying86 Yn rfl KR (B':=1) rfl (by have:=h4; omega) (by have:=h4; omega) hl4) (fun q4=>?_)
  refine Y2 ?_
  refine Qb rfl ?_
  refine YW (ZL (Z7 (Z_ (YP ?_))))
  refine ZV (QY rfl underlying86 underlying5 underlying9 (EG (.o 4)) rfl) ?_
  refine Y2 ?_
  refine Zq ?_
  obtain rfl:=sj H
  exact Wj
 refine ZN (Z7 (ZY (Z_ (ZV (ZT Xr) ?_))))
 refine Y2 ?_
 have ⟨x2,KO,H⟩:=ZX H
 refine WN 9 (congrArg vb KO) ?_
 refine Qb rfl ?_
 refine Sn H (fun hc H=>?_) (fun hc H=>?_)
 ·refine YW (Z0 (Z0 (QX rfl ?_)))
  refine Z0 (ZL (Z7 (ZH (Zj 2 rfl ?_))))
  refine ZV (Zg rfl rfl (fun w=>yS w x .u64 16 (by decide))) ?_
  refine ZV (Vu rfl (fun w=>F3 w _ _ underlying5 (HY) .i64 (VO x 16))) ?_
  refine YE (Ya (pv:=[(0,v8 (BitVec.ofInt 8 (VO x 16)))]) rfl rfl underlying86 Yn (s:=1) rfl KR rfl rfl rfl (cs:=e8 ([BitVec.ofInt 8 (VO x 16)]:List (BitVec 8))) (by kernel_rfl)) (fun b5=>?_)
  refine WN (v':=sl (some (b5,0)) ((([BitVec.ofInt 8 (VO x 16)]:List (BitVec 8))).length) 1) 23 (congrArg (fun n=>sl (some (b5,0)) n 1) rfl) ?_
  have ⟨h5,H⟩:=Z4 H
  have ⟨l5,hl5,H⟩:=ZX H
  refine YE (SH (f:=v8) (j:=1) (l:=([]:List (BitVec 8))) (sp:=([]:List (BitVec 8))) (ds:=([BitVec.ofInt 8 (VO x 16)]:List (BitVec 8))) 0#8 (.o 0) rfl rfl rfl (fun _=>rfl) underlying86 underlying86 Yn rfl KR (B':=1) rfl (by have:=h5; omega) (by have:=h5; omega) hl5) (fun q5=>?_)
  refine Y2 ?_
  refine ZK (ZW (Z7 (ZH (Zj 2 rfl ?_))))
  refine ZV (Zg rfl rfl (fun w=>yS w x .u64 8 (by decide))) ?_
  refine ZV (Vu rfl (fun w=>F3 w _ _ underlying5 (HY) .i64 (VO x 8))) ?_
  refine YE (Ya (pv:=[(0,v8 (BitVec.ofInt 8 (VO x 8)))]) rfl rfl underlying86 Yn (s:=1) rfl KR rfl rfl rfl (cs:=e8 ([BitVec.ofInt 8 (VO x 8)]:List (BitVec 8))) (by kernel_rfl)) (fun b6=>?_)
  refine WN (v':=sl (some (b6,0)) ((([BitVec.ofInt 8 (VO x 8)]:List (BitVec 8))).length) 1) 29 (congrArg (fun n=>sl (some (b6,0)) n 1) rfl) ?_
  have ⟨h6,H⟩:=Z4 H
  have ⟨l6,hl6,H⟩:=ZX H
  refine YE (SH (f:=v8) (j:=2) (l:=l5) (sp:=q5.2) (ds:=([BitVec.ofInt 8 (VO x 8)]:List (BitVec 8))) 0#8 (.o 0) rfl rfl rfl (fun _=>rfl) underlying86 underlying86 Yn rfl KR (B':=1) rfl (by have:=h6; omega) (by have:=h6; omega) hl6) (fun q6=>?_)
  refine Y2 ?_
  refine ZK (ZW (Z7 (Z_ (Zj 2 rfl ?_))))
  refine ZV (Vu rfl (fun w=>F3 w _ _ underlying5 (HY) .i64 x)) ?_
  refine YE (Ya (pv:=[(0,v8 (BitVec.ofInt 8 x))]) rfl rfl underlying86 Yn (s:=1) rfl KR rfl rfl rfl (cs:=e8 ([BitVec.ofInt 8 x]:List (BitVec 8))) (by kernel_rfl)) (fun b7=>?_)
  refine WN (v':=sl (some (b7,0)) ((([BitVec.ofInt 8 x]:List (BitVec 8))).length) 1) 34 (congrArg (fun n=>sl (some (b7,0)) n 1) rfl) ?_
  have ⟨h7,H⟩:=Z4 H
  have ⟨l7,hl7,H⟩:=ZX H
  refine YE (SH (f:=v8) (j:=3) (l:=l6) (sp:=q6.2) (ds:=([BitVec.ofInt 8 x]:List (BitVec 8))) 0#8 (.o 0) rfl rfl rfl (fun _=>rfl) underlying86 underlying86 Yn rfl KR (B':=1) rfl (by have:=h7; omega) (by have:=h7; omega) hl7) (fun q7=>?_)
  refine Y2 ?_
  refine Z6 (N7 [5] rfl rfl ?_)
  refine YW (ZL (Z7 (Z_ (YP ?_))))
  refine ZV (QY rfl underlying86 underlying5 underlying9 (EG (.o 3)) rfl) ?_
  refine Y2 ?_
  refine Zq ?_
  obtain rfl:=sj H
  exact Wj
 refine ZN (Z7 (Z_ (ZV (ZT Xr) ?_)))
 refine Y2 ?_
 have ⟨x3,qx,H⟩:=ZX H
 refine WN 11 (congrArg vb qx) ?_
 refine Qb rfl ?_
 refine Sn H (fun hc H=>?_) (fun hc H=>?_)
 ·refine YW (Z0 (QX rfl ?_))
  refine Z0 (QX rfl ?_)
  refine Z0 (ZL (Z7 (ZH (Zj 2 rfl ?_))))
  refine ZV (Zg rfl rfl (fun w=>yS w x .u64 8 (by decide))) ?_
  refine ZV (Vu rfl (fun w=>F3 w _ _ underlying5 (HY) .i64 (VO x 8))) ?_
  refine YE (Ya (pv:=[(0,v8 (BitVec.ofInt 8 (VO x 8)))]) rfl rfl underlying86 Yn (s:=1) rfl KR rfl rfl rfl (cs:=e8 ([BitVec.ofInt 8 (VO x 8)]:List (BitVec 8))) (by kernel_rfl)) (fun b8=>?_)
  refine WN (v':=sl (some (b8,0)) ((([BitVec.ofInt 8 (VO x 8)]:List (BitVec 8))).length) 1) 29 (congrArg (fun n=>sl (some (b8,0)) n 1) rfl) ?_
  have ⟨h8,H⟩:=Z4 H
  have ⟨l8,hl8,H⟩:=ZX H
  refine YE (SH (f:=v8) (j:=1) (l:=([]:List (BitVec 8))) (sp:=([]:List (BitVec 8))) (ds:=([BitVec.ofInt 8 (VO x 8)]:List (BitVec 8))) 0#8 (.o 0) rfl rfl rfl (fun _=>rfl) underlying86 underlying86 Yn rfl KR (B':=1) rfl (by have:=h8; omega) (by have:=h8; omega) hl8) (fun q8=>?_)
  refine Y2 ?_
  refine ZK (ZW (Z7 (Z_ (Zj 2 rfl ?_))))
  refine ZV (Vu rfl (fun w=>F3 w _ _ underlying5 (HY) .i64 x)) ?_
  refine YE (Ya (pv:=[(0,v8 (BitVec.ofInt 8 x))]) rfl rfl underlying86 Yn (s:=1) rfl KR rfl rfl rfl (cs:=e8 ([BitVec.ofInt 8 x]:List (BitVec 8))) (by kernel_rfl)) (fun b9=>?_)
  refine WN (v':=sl (some (b9,0)) ((([BitVec.ofInt 8 x]:List (BitVec 8))).length) 1) 34 (congrArg (fun n=>sl (some (b9,0)) n 1) rfl) ?_
  have ⟨h9,H⟩:=Z4 H
  have ⟨l9,hl9,H⟩:=ZX H
  refine YE (SH (f:=v8) (j:=2) (l:=l8) (sp:=q8.2) (ds:=([BitVec.ofInt 8 x]:List (BitVec 8))) 0#8 (.o 0) rfl rfl rfl (fun _=>rfl) underlying86 underlying86 Yn rfl KR (B':=1) rfl (by have:=h9; omega) (by have:=h9; omega) hl9) (fun q9=>?_)
  refine Y2 ?_
  refine Qb rfl ?_
  refine YW (ZL (Z7 (Z_ (YP ?_))))
  refine ZV (QY rfl underlying86 underlying5 underlying9 (EG (.o 2)) rfl) ?_
  refine Y2 ?_
  refine Z6 (N7 [4] rfl rfl ?_)
  refine Y7 ?_
  obtain rfl:=sj H
  exact Wj
 refine ZN (Z7 (YW (QX rfl ?_)))
 refine Z0 (QX rfl ?_)
 refine Z0 (QX rfl ?_)
 refine Z0 (ZL (Z7 (Z_ (Zj 2 rfl ?_))))
 refine ZV (Vu rfl (fun w=>F3 w _ _ underlying5 (HY) .i64 x)) ?_
 refine YE (Ya (pv:=[(0,v8 (BitVec.ofInt 8 x))]) rfl rfl underlying86 Yn (s:=1) rfl KR rfl rfl rfl (cs:=e8 ([BitVec.ofInt 8 x]:List (BitVec 8))) (by kernel_rfl)) (fun qy=>?_)
 refine WN (v':=sl (some (qy,0)) ((([BitVec.ofInt 8 x]:List (BitVec 8))).length) 1) 34 (congrArg (fun n=>sl (some (qy,0)) n 1) rfl) ?_
 have ⟨JN,H⟩:=Z4 H
 have ⟨pG,hl10,H⟩:=ZX H
 refine YE (SH (f:=v8) (j:=1) (l:=([]:List (BitVec 8))) (sp:=([]:List (BitVec 8))) (ds:=([BitVec.ofInt 8 x]:List (BitVec 8))) 0#8 (.o 0) rfl rfl rfl (fun _=>rfl) underlying86 underlying86 Yn rfl KR (B':=1) rfl (by have:=JN; omega) (by have:=JN; omega) hl10) (fun q10=>?_)
 refine Y2 ?_
 refine Qb rfl ?_
 refine YW (ZL (Z7 (Z_ (YP ?_))))
 refine ZV (QY rfl underlying86 underlying5 underlying9 (EG (.o 1)) rfl) ?_
 refine Y2 ?_
 refine Zq ?_
 obtain rfl:=sj H
 exact Wj
def KV (x size:Int):Option (Str × Int) :=
 if size<1 then (some (([]:Str),101)) else (if 4<size then (some (([]:Str),101)) else (if x<0 then (some (([]:Str),101)) else (if 0≤ZJ (8 * size) then (if (VO x (ZJ (8 * size))) ≠ 0 then (some (([]:Str),101)) else ((P9 x size).bind fun Zu=>(some (Zu,0)))) else none)))
theorem Ec {x:Int} {size:Int} {r:Str × Int} (H:KV x size=some r) :
  Does Tryz.prog 133 [vi x,vi size] [] [] (Γ:=Unit) (fun g=>Value.tuple [vs r.1,vi r.2].toArray) (fun g=>[]):=by
 intro w hmem hro hd
 refine Zn func133 rfl ntmps133 rfl hmem hro hd ?_
 unfold KV at H
 refine Z_ (Zj 2 rfl ?_)
 refine Z6 (ZY (Z_ (YP ?_)))
 refine ZV (ZT WV) ?_
 refine YP ?_
 refine Td (d:=8) H (fun hc H=>?_) (fun hc H=>?_)
 ·refine Zj 14 rfl ?_
  refine Z6 (VI rfl ?_)
  refine Z_ (Zj 2 rfl ?_)
  refine Zq (ZZ ?_)
  obtain rfl:=sj H
  exact IA
 refine Zc (ZO rfl) ?_
 refine Zc (ZT Sv) ?_
 refine Zj 2 rfl ?_
 refine Td (d:=12) H (fun hc H=>?_) (fun hc H=>?_)
 ·refine Zj 10 rfl ?_
  refine Z6 (VI rfl ?_)
  refine Z_ (Zj 2 rfl ?_)
  refine Zq (ZZ ?_)
  obtain rfl:=sj H
  exact IA
 refine Zc (ZO rfl) ?_
 refine Zc (ZT WV) ?_
 refine Zj 2 rfl ?_
 refine Td (d:=16) H (fun hc H=>?_) (fun hc H=>?_)
 ·refine Zj 6 rfl ?_
  refine Z6 (VI rfl ?_)
  refine Z_ (Zj 2 rfl ?_)
  refine Zq (ZZ ?_)
  obtain rfl:=sj H
  exact IA
 refine Zj 2 rfl ?_
 refine Zc (ZT Ma) ?_
 have ⟨h1,H⟩:=Z4 H
 refine Zc (Zg rfl rfl (fun w=>yS w x .i64 (ZJ (8 * size)) h1)) ?_
 refine Zc (ZT SN) ?_
 refine FE ?_
 refine Z6 (UK H (fun hc H=>?_) (fun hc H=>?_))
 ·refine Z_ (Zj 2 rfl ?_)
  refine Zq (ZZ ?_)
  obtain rfl:=sj H
  exact IA
 refine ZN (Z7 (Z_ (Zj 2 rfl ?_)))
 have ⟨Zu,Yk,H⟩:=Z9 H
 refine YE (Y4 (Ee Yk :) call134 .z) (fun Re=>?_)
 refine Zj 2 rfl ?_
 refine Zq ?_
 obtain rfl:=sj H
 exact IA
end Go.Proofs
end

/-
  Part 15 of the proof of what several laws share.
-/
import Derived.Test.YtkgeoekcnlgfnaaGreatDoorKh14
set_option maxHeartbeats 4000000
set_option maxRecDepth 20000
set_option linter.unusedVariables false
set_option linter.unusedSimpArgs false
section
namespace Go.Proofs
open Go Go.Kx
open Vector (replicate)
theorem Bb {α:Type} [Inhabited α] {n:Nat} : ∀ (l:List α) (V:Vector α n) (o i:Nat),o+l.length≤n → i<n → vg (EX V o l) i=if o≤i∧i<o+l.length then l.getD (i - o) default else vg V i
 | [],V,o,i,h,hi=>by
  rw [if_neg (by simp)]; rfl
 | x :: r,V,o,i,h,hi=>by
  simp only [List.length_cons] at h
  show vg (EX (vp V o x) (o+1) r) i=_
  rw [Bb r (vp V o x) (o+1) i (by omega) hi,Qr (by omega) hi]
  simp only [List.length_cons]
  by_cases h1:o=i
  ·subst h1
   rw [if_neg (by omega),if_pos rfl,if_pos (by omega)]
   simp
  ·by_cases h2:o+1≤i∧i<o+1+r.length
   ·rw [if_pos h2,if_pos (by omega)]
    have:i - o=(i - (o+1))+1:=by omega
    rw [this]; simp
   ·rw [if_neg h2,if_neg h1,if_neg (by omega)]
theorem kQ {α:Type} [Inhabited α] {n:Nat} {V:Vector α n} {l:List α} (h:l.length=n) (i:Nat) (hi:i<n):vg (EX V 0 l) i=l.getD i default:=by
 rw [Bb l V 0 i (by omega) hi,if_pos (by omega),Nat.sub_zero]
theorem yI {α:Type} [Inhabited α] {a b:List α} {i:Nat} (h:i<a.length):lg (a++b) i=lg a i:=by
 simp [lg,List.getElem?_append_left h]
theorem yh {α:Type} [Inhabited α] {a:List α} {b:List α} {x:α}:lg (a++x :: b) a.length=x:=by
 simp [lg]
theorem Ad {α:Type} {a b:List α} {x y:α}:(a++x :: b).set a.length y=a++y :: b:=by
 rw [List.set_append_right _ _ (Nat.le_refl _),Nat.sub_self]; rfl
def zW:V4:=replicate 4 0#8
def L9 (ws:List V4) (N:Nat):List V4:=ws++List.replicate (N - ws.length) zW
theorem zz (ws:List V4) (N:Nat) (h:ws.length≤N):(L9 ws N).length=N:=by simp [L9]; omega
theorem iX (ws:List V4) (N i:Nat) (h:i<ws.length):lg (L9 ws N) i=lg ws i:=yI h
theorem MF (ws:List V4) (N:Nat) (h:ws.length<N):L9 ws N=ws++zW :: List.replicate (N - ws.length - 1) zW:=by
 unfold L9
 have:N - ws.length=(N - ws.length - 1)+1:=by omega
 rw [this,List.replicate_succ]; simp
theorem yR (ws:List V4) (N:Nat) (x:V4) (h:ws.length<N):(L9 ws N).set ws.length x=L9 (ws++[x]) N:=by
 rw [MF ws N h,Ad]
 unfold L9
 simp [Nat.sub_sub]
theorem CL (key:Str) (a k:Nat) (hk:k<4) (h:a+4≤key.length):((sub key a key.length).take 4).getD k default=key.getD (a+k) 0#8:=by
 simp only [sub,List.getD_eq_getElem?_getD]
 rw [List.getElem?_take,if_pos hk,List.getElem?_take,if_pos (by omega),List.getElem?_drop]
 rfl
theorem acu (key:Str) (i k:Nat) (hk:k<4):vg (kwV key i) k=key.getD (4 * i+k) 0#8:=by
 have:k=0 ∨ k=1 ∨ k=2 ∨ k=3:=by omega
 rcases this with rfl | rfl | rfl | rfl <;> rfl
theorem ah (n i N:Nat) (r r0:BitVec 8) (ws:List V4) (t:V4) (h:n≤i) (hi:ws.length=i) (hn:0<n) (h2:i<N) (hN:N=4 * (n+7)) (h3:N<1000) :
  loop (WH.b1 (n:Int) (r0,(i:Int),L9 ws N) (r,t)) BIG (0,L9 ws N)=some (L9 (ws++[x9 t (lg ws (i - n))]) N):=by
 have hlen : ∀ x:V4,(ws++x :: List.replicate (N - ws.length - 1) zW).length=N:=fun x=>by simp; omega
 have e1:ZJ ((i:Int) - (n:Int))=((i - n:Nat):Int):=by rw [Yr (by omega) (by omega)]; omega
 have e0:ZJ (4 * ZJ ((n:Int)+7))=(N:Int):=by rw [Yr (x:=(n:Int)+7) (by omega) (by omega),Yr (by omega) (by omega)]; omega
 let g:Nat → BitVec 8:=fun k=>vg (lg ws (i - n)) k ^^^ vg t k
 have hg:iter (fun k v=>vp v k (g k)) 4 zW=x9 t (lg ws (i - n)):=by
  refine RA fun k hk=>?_
  have:k=0 ∨ k=1 ∨ k=2 ∨ k=3:=by omega
  have hx:vg (x9 t (lg ws (i - n))) k=g k:=by
   unfold x9; rw [Tw hk]; exact BitVec.xor_comm _ _
  rw [hx]
  show vg (vp (vp (vp (vp zW 0 (g 0)) 1 (g 1)) 2 (g 2)) 3 (g 3)) k=g k
  rcases this with rfl | rfl | rfl | rfl <;> simp (disch:=omega) only [Qr,if_pos,if_neg] <;> simp
 have:=RY (body:=WH.b1 (n:Int) (r0,(i:Int),L9 ws N) (r,t)) (fun k=>((k:Int),ws++(iter (fun k v=>vp v k (g k)) k zW) :: List.replicate (N - ws.length - 1) zW)) 4 (L9 (ws++[x9 t (lg ws (i - n))]) N) (by omega) (fun k hk=>?_) ?_
 ·rw [MF ws N (by omega)]
  rw [MF ws N (by omega)] at this
  exact this
 ·generalize hu:iter (fun k v=>vp v k (g k)) k zW=u
  have uM:iter (fun k v=>vp v k (g k)) (k+1) zW=vp u k (g k):=by rw [← hu]; rfl
  have e2:ZJ ((k:Int)+1)=((k+1:Nat):Int):=by rw [Yr (by omega) (by omega)]; omega
  have hl:=hlen u
  unfold WH.b1
  simp only [e0,e1,e2,Int.toNat_natCast,hl]
  iterate 8 refine ZM (by omega) ?_
  refine Ze fun m hm=>?_
  have a1:lg (ws++u :: List.replicate (N - ws.length - 1) zW) i=u:=by rw [← hi]; exact yh
  have a2:lg (ws++u :: List.replicate (N - ws.length - 1) zW) (i - n)=lg ws (i - n):=yI (by omega)
  have a3 : ∀ x:V4,(ws++u :: List.replicate (N - ws.length - 1) zW).set i x=ws++x :: List.replicate (N - ws.length - 1) zW:=fun x=>by rw [← hi]; exact Ad
  rw [hm,a1,a2,a3,uM]
 ·unfold WH.b1
  refine Zi (by omega) ?_
  rw [hg]
  have:=yR ws N (x9 t (lg ws (i - n))) (by omega)
  rw [MF ws N (by omega),Ad] at this
  rw [this]
theorem dO (t:V4):loop (WH.b2 OY) BIG (0,t)=some (jm t):=by
 have h:=Q9 (body:=WH.b2 OY) t (fun k=>vg OY (vg t k).toNat) id (by omega) (fun k v hk hv=>?_) (fun v=>?_)
 ·refine h.trans (congrArg some (RA fun k hk=>?_))
  have:k=0 ∨ k=1 ∨ k=2 ∨ k=3:=by omega
  simp only [id,Tw hk]
  rcases this with rfl | rfl | rfl | rfl <;> rfl
 ·have e:=hv k (Nat.le_refl _) hk
  have e2:ZJ ((k:Int)+1)=((k+1:Nat):Int):=by rw [Yr (by omega) (by omega)]; omega
  unfold WH.b2
  simp only [e2,Int.toNat_natCast]
  iterate 3 refine ZM (by omega) ?_
  refine Ze fun m hm=>?_
  rw [hm,e]
 ·unfold WH.b2
  exact Zi (by omega) rfl
theorem yC (key:Str) (n i N:Nat) (hn:n=4 ∨ n=8) (hk:key.length=4 * n) (hN:N=4 * (n+7)) (hi:i<N) :
  WH.b0 key OY (n:Int) ((II key n i).1,(i:Int),L9 (II key n i).2 N)=some (.inl ((II key n (i+1)).1,((i+1:Nat):Int),L9 (II key n (i+1)).2 N)):=by
 have hl:=KD key n i
 rw [Jd]
 generalize II key n i=s at hl
 obtain ⟨r,ws⟩:=s
 simp only at hl
 have hp:=zz ws N (by omega)
 have e0:ZJ (4 * ZJ ((n:Int)+7))=(N:Int):=by rw [Yr (x:=(n:Int)+7) (by omega) (by omega),Yr (by omega) (by omega)]; omega
 have e2:(i:Int).tmod (n:Int)=((i % n:Nat):Int):=Dw i n
 have e3:ZJ ((i:Int)+1)=((i+1:Nat):Int):=by rw [Yr (by omega) (by omega)]; omega
 by_cases hc:i<n
 ·have e4:ZJ (4 * (i:Int))=((4 * i:Nat):Int):=by rw [Yr (by omega) (by omega)]; omega
  unfold WH.b0
  simp only [e0,e3,e4,Int.toNat_natCast]
  refine ZM (by omega) (ZM (by omega) ?_)
  iterate 4 refine ZM (by omega) ?_
  refine Ze fun m hm=>?_
  have a1:lg (L9 ws N) i=zW:=by rw [MF ws N (by omega), ← hl]; exact yh
  have hs:(sub key (4 * i) key.length).length=4 * n - 4 * i:=by rw [WA (Nat.le_refl _),hk]
  have hmin:min (sub key (4 * i) key.length).length (4 - 0)=4:=by rw [hs]; omega
  have a2:EX zW 0 ((sub key (4 * i) key.length).take 4)=kwV key i:=by
   refine RA fun k fu=>?_
   rw [kQ (by rw [List.length_take,hs]; omega) k fu,CL key (4 * i) k fu (by omega),acu key i k fu]
  have a3:=yR ws N (kwV key i) (by omega)
  rw [hl] at a3
  rw [hm,a1,hmin,a2,a3]
  unfold JS
  rw [if_pos hc]
 ·have e1:ZJ ((i:Int) - 1)=((i - 1:Nat):Int):=by rw [Yr (by omega) (by omega)]; omega
  unfold WH.b0
  simp only [e0,e1,e2,e3,Int.toNat_natCast]
  refine ZM (by omega) (Zi (by omega) ?_)
  iterate 2 refine ZM (by omega) ?_
  refine Ze fun m hm=>ZM (by omega) ?_
  rw [iX ws N (i - 1) (by omega)] at hm
  have xz : ∀ j:BitVec 8 × V4,j=Ir n i (r,ws) → ((loop (WH.b1 (n:Int) (r,(i:Int),L9 ws N) j) BIG (0,L9 ws N)).bind fun (M7:List V4)=>(some (Sum.inl (β:=List V4) (j.1,((i+1:Nat):Int),M7))))=some (.inl ((JS key n i (r,ws)).1,((i+1:Nat):Int),L9 (JS key n i (r,ws)).2 N)):=by
   intro j hj
   refine Z5 (ah n i N j.1 r ws j.2 (by omega) hl (by omega) (by omega) hN (by omega)) ?_
   rw [hj]
   unfold JS
   rw [if_neg (by omega)]
  by_cases c0:i % n=0
  ·refine Z5 (v:=(tw r,aP m r)) (ZM (by omega) ?_) (xz _ ?_)
   ·exact Ze fun m3 h3=>Z5 (JB _) (by rw [h3]; rfl)
   ·unfold Ir; rw [if_pos c0,hm]
  ·by_cases c1:n=8∧i % n=4
   ·refine Z5 (v:=(r,jm m)) (Zi (by omega) (Z5 (v:=true) (ZM (by omega) (ZM (by omega) (by rw [decide_eq_true (by omega)]))) (ZM rfl (Z5 (dO m) rfl)))) (xz _ ?_)
    unfold Ir; rw [if_neg c0,if_pos c1,hm]
   ·refine Z5 (v:=(r,m)) (Zi (by omega) ?_) (xz _ ?_)
    ·by_cases c2:(n:Int)=8
     ·exact Z5 (v:=false) (ZM c2 (ZM (by omega) (by rw [decide_eq_false (by omega)]))) (Zi (by decide) rfl)
     ·exact Z5 (v:=false) (Zi c2 rfl) (Zi (by decide) rfl)
    ·unfold Ir; rw [if_neg c0,if_neg c1,hm]
theorem aae (key:Str) (n N:Nat) (hn:n=4 ∨ n=8) (hk:key.length=4 * n) (hN:N=4 * (n+7)):loop (WH.b0 key OY (n:Int)) BIG (1#8,0,List.replicate N zW)=some (II key n N).2:=by
 have e0:ZJ (4 * ZJ ((n:Int)+7))=(N:Int):=by rw [Yr (x:=(n:Int)+7) (by omega) (by omega),Yr (by omega) (by omega)]; omega
 have:=RY (body:=WH.b0 key OY (n:Int)) (fun i=>((II key n i).1,(i:Int),L9 (II key n i).2 N)) N (II key n N).2 (by omega) (fun i hi=>yC key n i N hn hk hN hi) ?_
 ·exact this
 ·unfold WH.b0
  simp only [e0,Int.toNat_natCast]
  refine Zi (by omega) ?_
  have hl:=KD key n N
  have:L9 (II key n N).2 N=(II key n N).2:=by unfold L9; rw [hl,Nat.sub_self]; simp
  rw [this]
theorem bu (w:List V4) (n N:Nat) (hn:n=4 ∨ n=8) (hw:w.length=N) (hN:N=4 * (n+7)):loop (WH.b3 (n:Int) w) BIG (0,List.replicate (n+7) (replicate 16 0#8))=some (keysOf w):=by
 have e0:ZJ (4 * ZJ ((n:Int)+7))=(N:Int):=by rw [Yr (x:=(n:Int)+7) (by omega) (by omega),Yr (by omega) (by omega)]; omega
 have e7:ZJ ((n:Int)+7)=((n+7:Nat):Int):=by rw [Yr (by omega) (by omega)]; omega
 refine Ho N (fun k ks=>ks.set (k / 4) (EX (lg ks (k / 4)) (4 * (k % 4)) (lg w k).toList)) _ _ (fun k ks=>ks.length=n+7 ∧ ∀ r i,r<n+7 → i<16 → vg (lg ks r) i=if 4 * r+i / 4<k then vg (lg w (4 * r+i / 4)) (i % 4) else 0#8) (by omega) ⟨by simp,fun r i hr hi=>?_⟩ (fun k ks hk ⟨h1,h2⟩=>⟨?_,by simp [h1],fun r i hr hi=>?_⟩) (fun ks ⟨h1,h2⟩ _=>?_)
 ·rw [if_neg (by omega)]
  have:lg (List.replicate (n+7) (replicate 16 0#8)) r=replicate 16 0#8:=by simp [lg,hr]
  rw [this,MC hi]; simp
 ·have e1:ZJ ((k:Int).tdiv 4)=((k / 4:Nat):Int):=by rw [show (4:Int)=((4:Nat):Int) from rfl,Bi,Nq (by omega)]
  have e2:(k:Int).tmod 4=((k % 4:Nat):Int):=Dw k 4
  have e3:ZJ (4 * ((k % 4:Nat):Int))=((4 * (k % 4):Nat):Int):=by rw [Yr (by omega) (by omega)]; omega
  have e4:ZJ ((k:Int)+1)=((k+1:Nat):Int):=by rw [Yr (by omega) (by omega)]; omega
  have e8:ZJ (4 * ((n+7:Nat):Int))=(N:Int):=by rw [Yr (by omega) (by omega)]; omega
  unfold WH.b3
  simp only [e7,e8,e1,e2,e3,e4,Int.toNat_natCast]
  clear e0 e1 e2 e3 e4 e7 e8
  iterate 8 refine ZM (by omega) ?_
  refine Ze fun m hm=>?_
  have a1:(sub ((lg w k).toList) 0 4).take (min (4 - 0) (16 - 4 * (k % 4)))=(lg w k).toList:=by
   have hm:min (4 - 0) (16 - 4 * (k % 4))=4:=by omega
   have hl4:(lg w k).toList.length=4:=by simp
   rw [hm]
   unfold sub
   rw [List.drop_zero,Nat.sub_zero,List.take_of_length_le (l:=(lg w k).toList) (by omega),List.take_of_length_le (by omega)]
  rw [hm,a1]
 ·have hlw:(lg w k).toList.length=4:=by simp
  by_cases hr2:k / 4=r
  ·subst hr2
   have e:lg (ks.set (k / 4) (EX (lg ks (k / 4)) (4 * (k % 4)) (lg w k).toList)) (k / 4)=EX (lg ks (k / 4)) (4 * (k % 4)) (lg w k).toList:=by
    simp [lg,h1,hr]
   rw [e,Bb _ _ _ _ (by rw [hlw]; omega) hi,hlw]
   by_cases c:4 * (k % 4)≤i∧i<4 * (k % 4)+4
   ·have e4:4 * (k / 4)+i / 4=k:=by omega
    rw [if_pos c,if_pos (by omega),e4]
    have e5:i - 4 * (k % 4)=i % 4:=by omega
    rw [e5]
    rfl
   ·rw [if_neg c,h2 (k / 4) i hr hi]
    by_cases c2:4 * (k / 4)+i / 4<k
    ·rw [if_pos c2,if_pos (by omega)]
    ·rw [if_neg c2,if_neg (by omega)]
  ·have e:lg (ks.set (k / 4) (EX (lg ks (k / 4)) (4 * (k % 4)) (lg w k).toList)) r=lg ks r:=by
    simp [lg,List.getElem?_set,hr2]
   rw [e,h2 r i hr hi]
   by_cases c2:4 * r+i / 4<k
   ·rw [if_pos c2,if_pos (by omega)]
   ·rw [if_neg c2,if_neg (by omega)]
 ·unfold WH.b3
  simp only [e0,Int.toNat_natCast]
  refine Zi (by omega) (congrArg some (congrArg Sum.inr ?_))
  refine List.ext_getElem (by rw [Lm,h1]; omega) fun r p1 p2=>?_
  have e1:ks[r]=lg ks r:=by simp [lg,p1]
  have e2:(keysOf w)[r]=lg (keysOf w) r:=by simp [lg,p2]
  rw [e1,e2,BM w r (by omega)]
  refine RA fun i hi=>?_
  rw [h2 r i (by omega) hi,if_pos (by omega)]
  simp only [Fh,Tw hi]
theorem ax (key:Str) (n:Nat) (hn:n=4 ∨ n=8) (hk:key.length=4 * n):WH key=some (.inr (OY,n+7,keysOf (II key n (4 * (n+7))).2)):=by
 have e0:ZJ ((key.length:Int).tdiv 4)=(n:Int):=by
  rw [show (4:Int)=((4:Nat):Int) from rfl,Bi,Nq (by omega)]; omega
 have e1:ZJ ((n:Int)+7)=((n+7:Nat):Int):=by rw [Yr (by omega) (by omega)]; omega
 have e2:ZJ (4 * ((n+7:Nat):Int))=((4 * (n+7):Nat):Int):=by rw [Yr (by omega) (by omega)]; omega
 have b0:=aae key n (4 * (n+7)) hn hk rfl
 have b3:=bu (II key n (4 * (n+7))).2 n (4 * (n+7)) hn (KD key n _) rfl
 unfold WH
 rw [e0]
 have rest:(Py).bind (fun (Zu:Vx 8 256)=>(X5 (n:Int) fun (n1:Int)=>(if 0≤ZJ (4 * (ZJ (n1+7)))∧ZJ (4 * (ZJ (n1+7)))≤17592186044416 then ((loop (WH.b0 key Zu n1) BIG (1#8,0,List.replicate ((ZJ (4 * (ZJ (n1+7)))).toNat) (replicate 4 0#8))).bind fun (Yw:List (Vx 8 4))=>(if 0≤ZJ (n1+7)∧ZJ (n1+7)≤17592186044416 then ((loop (WH.b3 n1 Yw) BIG (0,List.replicate ((ZJ (n1+7)).toNat) (replicate 16 0#8))).bind fun (Gu:List (Vx 8 16))=>(some (Sum.inr (α:=Unit) (Zu,(ZJ (n1+7)).toNat,Gu)))) else none)) else none)))=some (.inr (OY,n+7,keysOf (II key n (4 * (n+7))).2)):=by
  refine Z5 nH (Ze fun n1 wY=>?_)
  rw [wY,e1,e2,Int.toNat_natCast,Int.toNat_natCast]
  refine ZM (by omega) (Z5 b0 (ZM (by omega) (Z5 b3 rfl)))
 refine Z5 (v:=false) ?_ (Zi (by decide) rest)
 rcases hn with h4 | h8
 ·subst h4
  exact Zi (by omega) rfl
 ·subst h8
  exact ZM (by omega) (by rw [decide_eq_false (by omega)])
open TryzI Tryz
def TF (key ZA:Str) (Ur s_:Str) (more:Int):Option (Bool) :=
 if ((key).length:Int)=16 then (if ((ZA).length:Int)=12 then (if ((Ur).length:Int)≤65536 then (X5 (decide (((s_).length:Int)≤(ZJ (65536+more)))) fun x1=>(some x1)) else (some false)) else (some false)) else (if ((key).length:Int)=32 then (if ((ZA).length:Int)=12 then (if ((Ur).length:Int)≤65536 then (X5 (decide (((s_).length:Int)≤(ZJ (65536+more)))) fun x2=>(some x2)) else (some false)) else (some false)) else (some false))
theorem BZ {key:Str} {ZA:Str} {Ur:Str} {s_:Str} {more:Int} {r:Bool} (H:TF key ZA Ur s_ more=some r) :
  Does Tryz.prog 79 [vs key,vs ZA,vs Ur,vs s_,vi more] [] [] (Γ:=Unit) (fun g=>vb r) (fun g=>[]):=by
 intro w hmem hro hd
 refine Zn func79 rfl ntmps79 rfl hmem hro hd ?_
 unfold TF at H
 refine Z_ (Y2 ?_)
 refine Z6 (Z_ (YP ?_))
 refine ZV (Zf rfl underlying9) ?_
 refine ZV (ZT Xr) ?_
 refine YP ?_
 refine Td (d:=14) H (fun hc H=>?_) (fun hc H=>?_)
 ·refine Zj 6 rfl ?_
  refine Zc (Zf rfl underlying9) ?_
  refine Zc (ZT Xr) ?_
  refine Zj 2 rfl ?_
  refine Td (d:=24) H (fun hc H=>?_) (fun hc H=>?_)
  ·refine Zc (ZO rfl) ?_
   refine Zc (Zf rfl underlying9) ?_
   refine Zc (ZT RH) ?_
   refine Zj 2 rfl ?_
   refine Td (d:=29) H (fun hc H=>?_) (fun hc H=>?_)
   ·refine Zc (ZO rfl) ?_
    refine Zc (Zf rfl underlying9) ?_
    refine Zc (ZO rfl) ?_
    refine Zc (ZT XN) ?_
    refine Zc (ZT RH) ?_
    refine Zj 2 rfl ?_
    have ⟨x1,TK,H⟩:=ZX H
    refine WN 10 (congrArg vb TK) ?_
    refine Z6 (N7 [10] rfl rfl ?_)
    refine Y7 ?_
    obtain rfl:=sj H
    exact Wj
   refine Zj 7 rfl ?_
   refine Z6 (N7 [10] rfl rfl ?_)
   refine Y7 ?_
   obtain rfl:=sj H
   exact Wj
  refine Zj 12 rfl ?_
  refine Z6 (N7 [10] rfl rfl ?_)
  refine Y7 ?_
  obtain rfl:=sj H
  exact Wj
 refine Zc (ZO rfl) ?_
 refine Zc (Zf rfl underlying9) ?_
 refine Zc (ZT Xr) ?_
 refine Zj 2 rfl ?_
 refine Td (d:=19) H (fun hc H=>?_) (fun hc H=>?_)
 ·refine Zc (ZO rfl) ?_
  refine Zc (Zf rfl underlying9) ?_
  refine Zc (ZT Xr) ?_
  refine Zj 2 rfl ?_
  refine Td (d:=24) H (fun hc H=>?_) (fun hc H=>?_)
  ·refine Zc (ZO rfl) ?_
   refine Zc (Zf rfl underlying9) ?_
   refine Zc (ZT RH) ?_
   refine Zj 2 rfl ?_
   refine Td (d:=29) H (fun hc H=>?_) (fun hc H=>?_)
   ·refine Zc (ZO rfl) ?_
    refine Zc (Zf rfl underlying9) ?_
    refine Zc (ZO rfl) ?_
    refine Zc (ZT XN) ?_
    refine Zc (ZT RH) ?_
    refine Zj 2 rfl ?_
    have ⟨x2,KO,H⟩:=ZX H
    refine WN 10 (congrArg vb KO) ?_
    refine Z6 (N7 [10] rfl rfl ?_)
    refine Y7 ?_
    obtain rfl:=sj H
    exact Wj
   refine Zj 7 rfl ?_
   refine Z6 (N7 [10] rfl rfl ?_)
   refine Y7 ?_
   obtain rfl:=sj H
   exact Wj
  refine Zj 12 rfl ?_
  refine Z6 (N7 [10] rfl rfl ?_)
  refine Y7 ?_
  obtain rfl:=sj H
  exact Wj
 refine Zj 17 rfl ?_
 refine Z6 (N7 [10] rfl rfl ?_)
 refine Y7 ?_
 obtain rfl:=sj H
 exact Wj
open TryzI Tryz
def SX (key ZA:Str) (Ur s_:Str):Option (Str × Int) :=
 (TF key ZA Ur s_ 0).bind fun Zu=>(if (!Zu)=true then (some (([]:Str),500)) else ((ZU key).bind fun YJ=>((Yt YJ ZA 2 s_).bind fun X7=>((RU YJ ZA Ur X7).bind fun Xu=>(if (X7).length+(Xu).length≤4611686018427387904 then (some (X7++Xu,0)) else none)))))
theorem pJ {key:Str} {ZA:Str} {Ur:Str} {s_:Str} {r:Str × Int} (H:SX key ZA Ur s_=some r) :
  Does Tryz.prog 59 [vs key,vs ZA,vs Ur,vs s_] [] [] (Γ:=Unit) (fun g=>Value.tuple [vs r.1,vi r.2].toArray) (fun g=>[]):=by
 intro w hmem hro hd
 refine Zn func59 rfl ntmps59 rfl hmem hro hd ?_
 unfold SX at H
 refine Z_ (Zj 2 rfl ?_)
 refine Z6 (ZY (Z_ (Zj 4 rfl ?_)))
 have ⟨Zu,Yk,H⟩:=Z9 H
 refine YE (Y4 (BZ Yk :) call79 .z) (fun Re=>?_)
 refine ZV (UF T_) ?_
 refine Z6 (Sn H (fun hc H=>?_) (fun hc H=>?_))
 ·refine Z_ (Zj 2 rfl ?_)
  refine Zq (ZZ ?_)
  obtain rfl:=sj H
  exact IA
 refine ZN (Z7 (Z_ (YP ?_)))
 have ⟨YJ,X6,H⟩:=Z9 H
 refine YE (Wq (is:=[]) rfl call80 (Cs X6 :) rfl trivial) (fun UD=>?_)
 refine Y2 ?_
 refine Z6 (Z_ (Zj 3 rfl ?_))
 have ⟨X7,Vt,H⟩:=Z9 H
 refine YE (Y4 (F9 (Zy _ _) Vt :) call81 ⟨(Xt (s:=4) (fun _=>by simp) (.o 0)),trivial⟩) (fun Pm=>?_)
 refine Y2 ?_
 refine Z6 (Z_ (Zj 5 rfl ?_))
 have ⟨Xu,UH,H⟩:=Z9 H
 refine YE (Y4 (BD (Zy _ _) UH :) call82 ⟨(Xt (s:=4) (fun _=>by simp) (.o 0)),trivial⟩) (fun JV=>?_)
 have ⟨h1,H⟩:=Z4 H
 refine ZV (Zg rfl rfl (fun w=>G9 w X7 Xu h1)) ?_
 refine Zj 2 rfl ?_
 refine Zq ?_
 obtain rfl:=sj H
 exact IA
open TryzI Tryz
def Kg (key:Str):Option ((Unit) ⊕ (Vx 8 256 × Nat × List (Vx 8 16) × BitVec 64 × BitVec 64)) :=
 (WH key).bind fun Zu=>(match Zu with | .inl Zu=>(some (.inl ())) | .inr Zu=>(if Zu.2.1=(Zu.2.2).length then ((Zp Zu.1 Zu.2.2 (replicate 16 0#8:Vx 8 16)).bind fun YJ=>((PV YJ.toList).bind fun X7=>(some (.inr (Zu.1,(Zu.2.2).length,Zu.2.2,X7.1,X7.2))))) else none))
theorem EI {key:Str} {r:(Unit) ⊕ (Vx 8 256 × Nat × List (Vx 8 16) × BitVec 64 × BitVec 64)} (H:Kg key=some r) :
  Does Tryz.prog 128 [vs key] [] [] (Γ:=Unit × (Nat × Nat × Nat)) (fun g=>match r with | .inl r=>Value.tuple [Value.pointer none,vb false].toArray | .inr r=>Value.tuple [ptr (some (g.2.1,0)) 0,vb true].toArray) (fun g=>match r with | .inl r=>[] | .inr r=>[⟨some (g.2.1,0),[ptr (some (g.2.2.1,0)) 0]⟩,⟨some (g.2.2.1,0),e8 r.1.toList⟩,⟨some (g.2.2.1,256),[sl (some (g.2.2.2,0)) r.2.1 r.2.1]⟩,⟨some (g.2.2.2,0),eF (fun V:Vx 8 16=>e8 V.toList) r.2.2.1⟩,⟨some (g.2.1,1),[v64 r.2.2.2.1]⟩,⟨some (g.2.1,2),[v64 r.2.2.2.2]⟩]):=by
 intro w hmem hro hd
 refine Zn func128 rfl ntmps128 rfl hmem hro hd ?_
 unfold Kg at H
 refine Z_ (Zj 2 rfl ?_)
 refine Z6 (Z_ (YP ?_))
 have ⟨Zu,Yk,H⟩:=Z9 H
 rcases Zu with Zu | Zu
 ·dsimp only at H
  refine vO rfl rfl rfl (Wq (is:=[]) rfl call141 (DC Yk :) rfl trivial) (fun Re=>?_)
  refine Zj 5 rfl ?_
  refine Z6 (ZY (Z_ (YP ?_)))
  refine ZV (UF T_) ?_
  refine Z6 (VI rfl ?_)
  refine Z_ (Zj 2 rfl ?_)
  refine Zq (ZZ ?_)
  obtain rfl:=sj H
  exact JK ((),((default:Nat),(default:Nat),(default:Nat))) [] (vs:=[_,_]) rfl ⟨rfl,rfl,trivial⟩ rfl
 dsimp only at H
 refine vO rfl rfl rfl (Wq (is:=[]) rfl call141 (DC Yk :) rfl trivial) (fun UD=>?_)
 refine Zj 5 rfl ?_
 refine Z6 (ZY (Z_ (YP ?_)))
 refine ZV (UF T_) ?_
 refine Z6 (KJ rfl ?_)
 refine ZN (Z7 (Z_ (YP ?_)))
 refine ZV (VJ (pv:=[]) rfl rfl underlying171 UW Yn rfl Pp (cs:=e8 ((replicate 16 0#8:Vx 8 16).toList)) (by kernel_rfl)) ?_
 have ⟨h1,H⟩:=Z4 H
 refine Ta 1 (congrArg (fun n=>[sl (some (UD.2.2,0)) n n]) h1) ?_
 have ⟨YJ,X6,H⟩:=Z9 H
 refine YE (Y4 (H9 (Nat.le_refl _) X6 :) call142 ⟨.o 0, .o 1, .o 2,trivial⟩) (fun Pm=>?_)
 refine YE (Wh [(16,e8 ((replicate 16 0#8).toList))] UW Pp ⟨(Wl (f:=v8) (replicate 16 0#8)),trivial⟩) (fun b1=>?_)
 refine VM (Vd (vs:=e8 YJ.toList) 0 UW) (fun _=>?_)
 refine Z6 (Z_ (YP ?_))
 refine ZV (P6 rfl (by simp) underlying171 Yn rfl) ?_
 refine WN (v':=sl (some (b1,0)) ((YJ.toList).length) ((YJ.toList).length)) 18 (congrArg (fun n=>sl (some (b1,0)) n n) vT.symm) ?_
 have ⟨X7,Vt,H⟩:=Z9 H
 refine YE (Y4 (C_ (Nat.le_refl _) Vt :) call143 ⟨.o 0,trivial⟩) (fun JV=>?_)
 refine ZV (Y9 (pv:=[(0,ptr (some (UD.2.1,0)) 0),(1,aG [(1,[v64 X7.1]),(1,[v64 X7.2])])]) (pl:=[(0,1),(1,2)]) rfl rfl underlying219 dI pq aY (cs:=flat [(1,[ptr (some (UD.2.1,0)) 0]),(1,[v64 X7.1]),(1,[v64 X7.2])]) (NN [] [(2,flat [(1,[v64 0#64]),(1,[v64 0#64])])] rfl rfl trivial rfl rfl rfl (NN [(1,[ptr (some (UD.2.1,0)) 0])] [] rfl rfl ⟨rfl,trivial⟩ rfl (Mt ⟨rfl,rfl,trivial⟩ rfl) (Mt ⟨rfl,rfl,trivial⟩ rfl) KN))) ?_
 refine YE PT (fun b2=>?_)
 refine Zj 2 rfl ?_
 refine Zq ?_
 obtain rfl:=sj H
 exact JK ((),(b2,UD.2.1,UD.2.2)) [0,3,3,3,0,0] (vs:=[_,_]) rfl ⟨rfl,rfl,trivial⟩ rfl
open TryzI Tryz
def GG (ZA Ur:Str) (most long:Int):Option (Bool) :=
 if ((ZA).length:Int)=12 then (if ((Ur).length:Int)≤65536 then (X5 (decide (long≤most)) fun x1=>(some x1)) else (some false)) else (some false)
theorem wy {ZA:Str} {Ur:Str} {most:Int} {long:Int} {r:Bool} (H:GG ZA Ur most long=some r) :
  Does Tryz.prog 129 [vs ZA,vs Ur,vi most,vi long] [] [] (Γ:=Unit) (fun g=>vb r) (fun g=>[]):=by
 intro w hmem hro hd
 refine Zn func129 rfl ntmps129 rfl hmem hro hd ?_
 unfold GG at H
 refine Z_ (Y2 ?_)
 refine Z6 (Z_ (YP ?_))
 refine ZV (Zf rfl underlying9) ?_
 refine ZV (ZT Xr) ?_
 refine YP ?_
 refine Td (d:=12) H (fun hc H=>?_) (fun hc H=>?_)
 ·refine Zc (ZO rfl) ?_
  refine Zc (Zf rfl underlying9) ?_
  refine Zc (ZT RH) ?_
  refine Zj 2 rfl ?_
  refine Td (d:=17) H (fun hc H=>?_) (fun hc H=>?_)
  ·refine Zj 2 rfl ?_
   refine Zc (ZT RH) ?_
   refine Zj 2 rfl ?_
   have ⟨x1,TK,H⟩:=ZX H
   refine WN 8 (congrArg vb TK) ?_
   refine Zq ?_
   obtain rfl:=sj H
   exact Wj
  refine Zj 5 rfl ?_
  refine Zq ?_
  obtain rfl:=sj H
  exact Wj
 refine Zj 10 rfl ?_
 refine Zq ?_
 obtain rfl:=sj H
 exact Wj
open TryzI Tryz
def Xc.b1 (b:List (BitVec 8)) (s0:Nat × BitVec 32 × List (BitVec 8)) (YJ:Vx 8 16) (Xi:Int) (s1:Int × List (BitVec 8)):Option ((Int × List (BitVec 8)) ⊕ (List (BitVec 8))) :=
 if s1.1<Xi then (if (b).length≤(s1.2).length then (if (b).length≤(s1.2).length then (if 0≤s1.1∧s1.1<(((((b).length) - s0.1:Nat):Int):Int) then (if 0≤s1.1∧s1.1<(16:Int) then (if (b).length≤(s1.2).length then (if (b).length≤(s1.2).length then (if 0≤s1.1∧s1.1<(((((b).length) - s0.1:Nat):Int):Int) then (X5 (s1.2.set (s0.1+((s1.1).toNat)) ((lg s1.2 (s0.1+((s1.1).toNat))) ^^^ (vg YJ ((s1.1).toNat)))) fun SV=>(some (.inl (ZJ (s1.1+1),SV)))) else none) else none) else none) else none) else none) else none) else none) else (some (.inr s1.2))
def Xc.b0 (TQ:Vx 8 256) (UV:List (Vx 8 16)) (ZA:Str) (b:List (BitVec 8)) (s0:Nat × BitVec 32 × List (BitVec 8)):Option ((Nat × BitVec 32 × List (BitVec 8)) ⊕ (List (BitVec 8))) :=
 if 0<((((b).length) - s0.1:Nat):Int) then ((Tp ZA s0.2.1).bind fun Zu=>((Zp TQ UV Zu).bind fun YJ=>(X5 (min ((((b).length) - s0.1:Nat):Int) 16) fun Xi=>((loop (Xc.b1 b s0 YJ Xi) BIG (0,s0.2.2)).bind fun M7=>(if 0≤Xi then (if (b).length≤(M7).length then (if s0.1≤(b).length then (if (Xi).toNat≤((b).length) - s0.1 then (X5 (s0.2.1+1#32) fun n1=>(some (.inl (s0.1+((Xi).toNat),n1,M7)))) else none) else none) else none) else none))))) else (some (.inr s0.2.2))
def Xc (TQ:Vx 8 256) (UV:List (Vx 8 16)) (Nb LV:BitVec 64) (ZA:Str) (b:List (BitVec 8)):Option (List (BitVec 8)) :=
 (loop (Xc.b0 TQ UV ZA b) BIG (0,2#32,b)).bind fun Yw=>(some Yw)
theorem vJ {bc:Nat} {obc:Nat} {bc_aes:Nat} {obc_aes:Nat} {Ac_aes_keys:Y6} {cc_aes_keys:Nat} {Ab:Y6} {spb:List (BitVec 8)} {TQ:Vx 8 256} {UV:List (Vx 8 16)} {Nb:BitVec 64} {LV:BitVec 64} {ZA:Str} {b:List (BitVec 8)} (KH:(UV).length≤cc_aes_keys) {r:List (BitVec 8)} (H:Xc TQ UV Nb LV ZA b=some r) :
  Does Tryz.prog 131 [ptr (some (bc,obc)) 0,vs ZA,sl Ab ((b).length) ((b++spb).length)] [⟨Ab,e8 (b++spb)⟩] [⟨some (bc,obc),[ptr (some (bc_aes,obc_aes)) 0]⟩,⟨some (bc,obc+1),[v64 Nb]⟩,⟨some (bc,obc+2),[v64 LV]⟩,⟨some (bc_aes,obc_aes),e8 TQ.toList⟩,⟨some (bc_aes,obc_aes+256),[sl Ac_aes_keys ((UV).length) cc_aes_keys]⟩,⟨Ac_aes_keys,eF (fun V:Vx 8 16=>e8 V.toList) UV⟩] (Γ:=Unit) (fun g=>Value.tuple [].toArray) (fun g=>[⟨Ab,e8 (r++spb)⟩]):=by
 intro w hmem hro hd
 refine Zn func131 rfl ntmps131 rfl hmem hro hd ?_
 unfold Xc at H
 refine Z_ (Y2 ?_)
 refine Z6 (ZP (dW (d:=2) (v:=sl Ab ((b).length) ((b++spb).length)) (v':=sl (R5 Ab ((b++spb).length) 0 0 1) (((b).length) - 0) (((b++spb).length) - 0)) rfl (sG 1) ?_))
 have ⟨Yw,Hl,H⟩:=Z9 H
 refine Wz [0,1,2,6] [0] rfl rfl ?_
 refine Yv (id:=0) (body:=(Xc.b0 TQ UV ZA b)) (σ:=Nat × BitVec 32 × List (BitVec 8)) (Γ:=Nat) (Γx:=Unit) (fun s0 WG=>[(0,ptr (some (bc,obc)) 0),(1,vs ZA),(2,sl (R5 Ab ((s0.2.2++spb).length) s0.1 WG 1) (((b).length) - s0.1) (((s0.2.2++spb).length) - s0.1)),(6,v32 s0.2.1)]) (fun s0 WG=>[⟨Ab,e8 (s0.2.2++spb)⟩]) (fun t g=>[]) (fun t g=>[⟨Ab,e8 (t++spb)⟩]) ?_ BIG (0,2#32,b) 0 Yw Hl ?_
 ·intro s0 WG r1 H K hK hE
  unfold Xc.b0 at H
  refine ZY (Z_ (YP ?_))
  refine ZV (ZG rfl underlying86) ?_
  refine ZV (ZT Sv) ?_
  refine Z6 (UK H (fun hc H=>?_) (fun hc H=>?_))
  ·refine ZN (Z7 (ZY (ZP (ZY ?_))))
   have ⟨Zu,Yk,H⟩:=Z9 H
   have ⟨YJ,X6,H⟩:=Z9 H
   refine U3 [] 10 rfl ?_
   refine PX 1 [] (.v 0 [] rfl rfl (ZO rfl) (.v 1 [0] rfl rfl (Zh rfl) (.v 2 [1] rfl rfl (ZQ 0 underlying219 kN) (.v 3 [2] rfl rfl (Z8 rfl (.r 0) rfl isAgg211) (.v 4 [] rfl rfl (ZO rfl) (.v 5 [] rfl rfl (ZO rfl) (.e 6 [4,5] rfl rfl (Qg (Dh Yk :) call148 .z) (.e 7 [3,6] rfl rfl (Qg (H9 KH X6 :) call142 ⟨.r 3, .r 4, .r 5,trivial⟩) (.c ⟨8,7,fun _ b1=>ptr (some (b1,0)) 0,fun b1=>[⟨some (b1,0),e8 ((replicate 16 0#8).toList)⟩],[],none⟩ rfl (fun _ _=>(Wh [(16,e8 ((replicate 16 0#8).toList))] UW Pp ⟨(Wl (f:=v8) (replicate 16 0#8)),trivial⟩)) .nil))))))))) (fun γ=>?_)
   refine Qj [7,22,0,1,2,6] rfl rfl ?_
   generalize γ 8=b1
   refine Qh 9 [] rfl (Vd (vs:=e8 YJ.toList) 0 UW) (fun _=>rfl) (fun _=>?_)
   refine Vi ?_
   refine Z7 (Z_ (YP ?_))
   refine ZV (ZG rfl underlying86) ?_
   refine ZV (eP rfl rfl) ?_
   refine Y2 ?_
   have ⟨Xi,hm_1,H⟩:=ZX H
   refine WN 8 (congrArg vi hm_1) ?_
   refine Z6 (ZY (Z_ (Zj 2 rfl ?_)))
   refine Z6 (ZP ?_)
   have ⟨M7,Hl,H⟩:=Z9 H
   refine Wz [0,1,2,6,7,8,26,27] [1,0] rfl rfl ?_
   refine Yv (id:=2) (body:=(Xc.b1 b s0 YJ Xi)) (σ:=Int × List (BitVec 8)) (Γ:=Unit) (Γx:=Unit) (fun s1 ME=>[(0,ptr (some (bc,obc)) 0),(1,vs ZA),(2,sl (R5 Ab ((s1.2++spb).length) s0.1 WG 1) (((b).length) - s0.1) (((s1.2++spb).length) - s0.1)),(6,v32 s0.2.1),(7,ptr (some (b1,0)) 0),(8,vi Xi),(26,vi Xi),(27,vi s1.1)]) (fun s1 ME=>[⟨Ab,e8 (s1.2++spb)⟩,⟨some (b1,0),e8 YJ.toList⟩]) (fun t g=>[(0,ptr (some (bc,obc)) 0),(1,vs ZA),(2,sl (R5 Ab ((t++spb).length) s0.1 WG 1) (((b).length) - s0.1) (((t++spb).length) - s0.1)),(6,v32 s0.2.1),(8,vi Xi)]) (fun t g=>[⟨Ab,e8 (t++spb)⟩]) ?_ BIG (0,s0.2.2) () M7 Hl ?_
   ·intro s1 ME r1 H K hK hE
    unfold Xc.b1 at H
    refine Z_ (ZV (ZT WV) ?_)
    refine Z6 (ZY (UK H (fun hc H=>?_) (fun hc H=>?_)))
    ·refine ZN (Z7 (ZY (ZP (Z_ (Zj 2 rfl ?_)))))
     refine Z6 ?_
     have ⟨h1,H⟩:=Z4 H
     have ⟨h2,H⟩:=Z4 H
     have ⟨h3,H⟩:=Z4 H
     have ⟨h4,H⟩:=Z4 H
     have ⟨h5,H⟩:=Z4 H
     have ⟨h6,H⟩:=Z4 H
     have ⟨h7,H⟩:=Z4 H
     have ⟨SV,hm_2,H⟩:=ZX H
     refine U3 [] 10 rfl ?_
     refine PX 1 [] (.v 0 [] rfl rfl (ZO rfl) (.v 1 [] rfl rfl (ZO rfl) (.v 2 [0,1] rfl rfl (sS (i:=s1.1) rfl rfl underlying86 Yn rfl (.o 0) (Uf (Si (D8 h3.2 h3.1 h2))) h3.1 h3.2 (Nat.le_trans h1 (Zy _ _)) (k:=s0.1+((s1.1).toNat)) (JZ _)) (.v 3 [2] rfl rfl (Z8 rfl (.o 0) (Aw (f:=v8) (l:=s1.2) (sp:=spb) (D8 h3.2 h3.1 h2)) isAgg5) (.v 4 [] rfl rfl (ZO rfl) (.v 5 [4] rfl rfl (Zw (i:=s1.1) rfl rfl underlying171 Yn rfl h4.1 h4.2 (k:=(s1.1).toNat) (Tz _)) (.v 6 [5] rfl rfl (Z8 rfl (.o 1) (YL (f:=v8) (V:=YJ) (tl h4)) isAgg5) (.v 7 [3,6] rfl rfl (V9 Sr rfl rfl) (.v 8 [0,1] rfl rfl (sS (i:=s1.1) rfl rfl underlying86 Yn rfl (.o 0) (Uf (Si (D8 h7.2 h7.1 h6))) h7.1 h7.2 (Nat.le_trans h5 (Zy _ _)) (k:=s0.1+((s1.1).toNat)) (JZ _)) .nil))))))))) (fun γ=>?_)
     refine Qj [38,37,0,1,2,6,7,8,26,27] rfl rfl ?_
     refine Qh 9 [] rfl (YR (j:=0) rfl rfl Yn rfl rfl rfl (by rw [List.length_map]; exact Si (D8 h7.2 h7.1 h6)) (cs':=e8 ((s1.2.set (s0.1+((s1.1).toNat)) ((lg s1.2 (s0.1+((s1.1).toNat))) ^^^ (vg YJ ((s1.1).toNat))))++spb)) (AQ (D8 h7.2 h7.1 h6))) (fun _=>rfl) (fun _=>?_)
     refine Iy 0 (congrArg (fun z=>e8 (z++spb)) hm_2) ?_
     refine Xb (v':=sl (R5 Ab ((SV++spb).length) s0.1 WG 1) (((b).length) - s0.1) (((SV++spb).length) - s0.1)) 2 (ad2 (s:=1) (g_ hm_2)) ?_
     refine Vi ?_
     refine ZW (Z7 (ZH (ZV (ZT XN) ?_)))
     refine YP ?_
     refine ZK ?_
     obtain rfl:=sj H
     exact Ri [0,0] (hK (ZJ (s1.1+1),SV) rfl ())
    refine YW (Z0 (Z0 ?_))
    obtain rfl:=sj H
    exact WW [0] (hE s1.2 rfl ())
   intro g
   refine ZL (Z7 (ZH (Zj 2 rfl ?_)))
   have ⟨h8,H⟩:=Z4 H
   have ⟨h9,H⟩:=Z4 H
   have ⟨JN,H⟩:=Z4 H
   have ⟨h11,H⟩:=Z4 H
   refine ZV (Ck (l:=(Xi).toNat) (h:=((b).length) - s0.1) rfl underlying86 Yn rfl (OZ.some' (i:=Xi) rfl h8) OZ.none' h11 (Nat.le_refl _) (Nat.le_trans h9 (Zy _ _)) (Nat.add_sub_cancel' JN)) ?_
   refine Y2 ?_
   refine ZK (ZW (Z7 (ZH (YP ?_))))
   refine ZV (Zg rfl rfl (fun w=>add32 w s0.2.1 1#32)) ?_
   refine Y2 ?_
   have ⟨n1,wY,H⟩:=ZX H
   refine WN 6 (congrArg v32 wY) ?_
   refine ZK ?_
   obtain rfl:=sj H
   exact Ri [0] (hK (s0.1+((Xi).toNat),n1,M7) rfl (if (M7++spb).length=s0.1 then WG else s0.1))
  refine YW (Z0 (Z0 ?_))
  obtain rfl:=sj H
  exact WW [0] (hE s0.2.2 rfl ())
 intro g
 refine ZL ?_
 obtain rfl:=sj H
 exact Kv (rs:=[]) (vs:=[]) rfl trivial (fun w' hs'=>⟨(),rfl,Step.left (Step.pulled (is:=[0]) (A:=[⟨Ab,e8 (Yw++spb)⟩]) hs' rfl)⟩)
open TryzI Tryz
def Ju (key ZA:Str) (Ur s_:Str):Option (Str × Int) :=
 (Kg key).bind fun Zu=>(match Zu with | .inl Zu=>(some (([]:Str),500)) | .inr Zu=>((GG ZA Ur 65552 ((s_).length:Int)).bind fun YJ=>(if (!YJ)=true then (some (([]:Str),500)) else (X5 (ZJ (((s_).length:Int) - 16)) fun n1=>(if n1<0 then (some (([]:Str),501)) else (if 0≤n1 then (if (n1).toNat≤(s_).length then (if Zu.2.1=(Zu.2.2.1).length then ((Vq Zu.1 Zu.2.2.1 Zu.2.2.2.1 Zu.2.2.2.2 ZA Ur (sub s_ 0 ((n1).toNat))).bind fun X7=>(if 0≤n1 then (if (n1).toNat≤(s_).length then (if X7 ≠ sub s_ ((n1).toNat) ((s_).length) then (some (([]:Str),501)) else ((Xc Zu.1 Zu.2.2.1 Zu.2.2.2.1 Zu.2.2.2.2 ZA (sub s_ 0 ((n1).toNat))).bind fun Xu=>(if (Xu).length=(sub s_ 0 ((n1).toNat)).length then (some (Xu,0)) else none))) else none) else none)) else none) else none) else none))))))
theorem xC {key:Str} {ZA:Str} {Ur:Str} {s_:Str} {r:Str × Int} (H:Ju key ZA Ur s_=some r) :
  Does Tryz.prog 119 [vs key,vs ZA,vs Ur,vs s_] [] [] (Γ:=Unit) (fun g=>Value.tuple [vs r.1,vi r.2].toArray) (fun g=>[]):=by
 intro w hmem hro hd
 refine Zn func119 rfl ntmps119 rfl hmem hro hd ?_
 unfold Ju at H
 refine Z_ (Zj 2 rfl ?_)
 refine Z6 (Z_ (YP ?_))
 have ⟨Zu,Yk,H⟩:=Z9 H
 rcases Zu with Zu | Zu
 ·dsimp only at H
  refine vO rfl rfl rfl (Wq (is:=[]) rfl call128 (EI Yk :) rfl trivial) (fun Re=>?_)
  refine Zj 5 rfl ?_
  refine Z6 (ZY (Z_ (YP ?_)))
  refine ZV (UF T_) ?_
  refine Zj 8 rfl ?_
  refine Z6 (VI rfl ?_)
  refine Z_ (Zj 2 rfl ?_)
  refine Zq (ZZ ?_)
  obtain rfl:=sj H
  exact IA
 dsimp only at H
 refine vO rfl rfl rfl (Wq (is:=[]) rfl call128 (EI Yk :) rfl trivial) (fun UD=>?_)
 refine Zj 5 rfl ?_
 refine Z6 (ZY (Z_ (YP ?_)))
 refine ZV (UF T_) ?_
 refine Zj 4 rfl ?_
 refine Zc (Zf rfl underlying9) ?_
 have ⟨YJ,X6,H⟩:=Z9 H
 refine JQ (Y4 (wy X6 :) call129 .z) (fun Pm=>?_)
 refine Zc (UF T_) ?_
 refine FE ?_
 refine Z6 (Sn H (fun hc H=>?_) (fun hc H=>?_))
 ·refine Z_ (Zj 2 rfl ?_)
  refine Zq (ZZ ?_)
  obtain rfl:=sj H
  exact IA
 refine ZN (Z7 (Z_ (YP ?_)))
 refine ZV (Zf rfl underlying9) ?_
 refine ZV (ZT OX) ?_
 refine Y2 ?_
 have ⟨n1,wY,H⟩:=ZX H
 refine WN 12 (congrArg vi wY) ?_
 refine Z6 (ZY (Z_ (YP ?_)))
 refine ZV (ZT WV) ?_
 refine Z6 (UK H (fun hc H=>?_) (fun hc H=>?_))
 ·refine Z_ (Zj 2 rfl ?_)
  refine Z6 (N7 [8,9] rfl rfl ?_)
  refine Y7 (ZZ ?_)
  obtain rfl:=sj H
  exact IA
 refine ZN (Z7 (Z_ (Zj 2 rfl ?_)))
 have ⟨h1,H⟩:=Z4 H
 have ⟨h2,H⟩:=Z4 H
 refine ZV (Uq (l:=0) (h:=(n1).toNat) rfl underlying9 OZ.none' (OZ.some' (i:=n1) rfl h1) (Nat.zero_le _) h2) ?_
 refine YE (lF rfl underlying9 underlying86 underlying5) (fun JV=>?_)
 refine Y2 ?_
 refine Z6 (N7 [1,2,3,10,12,13] rfl rfl ?_)
 refine ZY (ZY ?_)
 have ⟨h3,H⟩:=Z4 H
 have ⟨X7,Vt,H⟩:=Z9 H
 have ⟨h4,H⟩:=Z4 H
 have ⟨h5,H⟩:=Z4 H
 refine U3 [0,0,0,1,1,1] 9 rfl ?_
 refine YA 3 0 rfl ?_
 refine YA 1 5 rfl ?_
 refine Zz 7 rfl (Uq (l:=(n1).toNat) (h:=(s_).length) rfl underlying9 (OZ.some' (i:=n1) rfl h4) OZ.none' h5 (Nat.le_refl _)) ?_
 refine Iy 3 (congrArg (fun n=>[sl (some (UD.2.2.2,0)) n n]) h3) ?_
 refine Tm 4 [0,0,0,1,1,1] rfl (Y4 (vN (Nat.le_refl _) (Zy _ _) Vt :) call130 ⟨.o 1, .o 5, .o 6, .o 2, .o 3, .o 4,(Zt (.o 0)),trivial⟩) (fun _=>rfl) (fun zM=>?_)
 refine Zz 8 rfl (ZT KX) ?_
 refine Vi ?_
 refine Z7 (UK H (fun hc H=>?_) (fun hc H=>?_))
 ·refine Z_ (Zj 2 rfl ?_)
  refine Zq (ZZ ?_)
  obtain rfl:=sj H
  exact IA
 refine ZN (Z7 (Z_ (Zj 3 rfl ?_)))
 have ⟨Xu,UH,H⟩:=Z9 H
 refine YE (Wq (is:=[0]) rfl call131 (vJ (Nat.le_refl _) UH :) rfl ⟨.o 0, .o 4, .o 5, .o 1, .o 2, .o 3,trivial⟩) (fun jV=>?_)
 have ⟨h6,H⟩:=Z4 H
 refine WN (v':=sl (some (JV.1,0)) ((Xu).length) ((Xu++JV.2).length)) 13 (VG h6) ?_
 refine WN (v':=sl (some (JV.1,0)) ((Xu).length) ((Xu++JV.2).length)) 41 (VG h6) ?_
 refine WN (v':=sl (some (JV.1,0)) ((Xu).length) ((Xu++JV.2).length)) 49 (VG h6) ?_
 refine Z6 (Z_ (YP ?_))
 refine ZV (QY rfl underlying86 underlying5 underlying9 (EG (.o 0)) rfl) ?_
 refine Zj 2 rfl ?_
 refine Zq ?_
 obtain rfl:=sj H
 exact IA
open TryzI Tryz
def S9 (key ZA:Str) (Ur s_:Str):Option (Str × Int) :=
 (TF key ZA Ur s_ 16).bind fun Zu=>(if (!Zu)=true then (some (([]:Str),500)) else (X5 (ZJ (((s_).length:Int) - 16)) fun Qe=>(if Qe<0 then (some (([]:Str),501)) else ((ZU key).bind fun YJ=>(if 0≤Qe then (if (Qe).toNat≤(s_).length then ((RU YJ ZA Ur (sub s_ 0 ((Qe).toNat))).bind fun X7=>(if 0≤Qe then (if (Qe).toNat≤(s_).length then (if X7 ≠ sub s_ ((Qe).toNat) ((s_).length) then (some (([]:Str),501)) else (if 0≤Qe then (if (Qe).toNat≤(s_).length then ((Yt YJ ZA 2 (sub s_ 0 ((Qe).toNat))).bind fun Xu=>(some (Xu,0))) else none) else none)) else none) else none)) else none) else none)))))
theorem qJ {key:Str} {ZA:Str} {Ur:Str} {s_:Str} {r:Str × Int} (H:S9 key ZA Ur s_=some r) :
  Does Tryz.prog 85 [vs key,vs ZA,vs Ur,vs s_] [] [] (Γ:=Unit) (fun g=>Value.tuple [vs r.1,vi r.2].toArray) (fun g=>[]):=by
 intro w hmem hro hd
 refine Zn func85 rfl ntmps85 rfl hmem hro hd ?_
 unfold S9 at H
 refine Z_ (Zj 2 rfl ?_)
 refine Z6 (ZY (Z_ (Zj 4 rfl ?_)))
 have ⟨Zu,Yk,H⟩:=Z9 H
 refine YE (Y4 (BZ Yk :) call79 .z) (fun Re=>?_)
 refine ZV (UF T_) ?_
 refine Z6 (Sn H (fun hc H=>?_) (fun hc H=>?_))
 ·refine Z_ (Zj 2 rfl ?_)
  refine Zq (ZZ ?_)
  obtain rfl:=sj H
  exact IA
 refine ZN (Z7 (Z_ (YP ?_)))
 refine ZV (Zf rfl underlying9) ?_
 refine ZV (ZT OX) ?_
 refine Y2 ?_
 have ⟨Qe,hk_1,H⟩:=ZX H
 refine WN 10 (congrArg vi hk_1) ?_
 refine Z6 (ZY (Z_ (YP ?_)))
 refine ZV (ZT WV) ?_
 refine Z6 (UK H (fun hc H=>?_) (fun hc H=>?_))
 ·refine Z_ (Zj 2 rfl ?_)
  refine Zq (ZZ ?_)
  obtain rfl:=sj H
  exact IA
 refine ZN (Z7 (Z_ (YP ?_)))
 have ⟨YJ,X6,H⟩:=Z9 H
 refine YE (Wq (is:=[]) rfl call80 (Cs X6 :) rfl trivial) (fun UD=>?_)
 refine Y2 ?_
 refine Z6 (ZY (ZY ?_))
 have ⟨h1,H⟩:=Z4 H
 have ⟨h2,H⟩:=Z4 H
 have ⟨X7,Vt,H⟩:=Z9 H
 have ⟨h3,H⟩:=Z4 H
 have ⟨h4,H⟩:=Z4 H
 refine U3 [] 11 rfl ?_
 refine PX 0 [] (.v 0 [] rfl rfl (ZO rfl) (.v 1 [] rfl rfl (ZO rfl) (.v 2 [] rfl rfl (ZO rfl) (.v 3 [] rfl rfl (ZO rfl) (.v 4 [] rfl rfl (ZO rfl) (.v 5 [3,4] rfl rfl (Uq (l:=0) (h:=(Qe).toNat) rfl underlying9 OZ.none' (OZ.some' (i:=Qe) rfl h1) (Nat.zero_le _) h2) (.e 6 [0,1,2,5] rfl rfl (Qg (BD (Zy _ _) Vt :) call82 ⟨(Xt (s:=4) (fun _=>by simp) (.o 0)),trivial⟩) (.v 7 [] rfl rfl (ZO rfl) (.v 8 [] rfl rfl (ZO rfl) (.v 9 [7,8] rfl rfl (Uq (l:=(Qe).toNat) (h:=(s_).length) rfl underlying9 (OZ.some' (i:=Qe) rfl h3) OZ.none' h4 (Nat.le_refl _)) (.v 10 [9,6] rfl rfl (V9 KX rfl rfl) .nil))))))))))) (fun γ=>?_)
 refine Qj [35,11,10,1,3] rfl rfl ?_
 refine Vi ?_
 refine Z7 (UK H (fun hc H=>?_) (fun hc H=>?_))
 ·refine Z_ (Zj 2 rfl ?_)
  refine Zq (ZZ ?_)
  obtain rfl:=sj H
  exact IA
 refine ZN (Z7 (Z_ (Zj 4 rfl ?_)))
 have ⟨h5,H⟩:=Z4 H
 have ⟨h6,H⟩:=Z4 H
 refine ZV (Uq (l:=0) (h:=(Qe).toNat) rfl underlying9 OZ.none' (OZ.some' (i:=Qe) rfl h5) (Nat.zero_le _) h6) ?_
 have ⟨Xu,UH,H⟩:=Z9 H
 refine YE (Y4 (F9 (Zy _ _) UH :) call81 ⟨(Xt (s:=4) (fun _=>by simp) (.o 0)),trivial⟩) (fun JV=>?_)
 refine Zj 2 rfl ?_
 refine Zq ?_
 obtain rfl:=sj H
 exact IA
end Go.Proofs
end

/-
  Part 31 of the proof of what several laws share.
-/
import Derived.Test.YtkgeoekcnlgfnaaGreatDoorKe1
import Derived.Test.YtkgeoekcnlgfnaaGreatDoorKe2
import Derived.Test.YtkgeoekcnlgfnaaGreatDoorKe3
import Derived.Test.YtkgeoekcnlgfnaaGreatDoorKe4
import Derived.Test.YtkgeoekcnlgfnaaGreatDoorKe5
import Derived.Test.YtkgeoekcnlgfnaaGreatDoorKe6
import Derived.Test.YtkgeoekcnlgfnaaGreatDoorKe14
import Derived.Test.YtkgeoekcnlgfnaaGreatDoorKe15
import Derived.Test.YtkgeoekcnlgfnaaGreatDoorKe16
import Derived.Test.YtkgeoekcnlgfnaaGreatDoorKe17
import Derived.Test.YtkgeoekcnlgfnaaGreatDoorKe26
import Derived.Test.YtkgeoekcnlgfnaaGreatDoorKe27
import Derived.Test.YtkgeoekcnlgfnaaGreatDoorKe28
import Derived.Test.YtkgeoekcnlgfnaaGreatDoorKe29
import Derived.Test.YtkgeoekcnlgfnaaGreatDoorKe30
set_option linter.unusedVariables false
set_option linter.unusedSimpArgs false
section
namespace Go.Proofs
open Go Go.Kx
def subW (t:V4):V4 := #v[vg BOXV (vg t 0).toNat,vg BOXV (vg t 1).toNat,vg BOXV (vg t 2).toNat,vg BOXV (vg t 3).toNat]
def rotW (t:V4) (r:BitVec 8):V4 := #v[vg BOXV (vg t 1).toNat ^^^ r,vg BOXV (vg t 2).toNat,vg BOXV (vg t 3).toNat,vg BOXV (vg t 0).toNat]
def tempW (n i:Nat) (s:BitVec 8 × List V4):BitVec 8 × V4 :=
 if i % n=0 then (tw s.1,rotW (lg s.2 (i - 1)) s.1) else if n=8∧i % n=4 then (s.1,subW (lg s.2 (i - 1))) else (s.1,lg s.2 (i - 1))
def kwV (key:Str) (i:Nat):V4 := #v[key.getD (4 * i) 0#8,key.getD (4 * i+1) 0#8,key.getD (4 * i+2) 0#8,key.getD (4 * i+3) 0#8]
def xorW (a b:V4):V4:=Vector.ofFn fun k=>vg a k.val ^^^ vg b k.val
def stepK (key:Str) (n i:Nat) (s:BitVec 8 × List V4):BitVec 8 × List V4 :=
 if i<n then (s.1,s.2++[kwV key i]) else ((tempW n i s).1,s.2++[xorW (tempW n i s).2 (lg s.2 (i - n))])
def Wst (key:Str) (n i:Nat):BitVec 8 × List V4:=iter (stepK key n) i (1#8,[])
theorem Wst_succ (key:Str) (n i:Nat):Wst key n (i+1)=stepK key n i (Wst key n i):=rfl
theorem Wst_len (key:Str) (n:Nat) : ∀ i,(Wst key n i).2.length=i
 | 0=>rfl
 | i+1=>by
  rw [Wst_succ]; unfold stepK
  have:=Wst_len key n i
  split <;> simp [this]
theorem box_len':halberdref4_schedule.k1.length=256:=by kernel_rfl
theorem box_at' (x:BitVec 8):sg halberdref4_schedule.k1 (x.toNat:Int)=vg BOXV x.toNat:=by
 simp only [sg,Int.toNat_natCast,vg,BOXV]
 rfl
theorem sg_nat (s:Str) (n:Nat):sg s (n:Int)=s.getD n 0#8:=by unfold sg; rw [Int.toNat_natCast]
theorem v4_congr {a b c d a' b' c' d':BitVec 8} (ha:a=a') (hb:b=b') (hc:c=c') (hd:d=d'):(#v[a,b,c,d]:V4) = #v[a',b',c',d']:=by
 subst ha; subst hb; subst hc; subst hd; rfl
theorem sch_b0 (key:Str) (n:Nat) (hn:n=4 ∨ n=8) (hk:key.length=4 * n):loop (halberdref4_schedule.b0 key (n:Int)) BIG (0,[])=some (Wst key n n).2:=by
 refine loop_iter (fun i=>((i:Int),(Wst key n i).2)) n _ (by omega) (fun i hi=>?_) ?_
 ·have hl:=Wst_len key n i
  have e0:w64 (4 * (i:Int))=((4 * i:Nat):Int):=by rw [w64_id (by omega) (by omega)]; omega
  have e1:w64 (w64 (4 * (i:Int))+1)=((4 * i+1:Nat):Int):=by rw [e0,w64_id (by omega) (by omega)]; omega
  have e2:w64 (w64 (4 * (i:Int))+2)=((4 * i+2:Nat):Int):=by rw [e0,w64_id (by omega) (by omega)]; omega
  have e3:w64 (w64 (4 * (i:Int))+3)=((4 * i+3:Nat):Int):=by rw [e0,w64_id (by omega) (by omega)]; omega
  have e4:w64 ((i:Int)+1)=((i+1:Nat):Int):=by rw [w64_id (by omega) (by omega)]; omega
  unfold halberdref4_schedule.b0
  dsimp only
  iterate 5 refine if_i (by omega) ?_
  refine if_i (by simp only [hl,List.length_cons,List.length_nil]; omega) ?_
  refine ltt_i fun m hm=>ltt_i fun j hj=>?_
  rw [hj,hm,Wst_succ,e4]
  unfold stepK
  rw [if_pos hi]
  dsimp only
  rw [v4_congr (by rw [e0,sg_nat]) (by rw [e1,sg_nat]) (by rw [e2,sg_nat]) (by rw [e3,sg_nat])]
  rfl
 ·unfold halberdref4_schedule.b0
  exact if_n (by omega) rfl
theorem sch_b2 (n i:Nat) (r:BitVec 8) (ws:List V4) (t:V4) (h:n≤i) (hi:ws.length=i) (hn:0<n) (h2:i<1000):loop (halberdref4_schedule.b2 (n:Int) (r,(i:Int),ws)) BIG (0,t)=some (xorW t (lg ws (i - n))):=by
 refine loop_fill _ (fun k=>vg t k ^^^ vg (lg ws (i - n)) k) id (by omega) (fun k v hk hv=>?_) (fun v=>?_)
 ·have e:=hv k (Nat.le_refl _) hk
  have e1:w64 ((i:Int) - (n:Int))=((i - n:Nat):Int):=by rw [w64_id (by omega) (by omega)]; omega
  have e2:w64 ((k:Int)+1)=((k+1:Nat):Int):=by rw [w64_id (by omega) (by omega)]; omega
  unfold halberdref4_schedule.b2
  simp only [e1,e2]
  iterate 5 refine if_i (by omega) ?_
  refine ltt_i fun m hm=>ltt_i fun j hj=>?_
  simp only [hj,hm,Int.toNat_natCast,e]
 ·unfold halberdref4_schedule.b2
  exact if_n (by omega) rfl
theorem sch_b1_step (key:Str) (n i:Nat) (hn:n=4 ∨ n=8) (h:n≤i) (hi:i<4 * (n+7)) :
  halberdref4_schedule.b1 (n:Int) ((Wst key n i).1,(i:Int),(Wst key n i).2)=some (.inl ((Wst key n (i+1)).1,((i+1:Nat):Int),(Wst key n (i+1)).2)):=by
 have hl:=Wst_len key n i
 rw [Wst_succ]
 generalize Wst key n i=s at hl
 obtain ⟨r,ws⟩:=s
 simp only at hl
 have e0:w64 (4 * w64 ((n:Int)+7))=((4 * (n+7):Nat):Int):=by rw [w64_id (x:=(n:Int)+7) (by omega) (by omega),w64_id (by omega) (by omega)]; omega
 have e1:w64 ((i:Int) - 1)=((i - 1:Nat):Int):=by rw [w64_id (by omega) (by omega)]; omega
 have e2:(i:Int).tmod (n:Int)=((i % n:Nat):Int):=tmodN i n
 have e3:w64 ((i:Int)+1)=((i+1:Nat):Int):=by rw [w64_id (by omega) (by omega)]; omega
 unfold halberdref4_schedule.b1
 simp only [e0,e1,e2,e3,box_len',box_at',Int.toNat_natCast]
 iterate 2 refine if_i (by omega) ?_
 refine ltt_i fun m hm=>if_i (by omega) (ltt_i fun x1 hx1=>?_)
 have hb:=fun k=>(vg m k).isLt
 have hb0:=hb 0
 have hb1:=hb 1
 have hb2:=hb 2
 have hb3:=hb 3
 clear hb
 have key2 : ∀ j:BitVec 8 × V4,j=tempW n i (r,ws) → ((loop (halberdref4_schedule.b2 (n:Int) (r,(i:Int),ws)) BIG (0,j.2)).bind fun (t_3:V4)=>(if (ws).length+(([t_3]:List V4)).length≤35184372088832 then (ltt (ws++([t_3]:List V4)) fun (l2:List V4)=>(ltt ((i+1:Nat):Int) fun (i2:Int)=>(some (Sum.inl (β:=List V4) (j.1,i2,l2))))) else none))=some (.inl ((stepK key n i (r,ws)).1,((i+1:Nat):Int),(stepK key n i (r,ws)).2)):=by
  intro j hj
  refine bind_i (sch_b2 n i r ws j.2 h hl (by omega) (by omega)) (if_i (by simp only [hl,List.length_cons,List.length_nil]; omega) (ltt_i fun l2 h2=>ltt_i fun i2 hi2=>?_))
  rw [h2,hi2,hj]
  unfold stepK
  rw [if_neg (by omega)]
 by_cases c0:i % n=0
 ·refine bind_i (v:=(tw r,rotW m r)) (if_i (by rw [hx1,decide_eq_true_eq]; omega) ?_) (key2 _ ?_)
  ·iterate 4 refine if_i (by omega) ?_
   exact ltt_i fun m3 h3=>bind_i (double_eq _) (by rw [h3]; rfl)
  ·unfold tempW; rw [if_pos c0,hm]
 ·by_cases c1:n=8∧i % n=4
  ·refine bind_i (v:=(r,subW m)) (if_n (by rw [hx1,decide_eq_true_eq]; omega) ?_) (key2 _ ?_)
   ·iterate 2 refine if_i (by omega) ?_
    refine ltt_i fun x2 hx2=>if_i (by rw [hx2,decide_eq_true_eq]; omega) ?_
    iterate 4 refine if_i (by omega) ?_
    exact ltt_i fun m3 h3=>(by rw [h3]; rfl)
   ·unfold tempW; rw [if_neg c0,if_pos c1,hm]
  ·refine bind_i (v:=(r,m)) (if_n (by rw [hx1,decide_eq_true_eq]; omega) ?_) (key2 _ ?_)
   ·by_cases c2:6<(n:Int)
    ·refine if_i c2 (if_i (by omega) (ltt_i fun x2 hx2=>if_n (by rw [hx2,decide_eq_true_eq]; omega) rfl))
    ·exact if_n c2 rfl
   ·unfold tempW; rw [if_neg c0,if_neg c1,hm]
theorem sch_eq (key:Str) (n:Nat) (hn:n=4 ∨ n=8) (hk:key.length=4 * n):halberdref4_schedule key=some (Wst key n (4 * (n+7))).2:=by
 have e0:w64 ((key.length:Int).tdiv 4)=(n:Int):=by
  rw [show (4:Int)=((4:Nat):Int) from rfl,tdivN,w64_nat (by omega)]; omega
 unfold halberdref4_schedule
 refine ltt_i fun k hk1=>?_
 rw [hk1,e0]
 refine bind_i (sch_b0 key n hn hk) (bind_i (v:=(Wst key n (4 * (n+7))).2) ?_ rfl)
 have hr:(Wst key n n).1=1#8:=by
  have : ∀ i,i≤n → (Wst key n i).1=1#8:=by
   intro i
   induction i with
   | zero=>intro _; rfl
   | succ i ih=>intro h; rw [Wst_succ]; unfold stepK; rw [if_pos (by omega)]; exact ih (by omega)
  exact this n (Nat.le_refl _)
 have:=loop_iter (body:=halberdref4_schedule.b1 (n:Int)) (fun k=>((Wst key n (n+k)).1,(((n+k:Nat)):Int),(Wst key n (n+k)).2)) (4 * (n+7) - n) (Wst key n (4 * (n+7))).2 (by omega) (fun k hk2=>sch_b1_step key n (n+k) hn (by omega) (by omega)) ?_
 ·rw [Nat.add_zero,hr] at this
  exact this
 ·have e:n+(4 * (n+7) - n)=4 * (n+7):=by omega
  rw [e]
  unfold halberdref4_schedule.b1
  refine if_n ?_ rfl
  rw [w64_id (x:=(n:Int)+7) (by omega) (by omega),w64_id (by omega) (by omega)]
  show ¬ (((4 * (n+7):Nat):Int)<_)
  omega
end Go.Proofs
end

section
namespace Go.Proofs
open Go Go.Kx
open Vector (replicate)
theorem vg_vsp {α:Type} [Inhabited α] {n:Nat} : ∀ (l:List α) (V:Vector α n) (o i:Nat),o+l.length≤n → i<n → vg (vsp V o l) i=if o≤i∧i<o+l.length then l.getD (i - o) default else vg V i
 | [],V,o,i,h,hi=>by
  rw [if_neg (by simp)]; rfl
 | x :: r,V,o,i,h,hi=>by
  simp only [List.length_cons] at h
  show vg (vsp (vp V o x) (o+1) r) i=_
  rw [vg_vsp r (vp V o x) (o+1) i (by omega) hi,vg_vp (by omega) hi]
  simp only [List.length_cons]
  by_cases h1:o=i
  ·subst h1
   rw [if_neg (by omega),if_pos rfl,if_pos (by omega)]
   simp
  ·by_cases h2:o+1≤i∧i<o+1+r.length
   ·rw [if_pos h2,if_pos (by omega)]
    have:i - o=(i - (o+1))+1:=by omega
    rw [this]; simp
   ·rw [if_neg h2,if_neg h1,if_neg (by omega)]
theorem vec_take {α:Type} [Inhabited α] {n:Nat} {V:Vector α n} {l:List α} (h:l.length=n) (i:Nat) (hi:i<n):vg (vsp V 0 l) i=l.getD i default:=by
 rw [vg_vsp l V 0 i (by omega) hi,if_pos (by omega),Nat.sub_zero]
theorem lg_app_l {α:Type} [Inhabited α] {a b:List α} {i:Nat} (h:i<a.length):lg (a++b) i=lg a i:=by
 simp [lg,List.getElem?_append_left h]
theorem lg_app_r {α:Type} [Inhabited α] {a:List α} {b:List α} {x:α}:lg (a++x :: b) a.length=x:=by
 simp [lg]
theorem set_app {α:Type} {a b:List α} {x y:α}:(a++x :: b).set a.length y=a++y :: b:=by
 rw [List.set_append_right _ _ (Nat.le_refl _),Nat.sub_self]; rfl
def zW:V4:=replicate 4 0#8
def padW (ws:List V4) (N:Nat):List V4:=ws++List.replicate (N - ws.length) zW
theorem padW_length (ws:List V4) (N:Nat) (h:ws.length≤N):(padW ws N).length=N:=by simp [padW]; omega
theorem padW_lg (ws:List V4) (N i:Nat) (h:i<ws.length):lg (padW ws N) i=lg ws i:=lg_app_l h
theorem padW_split (ws:List V4) (N:Nat) (h:ws.length<N):padW ws N=ws++zW :: List.replicate (N - ws.length - 1) zW:=by
 unfold padW
 have:N - ws.length=(N - ws.length - 1)+1:=by omega
 rw [this,List.replicate_succ]; simp
theorem padW_set (ws:List V4) (N:Nat) (x:V4) (h:ws.length<N):(padW ws N).set ws.length x=padW (ws++[x]) N:=by
 rw [padW_split ws N h,set_app]
 unfold padW
 simp [Nat.sub_sub]
theorem getD_take_sub (key:Str) (a k:Nat) (hk:k<4) (h:a+4≤key.length):((sub key a key.length).take 4).getD k default=key.getD (a+k) 0#8:=by
 simp only [sub,List.getD_eq_getElem?_getD]
 rw [List.getElem?_take,if_pos hk,List.getElem?_take,if_pos (by omega),List.getElem?_drop]
 rfl
theorem kw_at (key:Str) (i k:Nat) (hk:k<4):vg (kwV key i) k=key.getD (4 * i+k) 0#8:=by
 have:k=0 ∨ k=1 ∨ k=2 ∨ k=3:=by omega
 rcases this with rfl | rfl | rfl | rfl <;> rfl
theorem new_b1 (n i N:Nat) (r r0:BitVec 8) (ws:List V4) (t:V4) (h:n≤i) (hi:ws.length=i) (hn:0<n) (h2:i<N) (hN:N=4 * (n+7)) (h3:N<1000) :
  loop (aes_New.b1 (n:Int) (r0,(i:Int),padW ws N) (r,t)) BIG (0,padW ws N)=some (padW (ws++[xorW t (lg ws (i - n))]) N):=by
 have hlen : ∀ x:V4,(ws++x :: List.replicate (N - ws.length - 1) zW).length=N:=fun x=>by simp; omega
 have e1:w64 ((i:Int) - (n:Int))=((i - n:Nat):Int):=by rw [w64_id (by omega) (by omega)]; omega
 have e0:w64 (4 * w64 ((n:Int)+7))=(N:Int):=by rw [w64_id (x:=(n:Int)+7) (by omega) (by omega),w64_id (by omega) (by omega)]; omega
 let g:Nat → BitVec 8:=fun k=>vg (lg ws (i - n)) k ^^^ vg t k
 have hg:iter (fun k v=>vp v k (g k)) 4 zW=xorW t (lg ws (i - n)):=by
  refine vec_ext fun k hk=>?_
  have:k=0 ∨ k=1 ∨ k=2 ∨ k=3:=by omega
  have hx:vg (xorW t (lg ws (i - n))) k=g k:=by
   unfold xorW; rw [vg_ofFn hk]; exact BitVec.xor_comm _ _
  rw [hx]
  show vg (vp (vp (vp (vp zW 0 (g 0)) 1 (g 1)) 2 (g 2)) 3 (g 3)) k=g k
  rcases this with rfl | rfl | rfl | rfl <;> simp (disch:=omega) only [vg_vp,if_pos,if_neg] <;> simp
 have:=loop_iter (body:=aes_New.b1 (n:Int) (r0,(i:Int),padW ws N) (r,t)) (fun k=>((k:Int),ws++(iter (fun k v=>vp v k (g k)) k zW) :: List.replicate (N - ws.length - 1) zW)) 4 (padW (ws++[xorW t (lg ws (i - n))]) N) (by omega) (fun k hk=>?_) ?_
 ·rw [padW_split ws N (by omega)]
  rw [padW_split ws N (by omega)] at this
  exact this
 ·generalize hu:iter (fun k v=>vp v k (g k)) k zW=u
  have hu2:iter (fun k v=>vp v k (g k)) (k+1) zW=vp u k (g k):=by rw [← hu]; rfl
  have e2:w64 ((k:Int)+1)=((k+1:Nat):Int):=by rw [w64_id (by omega) (by omega)]; omega
  have hl:=hlen u
  unfold aes_New.b1
  simp only [e0,e1,e2,Int.toNat_natCast,hl]
  iterate 8 refine if_i (by omega) ?_
  refine ltt_i fun m hm=>?_
  have a1:lg (ws++u :: List.replicate (N - ws.length - 1) zW) i=u:=by rw [← hi]; exact lg_app_r
  have a2:lg (ws++u :: List.replicate (N - ws.length - 1) zW) (i - n)=lg ws (i - n):=lg_app_l (by omega)
  have a3 : ∀ x:V4,(ws++u :: List.replicate (N - ws.length - 1) zW).set i x=ws++x :: List.replicate (N - ws.length - 1) zW:=fun x=>by rw [← hi]; exact set_app
  rw [hm,a1,a2,a3,hu2]
 ·unfold aes_New.b1
  refine if_n (by omega) ?_
  rw [hg]
  have:=padW_set ws N (xorW t (lg ws (i - n))) (by omega)
  rw [padW_split ws N (by omega),set_app] at this
  rw [this]
theorem new_b2 (t:V4):loop (aes_New.b2 BOXV) BIG (0,t)=some (subW t):=by
 have h:=loop_fill (body:=aes_New.b2 BOXV) t (fun k=>vg BOXV (vg t k).toNat) id (by omega) (fun k v hk hv=>?_) (fun v=>?_)
 ·refine h.trans (congrArg some (vec_ext fun k hk=>?_))
  have:k=0 ∨ k=1 ∨ k=2 ∨ k=3:=by omega
  simp only [id,vg_ofFn hk]
  rcases this with rfl | rfl | rfl | rfl <;> rfl
 ·have e:=hv k (Nat.le_refl _) hk
  have e2:w64 ((k:Int)+1)=((k+1:Nat):Int):=by rw [w64_id (by omega) (by omega)]; omega
  unfold aes_New.b2
  simp only [e2,Int.toNat_natCast]
  iterate 3 refine if_i (by omega) ?_
  refine ltt_i fun m hm=>?_
  rw [hm,e]
 ·unfold aes_New.b2
  exact if_n (by omega) rfl
end Go.Proofs
end

section
namespace Go.Proofs
open Go Go.Kx
open Vector (replicate)
theorem new_b0_step (key:Str) (n i N:Nat) (hn:n=4 ∨ n=8) (hk:key.length=4 * n) (hN:N=4 * (n+7)) (hi:i<N) :
  aes_New.b0 key BOXV (n:Int) ((Wst key n i).1,(i:Int),padW (Wst key n i).2 N)=some (.inl ((Wst key n (i+1)).1,((i+1:Nat):Int),padW (Wst key n (i+1)).2 N)):=by
 have hl:=Wst_len key n i
 rw [Wst_succ]
 generalize Wst key n i=s at hl
 obtain ⟨r,ws⟩:=s
 simp only at hl
 have hp:=padW_length ws N (by omega)
 have e0:w64 (4 * w64 ((n:Int)+7))=(N:Int):=by rw [w64_id (x:=(n:Int)+7) (by omega) (by omega),w64_id (by omega) (by omega)]; omega
 have e2:(i:Int).tmod (n:Int)=((i % n:Nat):Int):=tmodN i n
 have e3:w64 ((i:Int)+1)=((i+1:Nat):Int):=by rw [w64_id (by omega) (by omega)]; omega
 by_cases hc:i<n
 ·have e4:w64 (4 * (i:Int))=((4 * i:Nat):Int):=by rw [w64_id (by omega) (by omega)]; omega
  unfold aes_New.b0
  simp only [e0,e3,e4,Int.toNat_natCast]
  refine if_i (by omega) (if_i (by omega) ?_)
  iterate 4 refine if_i (by omega) ?_
  refine ltt_i fun m hm=>?_
  have a1:lg (padW ws N) i=zW:=by rw [padW_split ws N (by omega), ← hl]; exact lg_app_r
  have hs:(sub key (4 * i) key.length).length=4 * n - 4 * i:=by rw [sub_length (Nat.le_refl _),hk]
  have hmin:min (sub key (4 * i) key.length).length (4 - 0)=4:=by rw [hs]; omega
  have a2:vsp zW 0 ((sub key (4 * i) key.length).take 4)=kwV key i:=by
   refine vec_ext fun k hk2=>?_
   rw [vec_take (by rw [List.length_take,hs]; omega) k hk2,getD_take_sub key (4 * i) k hk2 (by omega),kw_at key i k hk2]
  have a3:=padW_set ws N (kwV key i) (by omega)
  rw [hl] at a3
  rw [hm,a1,hmin,a2,a3]
  unfold stepK
  rw [if_pos hc]
 ·have e1:w64 ((i:Int) - 1)=((i - 1:Nat):Int):=by rw [w64_id (by omega) (by omega)]; omega
  unfold aes_New.b0
  simp only [e0,e1,e2,e3,Int.toNat_natCast]
  refine if_i (by omega) (if_n (by omega) ?_)
  iterate 2 refine if_i (by omega) ?_
  refine ltt_i fun m hm=>if_i (by omega) ?_
  rw [padW_lg ws N (i - 1) (by omega)] at hm
  have key2 : ∀ j:BitVec 8 × V4,j=tempW n i (r,ws) → ((loop (aes_New.b1 (n:Int) (r,(i:Int),padW ws N) j) BIG (0,padW ws N)).bind fun (t_2:List V4)=>(some (Sum.inl (β:=List V4) (j.1,((i+1:Nat):Int),t_2))))=some (.inl ((stepK key n i (r,ws)).1,((i+1:Nat):Int),padW (stepK key n i (r,ws)).2 N)):=by
   intro j hj
   refine bind_i (new_b1 n i N j.1 r ws j.2 (by omega) hl (by omega) (by omega) hN (by omega)) ?_
   rw [hj]
   unfold stepK
   rw [if_neg (by omega)]
  by_cases c0:i % n=0
  ·refine bind_i (v:=(tw r,rotW m r)) (if_i (by omega) ?_) (key2 _ ?_)
   ·exact ltt_i fun m3 h3=>bind_i (twice_eq _) (by rw [h3]; rfl)
   ·unfold tempW; rw [if_pos c0,hm]
  ·by_cases c1:n=8∧i % n=4
   ·refine bind_i (v:=(r,subW m)) (if_n (by omega) (if_i (by omega) (if_i (by omega) (if_i (by omega) (bind_i (new_b2 m) rfl))))) (key2 _ ?_)
    unfold tempW; rw [if_neg c0,if_pos c1,hm]
   ·refine bind_i (v:=(r,m)) (if_n (by omega) ?_) (key2 _ ?_)
    ·by_cases c2:(n:Int)=8
     ·exact if_i c2 (if_i (by omega) (if_n (by omega) rfl))
     ·exact if_n c2 rfl
    ·unfold tempW; rw [if_neg c0,if_neg c1,hm]
theorem new_b0 (key:Str) (n N:Nat) (hn:n=4 ∨ n=8) (hk:key.length=4 * n) (hN:N=4 * (n+7)):loop (aes_New.b0 key BOXV (n:Int)) BIG (1#8,0,List.replicate N zW)=some (Wst key n N).2:=by
 have e0:w64 (4 * w64 ((n:Int)+7))=(N:Int):=by rw [w64_id (x:=(n:Int)+7) (by omega) (by omega),w64_id (by omega) (by omega)]; omega
 have:=loop_iter (body:=aes_New.b0 key BOXV (n:Int)) (fun i=>((Wst key n i).1,(i:Int),padW (Wst key n i).2 N)) N (Wst key n N).2 (by omega) (fun i hi=>new_b0_step key n i N hn hk hN hi) ?_
 ·exact this
 ·unfold aes_New.b0
  simp only [e0,Int.toNat_natCast]
  refine if_n (by omega) ?_
  have hl:=Wst_len key n N
  have:padW (Wst key n N).2 N=(Wst key n N).2:=by unfold padW; rw [hl,Nat.sub_self]; simp
  rw [this]
theorem new_b3 (w:List V4) (n N:Nat) (hn:n=4 ∨ n=8) (hw:w.length=N) (hN:N=4 * (n+7)):loop (aes_New.b3 (n:Int) w) BIG (0,List.replicate (n+7) (replicate 16 0#8))=some (keysOf w):=by
 have e0:w64 (4 * w64 ((n:Int)+7))=(N:Int):=by rw [w64_id (x:=(n:Int)+7) (by omega) (by omega),w64_id (by omega) (by omega)]; omega
 have e7:w64 ((n:Int)+7)=((n+7:Nat):Int):=by rw [w64_id (by omega) (by omega)]; omega
 refine loop_count N (fun k ks=>ks.set (k / 4) (vsp (lg ks (k / 4)) (4 * (k % 4)) (lg w k).toList)) _ _ (fun k ks=>ks.length=n+7 ∧ ∀ r i,r<n+7 → i<16 → vg (lg ks r) i=if 4 * r+i / 4<k then vg (lg w (4 * r+i / 4)) (i % 4) else 0#8) (by omega) ⟨by simp,fun r i hr hi=>?_⟩ (fun k ks hk ⟨h1,h2⟩=>⟨?_,by simp [h1],fun r i hr hi=>?_⟩) (fun ks ⟨h1,h2⟩ _=>?_)
 ·rw [if_neg (by omega)]
  have:lg (List.replicate (n+7) (replicate 16 0#8)) r=replicate 16 0#8:=by simp [lg,hr]
  rw [this,vg_eq' hi]; simp
 ·have e1:w64 ((k:Int).tdiv 4)=((k / 4:Nat):Int):=by rw [show (4:Int)=((4:Nat):Int) from rfl,tdivN,w64_nat (by omega)]
  have e2:(k:Int).tmod 4=((k % 4:Nat):Int):=tmodN k 4
  have e3:w64 (4 * ((k % 4:Nat):Int))=((4 * (k % 4):Nat):Int):=by rw [w64_id (by omega) (by omega)]; omega
  have e4:w64 ((k:Int)+1)=((k+1:Nat):Int):=by rw [w64_id (by omega) (by omega)]; omega
  have e8:w64 (4 * ((n+7:Nat):Int))=(N:Int):=by rw [w64_id (by omega) (by omega)]; omega
  unfold aes_New.b3
  simp only [e7,e8,e1,e2,e3,e4,Int.toNat_natCast]
  clear e0 e1 e2 e3 e4 e7 e8
  iterate 8 refine if_i (by omega) ?_
  refine ltt_i fun m hm=>?_
  have a1:(sub ((lg w k).toList) 0 4).take (min (4 - 0) (16 - 4 * (k % 4)))=(lg w k).toList:=by
   have hm:min (4 - 0) (16 - 4 * (k % 4))=4:=by omega
   have hl4:(lg w k).toList.length=4:=by simp
   rw [hm]
   unfold sub
   rw [List.drop_zero,Nat.sub_zero,List.take_of_length_le (l:=(lg w k).toList) (by omega),List.take_of_length_le (by omega)]
  rw [hm,a1]
 ·have hlw:(lg w k).toList.length=4:=by simp
  by_cases hr2:k / 4=r
  ·subst hr2
   have e:lg (ks.set (k / 4) (vsp (lg ks (k / 4)) (4 * (k % 4)) (lg w k).toList)) (k / 4)=vsp (lg ks (k / 4)) (4 * (k % 4)) (lg w k).toList:=by
    simp [lg,h1,hr]
   rw [e,vg_vsp _ _ _ _ (by rw [hlw]; omega) hi,hlw]
   by_cases c:4 * (k % 4)≤i∧i<4 * (k % 4)+4
   ·have e4:4 * (k / 4)+i / 4=k:=by omega
    rw [if_pos c,if_pos (by omega),e4]
    have e5:i - 4 * (k % 4)=i % 4:=by omega
    rw [e5]
    rfl
   ·rw [if_neg c,h2 (k / 4) i hr hi]
    by_cases c2:4 * (k / 4)+i / 4<k
    ·rw [if_pos c2,if_pos (by omega)]
    ·rw [if_neg c2,if_neg (by omega)]
  ·have e:lg (ks.set (k / 4) (vsp (lg ks (k / 4)) (4 * (k % 4)) (lg w k).toList)) r=lg ks r:=by
    simp [lg,List.getElem?_set,hr2]
   rw [e,h2 r i hr hi]
   by_cases c2:4 * r+i / 4<k
   ·rw [if_pos c2,if_pos (by omega)]
   ·rw [if_neg c2,if_neg (by omega)]
 ·unfold aes_New.b3
  simp only [e0,Int.toNat_natCast]
  refine if_n (by omega) (congrArg some (congrArg Sum.inr ?_))
  refine List.ext_getElem (by rw [keysOf_length,h1]; omega) fun r p1 p2=>?_
  have e1:ks[r]=lg ks r:=by simp [lg,p1]
  have e2:(keysOf w)[r]=lg (keysOf w) r:=by simp [lg,p2]
  rw [e1,e2,keysOf_lg w r (by omega)]
  refine vec_ext fun i hi=>?_
  rw [h2 r i (by omega) hi,if_pos (by omega)]
  simp only [keyV,vg_ofFn hi]
theorem New_eq (key:Str) (n:Nat) (hn:n=4 ∨ n=8) (hk:key.length=4 * n):aes_New key=some (.inr (BOXV,n+7,keysOf (Wst key n (4 * (n+7))).2)):=by
 have e0:w64 ((key.length:Int).tdiv 4)=(n:Int):=by
  rw [show (4:Int)=((4:Nat):Int) from rfl,tdivN,w64_nat (by omega)]; omega
 have e1:w64 ((n:Int)+7)=((n+7:Nat):Int):=by rw [w64_id (by omega) (by omega)]; omega
 have e2:w64 (4 * ((n+7:Nat):Int))=((4 * (n+7):Nat):Int):=by rw [w64_id (by omega) (by omega)]; omega
 have b0:=new_b0 key n (4 * (n+7)) hn hk rfl
 have b3:=new_b3 (Wst key n (4 * (n+7))).2 n (4 * (n+7)) hn (Wst_len key n _) rfl
 have hb4:aes_New.b4=aes_New.b0:=rfl
 have hb7:aes_New.b7=aes_New.b3:=rfl
 unfold aes_New
 rw [hb4,hb7,e0]
 have rest:(aes_table).bind (fun (r_1:Vx 8 256)=>(ltt (n:Int) fun (n1:Int)=>(if 0≤w64 (4 * (w64 (n1+7)))∧w64 (4 * (w64 (n1+7)))≤17592186044416 then ((loop (aes_New.b0 key r_1 n1) BIG (1#8,0,List.replicate ((w64 (4 * (w64 (n1+7)))).toNat) (replicate 4 0#8))).bind fun (t_1:List (Vx 8 4))=>(if 0≤w64 (n1+7)∧w64 (n1+7)≤17592186044416 then ((loop (aes_New.b3 n1 t_1) BIG (0,List.replicate ((w64 (n1+7)).toNat) (replicate 16 0#8))).bind fun (t_4:List (Vx 8 16))=>(some (Sum.inr (α:=Unit) (r_1,(w64 (n1+7)).toNat,t_4)))) else none)) else none)))=some (.inr (BOXV,n+7,keysOf (Wst key n (4 * (n+7))).2)):=by
  refine bind_i table_eq (ltt_i fun n1 hn1=>?_)
  rw [hn1,e1,e2,Int.toNat_natCast,Int.toNat_natCast]
  refine if_i (by omega) (bind_i b0 (if_i (by omega) (bind_i b3 rfl)))
 rcases hn with h4 | h8
 ·subst h4
  exact if_n (by omega) rest
 ·subst h8
  exact if_i (by omega) (if_n (by omega) rest)
end Go.Proofs
end

section
namespace Go.Proofs
open Go Go.Kx
open TryzI Tryz
def halberdref4_gcmMay (key:Str) (nonce:Str) (aad:Str) (s_:Str) (more:Int):Option (Bool) :=
 if ((key).length:Int)=16 then (if ((nonce).length:Int)=12 then (if ((aad).length:Int)≤65536 then (ltt (decide (((s_).length:Int)≤(w64 (65536+more)))) fun (x1:Bool)=>(some x1)) else (some false)) else (some false)) else (if ((key).length:Int)=32 then (if ((nonce).length:Int)=12 then (if ((aad).length:Int)≤65536 then (ltt (decide (((s_).length:Int)≤(w64 (65536+more)))) fun (x2:Bool)=>(some x2)) else (some false)) else (some false)) else (some false))
set_option maxHeartbeats 4000000 in
set_option maxRecDepth 20000 in
theorem F79_calls (key:Str) (nonce:Str) (aad:Str) (s_:Str) (more:Int) (r:Bool) (H:halberdref4_gcmMay key nonce aad s_ more=some r) :
  Does Tryz.prog 79 [vs key,vs nonce,vs aad,vs s_,vi more] [] [] (Γ:=Unit) (fun g=>vb r) (fun g=>[]):=by
 intro w hmem hro hd
 refine calls_of (N:=36) (m0:=[(0,vs key),(1,vs nonce),(2,vs aad),(3,vs s_),(4,vi more)]) func79 rfl ntmps79 (argM_ok [vs key,vs nonce,vs aad,vs s_,vi more]) rfl hmem hro hd ?_
 unfold halberdref4_gcmMay at H
 refine TC_seq (TC_region (TVa ?_))
 refine TL_nil (TX_next (TC_seq (TC_region (TVm ?_))))
 refine TLv (V_len_str rfl underlying9) ?_
 refine TLv (V_bin rfl rfl (fun w=>eqlI w ((key).length:Int) 16)) ?_
 refine TVm ?_
 refine TFd (d:=14) H (fun hc H=>?_) (fun hc H=>?_)
 ·refine TLs ?_
  refine TLs ?_
  refine TLs ?_
  refine TVt ?_
  refine TVm ?_
  refine TLw (V_move rfl) ?_
  refine TLw (V_len_str rfl underlying9) ?_
  refine TLw (V_bin rfl rfl (fun w=>eqlI w ((nonce).length:Int) 12)) ?_
  refine TVt ?_
  refine TVm ?_
  refine TFd (d:=24) H (fun hc H=>?_) (fun hc H=>?_)
  ·refine TLw (V_move rfl) ?_
   refine TLw (V_len_str rfl underlying9) ?_
   refine TLw (V_bin rfl rfl (fun w=>leqI w ((aad).length:Int) 65536)) ?_
   refine TVt ?_
   refine TVm ?_
   refine TFd (d:=29) H (fun hc H=>?_) (fun hc H=>?_)
   ·refine TLw (V_move rfl) ?_
    refine TLw (V_len_str rfl underlying9) ?_
    refine TLw (V_move rfl) ?_
    refine TLw (V_bin rfl rfl (fun w=>addI w 65536 more)) ?_
    refine TLw (V_bin rfl rfl (fun w=>leqI w ((s_).length:Int) (w64 (65536+more)))) ?_
    refine TVt ?_
    refine TVa ?_
    obtain ⟨x1,hx1,H⟩:=ltt_elim H
    refine TLr 10 (congrArg vb hx1) ?_
    refine TL_nil (TX_next (TC.sub (m':=[(10,_)]) ⟨rfl,trivial⟩ ?_))
    refine TC_ret ?_
    obtain rfl:=sj H
    exact TX1
   ·refine TLs ?_
    refine TLs ?_
    refine TLs ?_
    refine TLs ?_
    refine TLs ?_
    refine TVf ?_
    refine TVa ?_
    refine TL_nil (TX_next (TC.sub (m':=[(10,_)]) ⟨rfl,trivial⟩ ?_))
    refine TC_ret ?_
    obtain rfl:=sj H
    exact TX1
  ·refine TLs ?_
   refine TLs ?_
   refine TLs ?_
   refine TVf ?_
   refine TVm ?_
   refine TLs ?_
   refine TLs ?_
   refine TLs ?_
   refine TLs ?_
   refine TLs ?_
   refine TVf ?_
   refine TVa ?_
   refine TL_nil (TX_next (TC.sub (m':=[(10,_)]) ⟨rfl,trivial⟩ ?_))
   refine TC_ret ?_
   obtain rfl:=sj H
   exact TX1
 ·refine TLw (V_move rfl) ?_
  refine TLw (V_len_str rfl underlying9) ?_
  refine TLw (V_bin rfl rfl (fun w=>eqlI w ((key).length:Int) 32)) ?_
  refine TVf ?_
  refine TVm ?_
  refine TFd (d:=19) H (fun hc H=>?_) (fun hc H=>?_)
  ·refine TLw (V_move rfl) ?_
   refine TLw (V_len_str rfl underlying9) ?_
   refine TLw (V_bin rfl rfl (fun w=>eqlI w ((nonce).length:Int) 12)) ?_
   refine TVt ?_
   refine TVm ?_
   refine TFd (d:=24) H (fun hc H=>?_) (fun hc H=>?_)
   ·refine TLw (V_move rfl) ?_
    refine TLw (V_len_str rfl underlying9) ?_
    refine TLw (V_bin rfl rfl (fun w=>leqI w ((aad).length:Int) 65536)) ?_
    refine TVt ?_
    refine TVm ?_
    refine TFd (d:=29) H (fun hc H=>?_) (fun hc H=>?_)
    ·refine TLw (V_move rfl) ?_
     refine TLw (V_len_str rfl underlying9) ?_
     refine TLw (V_move rfl) ?_
     refine TLw (V_bin rfl rfl (fun w=>addI w 65536 more)) ?_
     refine TLw (V_bin rfl rfl (fun w=>leqI w ((s_).length:Int) (w64 (65536+more)))) ?_
     refine TVt ?_
     refine TVa ?_
     obtain ⟨x2,hx2,H⟩:=ltt_elim H
     refine TLr 10 (congrArg vb hx2) ?_
     refine TL_nil (TX_next (TC.sub (m':=[(10,_)]) ⟨rfl,trivial⟩ ?_))
     refine TC_ret ?_
     obtain rfl:=sj H
     exact TX1
    ·refine TLs ?_
     refine TLs ?_
     refine TLs ?_
     refine TLs ?_
     refine TLs ?_
     refine TVf ?_
     refine TVa ?_
     refine TL_nil (TX_next (TC.sub (m':=[(10,_)]) ⟨rfl,trivial⟩ ?_))
     refine TC_ret ?_
     obtain rfl:=sj H
     exact TX1
   ·refine TLs ?_
    refine TLs ?_
    refine TLs ?_
    refine TVf ?_
    refine TVm ?_
    refine TLs ?_
    refine TLs ?_
    refine TLs ?_
    refine TLs ?_
    refine TLs ?_
    refine TVf ?_
    refine TVa ?_
    refine TL_nil (TX_next (TC.sub (m':=[(10,_)]) ⟨rfl,trivial⟩ ?_))
    refine TC_ret ?_
    obtain rfl:=sj H
    exact TX1
  ·refine TLs ?_
   refine TLs ?_
   refine TLs ?_
   refine TVf ?_
   refine TVm ?_
   refine TLs ?_
   refine TLs ?_
   refine TLs ?_
   refine TVf ?_
   refine TVm ?_
   refine TLs ?_
   refine TLs ?_
   refine TLs ?_
   refine TLs ?_
   refine TLs ?_
   refine TVf ?_
   refine TVa ?_
   refine TL_nil (TX_next (TC.sub (m':=[(10,_)]) ⟨rfl,trivial⟩ ?_))
   refine TC_ret ?_
   obtain rfl:=sj H
   exact TX1
end Go.Proofs
end

section
namespace Go.Proofs
open Go Go.Kx
open TryzI Tryz
def halberdref4_GcmSeal (key:Str) (nonce:Str) (aad:Str) (s_:Str):Option (Str × Int) :=
 (halberdref4_gcmMay key nonce aad s_ 0).bind fun (r_1:Bool)=>(if (!r_1)=true then (some (([]:Str),500)) else ((halberdref4_schedule key).bind fun (r_2:List (Vx 8 4))=>((halberdref4_counter r_2 nonce 2 s_).bind fun (r_3:Str)=>((halberdref4_tag r_2 nonce aad r_3).bind fun (r_4:Str)=>(if (r_3).length+(r_4).length≤4611686018427387904 then (some (r_3++r_4,0)) else none)))))
set_option maxHeartbeats 4000000 in
set_option maxRecDepth 20000 in
theorem F59_calls (key:Str) (nonce:Str) (aad:Str) (s_:Str) (r:Str × Int) (H:halberdref4_GcmSeal key nonce aad s_=some r) :
  Does Tryz.prog 59 [vs key,vs nonce,vs aad,vs s_] [] [] (Γ:=Unit) (fun g=>Value.tuple [vs r.1,vi r.2].toArray) (fun g=>[]):=by
 intro w hmem hro hd
 refine calls_of (N:=31) (m0:=[(0,vs key),(1,vs nonce),(2,vs aad),(3,vs s_)]) func59 rfl ntmps59 (argM_ok [vs key,vs nonce,vs aad,vs s_]) rfl hmem hro hd ?_
 unfold halberdref4_GcmSeal at H
 refine TC_seq (TC_region (TVa ?_))
 refine TVa ?_
 refine TL_nil (TX_next (TC_seq (TC_seq (TC_region (TVm ?_)))))
 refine TVm ?_
 refine TVm ?_
 refine TVm ?_
 obtain ⟨r_1,hr_1,H⟩:=bind_elim H
 refine TLe (E_c0 (F79_calls key nonce aad s_ 0 r_1 hr_1) call79 .z) (fun g_1=>?_)
 refine TLv (V_un rfl (fun w=>notB w r_1)) ?_
 refine TL_nil (TX_next (TCb H (fun hc H=>?_) (fun hc H=>?_)))
 ·refine TC_seq (TC_region (TVa ?_))
  refine TVa ?_
  refine TL_nil (TX_next (TC_ret (TX_then_ret ?_)))
  obtain rfl:=sj H
  exact TX2
 ·refine TC_skip (TX_next (TC_seq (TC_region (TVm ?_))))
  obtain ⟨r_2,hr_2,H⟩:=bind_elim H
  refine TLe (E_call (Γ:=Adr × List (Vx 8 4)) (val:=fun g=>sl g.1 ((r_2).length) ((r_2++g.2).length)) (mem:=fun g=>[⟨g.1,eF (fun V:Vx 8 4=>e8 V.toList) (r_2++g.2)⟩]) (vs:=[vs key]) (Lin:=[]) (Ro:=[]) (is:=[]) rfl call80 (F80_calls key r_2 hr_2) rfl trivial) (fun g_2=>?_)
  refine TVa ?_
  refine TL_nil (TX_next (TC_seq (TC_region (TVm ?_))))
  refine TVm ?_
  refine TVm ?_
  obtain ⟨r_3,hr_3,H⟩:=bind_elim H
  refine TLe (E_c0 (F81_calls g_2.1 ((r_2++g_2.2).length) r_2 nonce 2 s_ (row_le _ _) r_3 hr_3) call81 ⟨(srcdRowF (s:=4) (fun _=>by simp) (.o 0)),trivial⟩) (fun g_3=>?_)
  refine TVa ?_
  refine TL_nil (TX_next (TC_seq (TC_region (TVm ?_))))
  refine TVm ?_
  refine TVm ?_
  refine TVm ?_
  refine TVm ?_
  obtain ⟨r_4,hr_4,H⟩:=bind_elim H
  refine TLe (E_c0 (F82_calls g_2.1 ((r_2++g_2.2).length) r_2 nonce aad r_3 (row_le _ _) r_4 hr_4) call82 ⟨(srcdRowF (s:=4) (fun _=>by simp) (.o 0)),trivial⟩) (fun g_4=>?_)
  obtain ⟨h1,H⟩:=if_elim H
  refine TLv (V_bin rfl rfl (fun w=>addS w r_3 r_4 h1)) ?_
  refine TVa ?_
  refine TVa ?_
  refine TL_nil (TX_next (TC_ret ?_))
  obtain rfl:=sj H
  exact TX2
end Go.Proofs
end

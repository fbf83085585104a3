/-
  Part 15 of the proof of what several laws share.
-/
import Derived.Test.YtnplppmninimeaaDoorTkQ1
import Derived.Test.YtnplppmninimeaaDoorTkQ2
import Derived.Test.YtnplppmninimeaaDoorTkQ3
import Derived.Test.YtnplppmninimeaaDoorTkQ4
import Derived.Test.YtnplppmninimeaaDoorTkQ5
import Derived.Test.YtnplppmninimeaaDoorTkQ6
import Derived.Test.YtnplppmninimeaaDoorTkQ7
import Derived.Test.YtnplppmninimeaaDoorTkQ8
import Derived.Test.YtnplppmninimeaaDoorTkQ9
import Derived.Test.YtnplppmninimeaaDoorTkQ10
import Derived.Test.YtnplppmninimeaaDoorTkQ11
import Derived.Test.YtnplppmninimeaaDoorTkQ12
import Derived.Test.YtnplppmninimeaaDoorTkQ13
import Derived.Test.YtnplppmninimeaaDoorTkQ14
set_option linter.unusedVariables false
set_option linter.unusedSimpArgs false
section
namespace Go.Proofs
open Go Go.Kx
def subW (t:V4):V4 := #v[vg BOXV (vg t 0).toNat,vg BOXV (vg t 1).toNat,vg BOXV (vg t 2).toNat,vg BOXV (vg t 3).toNat]
def rotW (t:V4) (r:BitVec 8):V4 := #v[vg BOXV (vg t 1).toNat ^^^ r,vg BOXV (vg t 2).toNat,vg BOXV (vg t 3).toNat,vg BOXV (vg t 0).toNat]
def tempW (n i:Nat) (s:BitVec 8 × List V4):BitVec 8 × V4 :=
 if i % n=0 then (tw s.1,rotW (lg s.2 (i - 1)) s.1) else if n=8∧i % n=4 then (s.1,subW (lg s.2 (i - 1))) else (s.1,lg s.2 (i - 1))
def kwV (key:Str) (i:Nat):V4 := #v[key.getD (4 * i) 0#8,key.getD (4 * i+1) 0#8,key.getD (4 * i+2) 0#8,key.getD (4 * i+3) 0#8]
def xorW (a b:V4):V4:=Vector.ofFn fun k=>vg a k.val ^^^ vg b k.val
def stepK (key:Str) (n i:Nat) (s:BitVec 8 × List V4):BitVec 8 × List V4 :=
 if i<n then (s.1,s.2++[kwV key i]) else ((tempW n i s).1,s.2++[xorW (tempW n i s).2 (lg s.2 (i - n))])
def Wst (key:Str) (n i:Nat):BitVec 8 × List V4:=iter (stepK key n) i (1#8,[])
theorem Wst_succ (key:Str) (n i:Nat):Wst key n (i+1)=stepK key n i (Wst key n i):=rfl
theorem Wst_len (key:Str) (n:Nat) : ∀ i,(Wst key n i).2.length=i
 | 0=>rfl
 | i+1=>by
  rw [Wst_succ]; unfold stepK
  have:=Wst_len key n i
  split <;> simp [this]
theorem box_len':halberdref4_schedule.k1.length=256:=by kernel_rfl
theorem box_at' (x:BitVec 8):sg halberdref4_schedule.k1 (x.toNat:Int)=vg BOXV x.toNat:=by
 simp only [sg,Int.toNat_natCast,vg,BOXV]
 rfl
theorem sg_nat (s:Str) (n:Nat):sg s (n:Int)=s.getD n 0#8:=by unfold sg; rw [Int.toNat_natCast]
theorem v4_congr {a b c d a' b' c' d':BitVec 8} (ha:a=a') (hb:b=b') (hc:c=c') (hd:d=d'):(#v[a,b,c,d]:V4) = #v[a',b',c',d']:=by
 subst ha; subst hb; subst hc; subst hd; rfl
theorem sch_b0 (key:Str) (n:Nat) (hn:n=4 ∨ n=8) (hk:key.length=4 * n):loop (halberdref4_schedule.b0 key (n:Int)) BIG (0,[])=some (Wst key n n).2:=by
 refine loop_iter (fun i=>((i:Int),(Wst key n i).2)) n _ (by omega) (fun i hi=>?_) ?_
 ·have hl:=Wst_len key n i
  have e0:w64 (4 * (i:Int))=((4 * i:Nat):Int):=by rw [w64_id (by omega) (by omega)]; omega
  have e1:w64 (w64 (4 * (i:Int))+1)=((4 * i+1:Nat):Int):=by rw [e0,w64_id (by omega) (by omega)]; omega
  have e2:w64 (w64 (4 * (i:Int))+2)=((4 * i+2:Nat):Int):=by rw [e0,w64_id (by omega) (by omega)]; omega
  have e3:w64 (w64 (4 * (i:Int))+3)=((4 * i+3:Nat):Int):=by rw [e0,w64_id (by omega) (by omega)]; omega
  have e4:w64 ((i:Int)+1)=((i+1:Nat):Int):=by rw [w64_id (by omega) (by omega)]; omega
  unfold halberdref4_schedule.b0
  dsimp only
  iterate 5 refine if_i (by omega) ?_
  refine if_i (by simp only [hl,List.length_cons,List.length_nil]; omega) ?_
  refine ltt_i fun m hm=>ltt_i fun j hj=>?_
  rw [hj,hm,Wst_succ,e4]
  unfold stepK
  rw [if_pos hi]
  dsimp only
  rw [v4_congr (by rw [e0,sg_nat]) (by rw [e1,sg_nat]) (by rw [e2,sg_nat]) (by rw [e3,sg_nat])]
  rfl
 ·unfold halberdref4_schedule.b0
  exact if_n (by omega) rfl
theorem sch_b2 (n i:Nat) (r:BitVec 8) (ws:List V4) (t:V4) (h:n≤i) (hi:ws.length=i) (hn:0<n) (h2:i<1000):loop (halberdref4_schedule.b2 (n:Int) (r,(i:Int),ws)) BIG (0,t)=some (xorW t (lg ws (i - n))):=by
 refine loop_fill _ (fun k=>vg t k ^^^ vg (lg ws (i - n)) k) id (by omega) (fun k v hk hv=>?_) (fun v=>?_)
 ·have e:=hv k (Nat.le_refl _) hk
  have e1:w64 ((i:Int) - (n:Int))=((i - n:Nat):Int):=by rw [w64_id (by omega) (by omega)]; omega
  have e2:w64 ((k:Int)+1)=((k+1:Nat):Int):=by rw [w64_id (by omega) (by omega)]; omega
  unfold halberdref4_schedule.b2
  simp only [e1,e2]
  iterate 5 refine if_i (by omega) ?_
  refine ltt_i fun m hm=>ltt_i fun j hj=>?_
  simp only [hj,hm,Int.toNat_natCast,e]
 ·unfold halberdref4_schedule.b2
  exact if_n (by omega) rfl
theorem sch_b1_step (key:Str) (n i:Nat) (hn:n=4 ∨ n=8) (h:n≤i) (hi:i<4 * (n+7)) :
  halberdref4_schedule.b1 (n:Int) ((Wst key n i).1,(i:Int),(Wst key n i).2)=some (.inl ((Wst key n (i+1)).1,((i+1:Nat):Int),(Wst key n (i+1)).2)):=by
 have hl:=Wst_len key n i
 rw [Wst_succ]
 generalize Wst key n i=s at hl
 obtain ⟨r,ws⟩:=s
 simp only at hl
 have e0:w64 (4 * w64 ((n:Int)+7))=((4 * (n+7):Nat):Int):=by rw [w64_id (x:=(n:Int)+7) (by omega) (by omega),w64_id (by omega) (by omega)]; omega
 have e1:w64 ((i:Int) - 1)=((i - 1:Nat):Int):=by rw [w64_id (by omega) (by omega)]; omega
 have e2:(i:Int).tmod (n:Int)=((i % n:Nat):Int):=tmodN i n
 have e3:w64 ((i:Int)+1)=((i+1:Nat):Int):=by rw [w64_id (by omega) (by omega)]; omega
 unfold halberdref4_schedule.b1
 simp only [e0,e1,e2,e3,box_len',box_at',Int.toNat_natCast]
 iterate 2 refine if_i (by omega) ?_
 refine ltt_i fun m hm=>if_i (by omega) (ltt_i fun x1 hx1=>?_)
 have hb:=fun k=>(vg m k).isLt
 have hb0:=hb 0
 have hb1:=hb 1
 have hb2:=hb 2
 have hb3:=hb 3
 clear hb
 have key2 : ∀ j:BitVec 8 × V4,j=tempW n i (r,ws) → ((loop (halberdref4_schedule.b2 (n:Int) (r,(i:Int),ws)) BIG (0,j.2)).bind fun (t_3:V4)=>(if (ws).length+(([t_3]:List V4)).length≤35184372088832 then (ltt (ws++([t_3]:List V4)) fun (l2:List V4)=>(ltt ((i+1:Nat):Int) fun (i2:Int)=>(some (Sum.inl (β:=List V4) (j.1,i2,l2))))) else none))=some (.inl ((stepK key n i (r,ws)).1,((i+1:Nat):Int),(stepK key n i (r,ws)).2)):=by
  intro j hj
  refine bind_i (sch_b2 n i r ws j.2 h hl (by omega) (by omega)) (if_i (by simp only [hl,List.length_cons,List.length_nil]; omega) (ltt_i fun l2 h2=>ltt_i fun i2 hi2=>?_))
  rw [h2,hi2,hj]
  unfold stepK
  rw [if_neg (by omega)]
 by_cases c0:i % n=0
 ·refine bind_i (v:=(tw r,rotW m r)) (if_i (by rw [hx1,decide_eq_true_eq]; omega) ?_) (key2 _ ?_)
  ·iterate 4 refine if_i (by omega) ?_
   exact ltt_i fun m3 h3=>bind_i (double_eq _) (by rw [h3]; rfl)
  ·unfold tempW; rw [if_pos c0,hm]
 ·by_cases c1:n=8∧i % n=4
  ·refine bind_i (v:=(r,subW m)) (if_n (by rw [hx1,decide_eq_true_eq]; omega) ?_) (key2 _ ?_)
   ·iterate 2 refine if_i (by omega) ?_
    refine ltt_i fun x2 hx2=>if_i (by rw [hx2,decide_eq_true_eq]; omega) ?_
    iterate 4 refine if_i (by omega) ?_
    exact ltt_i fun m3 h3=>(by rw [h3]; rfl)
   ·unfold tempW; rw [if_neg c0,if_pos c1,hm]
  ·refine bind_i (v:=(r,m)) (if_n (by rw [hx1,decide_eq_true_eq]; omega) ?_) (key2 _ ?_)
   ·by_cases c2:6<(n:Int)
    ·refine if_i c2 (if_i (by omega) (ltt_i fun x2 hx2=>if_n (by rw [hx2,decide_eq_true_eq]; omega) rfl))
    ·exact if_n c2 rfl
   ·unfold tempW; rw [if_neg c0,if_neg c1,hm]
theorem sch_eq (key:Str) (n:Nat) (hn:n=4 ∨ n=8) (hk:key.length=4 * n):halberdref4_schedule key=some (Wst key n (4 * (n+7))).2:=by
 have e0:w64 ((key.length:Int).tdiv 4)=(n:Int):=by
  rw [show (4:Int)=((4:Nat):Int) from rfl,tdivN,w64_nat (by omega)]; omega
 unfold halberdref4_schedule
 refine ltt_i fun k hk1=>?_
 rw [hk1,e0]
 refine bind_i (sch_b0 key n hn hk) (bind_i (v:=(Wst key n (4 * (n+7))).2) ?_ rfl)
 have hr:(Wst key n n).1=1#8:=by
  have : ∀ i,i≤n → (Wst key n i).1=1#8:=by
   intro i
   induction i with
   | zero=>intro _; rfl
   | succ i ih=>intro h; rw [Wst_succ]; unfold stepK; rw [if_pos (by omega)]; exact ih (by omega)
  exact this n (Nat.le_refl _)
 have:=loop_iter (body:=halberdref4_schedule.b1 (n:Int)) (fun k=>((Wst key n (n+k)).1,(((n+k:Nat)):Int),(Wst key n (n+k)).2)) (4 * (n+7) - n) (Wst key n (4 * (n+7))).2 (by omega) (fun k hk2=>sch_b1_step key n (n+k) hn (by omega) (by omega)) ?_
 ·rw [Nat.add_zero,hr] at this
  exact this
 ·have e:n+(4 * (n+7) - n)=4 * (n+7):=by omega
  rw [e]
  unfold halberdref4_schedule.b1
  refine if_n ?_ rfl
  rw [w64_id (x:=(n:Int)+7) (by omega) (by omega),w64_id (by omega) (by omega)]
  show ¬ (((4 * (n+7):Nat):Int)<_)
  omega
end Go.Proofs
end

section
namespace Go.Proofs
open Go Go.Kx
open Vector (replicate)
theorem vg_vsp {α:Type} [Inhabited α] {n:Nat} : ∀ (l:List α) (V:Vector α n) (o i:Nat),o+l.length≤n → i<n → vg (vsp V o l) i=if o≤i∧i<o+l.length then l.getD (i - o) default else vg V i
 | [],V,o,i,h,hi=>by
  rw [if_neg (by simp)]; rfl
 | x :: r,V,o,i,h,hi=>by
  simp only [List.length_cons] at h
  show vg (vsp (vp V o x) (o+1) r) i=_
  rw [vg_vsp r (vp V o x) (o+1) i (by omega) hi,vg_vp (by omega) hi]
  simp only [List.length_cons]
  by_cases h1:o=i
  ·subst h1
   rw [if_neg (by omega),if_pos rfl,if_pos (by omega)]
   simp
  ·by_cases h2:o+1≤i∧i<o+1+r.length
   ·rw [if_pos h2,if_pos (by omega)]
    have:i - o=(i - (o+1))+1:=by omega
    rw [this]; simp
   ·rw [if_neg h2,if_neg h1,if_neg (by omega)]
theorem vec_take {α:Type} [Inhabited α] {n:Nat} {V:Vector α n} {l:List α} (h:l.length=n) (i:Nat) (hi:i<n):vg (vsp V 0 l) i=l.getD i default:=by
 rw [vg_vsp l V 0 i (by omega) hi,if_pos (by omega),Nat.sub_zero]
theorem lg_app_l {α:Type} [Inhabited α] {a b:List α} {i:Nat} (h:i<a.length):lg (a++b) i=lg a i:=by
 simp [lg,List.getElem?_append_left h]
theorem lg_app_r {α:Type} [Inhabited α] {a:List α} {b:List α} {x:α}:lg (a++x :: b) a.length=x:=by
 simp [lg]
theorem set_app {α:Type} {a b:List α} {x y:α}:(a++x :: b).set a.length y=a++y :: b:=by
 rw [List.set_append_right _ _ (Nat.le_refl _),Nat.sub_self]; rfl
def zW:V4:=replicate 4 0#8
def padW (ws:List V4) (N:Nat):List V4:=ws++List.replicate (N - ws.length) zW
theorem padW_length (ws:List V4) (N:Nat) (h:ws.length≤N):(padW ws N).length=N:=by simp [padW]; omega
theorem padW_lg (ws:List V4) (N i:Nat) (h:i<ws.length):lg (padW ws N) i=lg ws i:=lg_app_l h
theorem padW_split (ws:List V4) (N:Nat) (h:ws.length<N):padW ws N=ws++zW :: List.replicate (N - ws.length - 1) zW:=by
 unfold padW
 have:N - ws.length=(N - ws.length - 1)+1:=by omega
 rw [this,List.replicate_succ]; simp
theorem padW_set (ws:List V4) (N:Nat) (x:V4) (h:ws.length<N):(padW ws N).set ws.length x=padW (ws++[x]) N:=by
 rw [padW_split ws N h,set_app]
 unfold padW
 simp [Nat.sub_sub]
theorem getD_take_sub (key:Str) (a k:Nat) (hk:k<4) (h:a+4≤key.length):((sub key a key.length).take 4).getD k default=key.getD (a+k) 0#8:=by
 simp only [sub,List.getD_eq_getElem?_getD]
 rw [List.getElem?_take,if_pos hk,List.getElem?_take,if_pos (by omega),List.getElem?_drop]
 rfl
theorem kw_at (key:Str) (i k:Nat) (hk:k<4):vg (kwV key i) k=key.getD (4 * i+k) 0#8:=by
 have:k=0 ∨ k=1 ∨ k=2 ∨ k=3:=by omega
 rcases this with rfl | rfl | rfl | rfl <;> rfl
theorem new_b1 (n i N:Nat) (r r0:BitVec 8) (ws:List V4) (t:V4) (h:n≤i) (hi:ws.length=i) (hn:0<n) (h2:i<N) (hN:N=4 * (n+7)) (h3:N<1000) :
  loop (aes_New.b1 (n:Int) (r0,(i:Int),padW ws N) (r,t)) BIG (0,padW ws N)=some (padW (ws++[xorW t (lg ws (i - n))]) N):=by
 have hlen : ∀ x:V4,(ws++x :: List.replicate (N - ws.length - 1) zW).length=N:=fun x=>by simp; omega
 have e1:w64 ((i:Int) - (n:Int))=((i - n:Nat):Int):=by rw [w64_id (by omega) (by omega)]; omega
 have e0:w64 (4 * w64 ((n:Int)+7))=(N:Int):=by rw [w64_id (x:=(n:Int)+7) (by omega) (by omega),w64_id (by omega) (by omega)]; omega
 let g:Nat → BitVec 8:=fun k=>vg (lg ws (i - n)) k ^^^ vg t k
 have hg:iter (fun k v=>vp v k (g k)) 4 zW=xorW t (lg ws (i - n)):=by
  refine vec_ext fun k hk=>?_
  have:k=0 ∨ k=1 ∨ k=2 ∨ k=3:=by omega
  have hx:vg (xorW t (lg ws (i - n))) k=g k:=by
   unfold xorW; rw [vg_ofFn hk]; exact BitVec.xor_comm _ _
  rw [hx]
  show vg (vp (vp (vp (vp zW 0 (g 0)) 1 (g 1)) 2 (g 2)) 3 (g 3)) k=g k
  rcases this with rfl | rfl | rfl | rfl <;> simp (disch:=omega) only [vg_vp,if_pos,if_neg] <;> simp
 have:=loop_iter (body:=aes_New.b1 (n:Int) (r0,(i:Int),padW ws N) (r,t)) (fun k=>((k:Int),ws++(iter (fun k v=>vp v k (g k)) k zW) :: List.replicate (N - ws.length - 1) zW)) 4 (padW (ws++[xorW t (lg ws (i - n))]) N) (by omega) (fun k hk=>?_) ?_
 ·rw [padW_split ws N (by omega)]
  rw [padW_split ws N (by omega)] at this
  exact this
 ·generalize hu:iter (fun k v=>vp v k (g k)) k zW=u
  have hu2:iter (fun k v=>vp v k (g k)) (k+1) zW=vp u k (g k):=by rw [← hu]; rfl
  have e2:w64 ((k:Int)+1)=((k+1:Nat):Int):=by rw [w64_id (by omega) (by omega)]; omega
  have hl:=hlen u
  unfold aes_New.b1
  simp only [e0,e1,e2,Int.toNat_natCast,hl]
  iterate 8 refine if_i (by omega) ?_
  refine ltt_i fun m hm=>?_
  have a1:lg (ws++u :: List.replicate (N - ws.length - 1) zW) i=u:=by rw [← hi]; exact lg_app_r
  have a2:lg (ws++u :: List.replicate (N - ws.length - 1) zW) (i - n)=lg ws (i - n):=lg_app_l (by omega)
  have a3 : ∀ x:V4,(ws++u :: List.replicate (N - ws.length - 1) zW).set i x=ws++x :: List.replicate (N - ws.length - 1) zW:=fun x=>by rw [← hi]; exact set_app
  rw [hm,a1,a2,a3,hu2]
 ·unfold aes_New.b1
  refine if_n (by omega) ?_
  rw [hg]
  have:=padW_set ws N (xorW t (lg ws (i - n))) (by omega)
  rw [padW_split ws N (by omega),set_app] at this
  rw [this]
theorem new_b2 (t:V4):loop (aes_New.b2 BOXV) BIG (0,t)=some (subW t):=by
 have h:=loop_fill (body:=aes_New.b2 BOXV) t (fun k=>vg BOXV (vg t k).toNat) id (by omega) (fun k v hk hv=>?_) (fun v=>?_)
 ·refine h.trans (congrArg some (vec_ext fun k hk=>?_))
  have:k=0 ∨ k=1 ∨ k=2 ∨ k=3:=by omega
  simp only [id,vg_ofFn hk]
  rcases this with rfl | rfl | rfl | rfl <;> rfl
 ·have e:=hv k (Nat.le_refl _) hk
  have e2:w64 ((k:Int)+1)=((k+1:Nat):Int):=by rw [w64_id (by omega) (by omega)]; omega
  unfold aes_New.b2
  simp only [e2,Int.toNat_natCast]
  iterate 3 refine if_i (by omega) ?_
  refine ltt_i fun m hm=>?_
  rw [hm,e]
 ·unfold aes_New.b2
  exact if_n (by omega) rfl
end Go.Proofs
end

section
namespace Go.Proofs
open Go Go.Kx
open Vector (replicate)
theorem new_b0_step (key:Str) (n i N:Nat) (hn:n=4 ∨ n=8) (hk:key.length=4 * n) (hN:N=4 * (n+7)) (hi:i<N) :
  aes_New.b0 key BOXV (n:Int) ((Wst key n i).1,(i:Int),padW (Wst key n i).2 N)=some (.inl ((Wst key n (i+1)).1,((i+1:Nat):Int),padW (Wst key n (i+1)).2 N)):=by
 have hl:=Wst_len key n i
 rw [Wst_succ]
 generalize Wst key n i=s at hl
 obtain ⟨r,ws⟩:=s
 simp only at hl
 have hp:=padW_length ws N (by omega)
 have e0:w64 (4 * w64 ((n:Int)+7))=(N:Int):=by rw [w64_id (x:=(n:Int)+7) (by omega) (by omega),w64_id (by omega) (by omega)]; omega
 have e2:(i:Int).tmod (n:Int)=((i % n:Nat):Int):=tmodN i n
 have e3:w64 ((i:Int)+1)=((i+1:Nat):Int):=by rw [w64_id (by omega) (by omega)]; omega
 by_cases hc:i<n
 ·have e4:w64 (4 * (i:Int))=((4 * i:Nat):Int):=by rw [w64_id (by omega) (by omega)]; omega
  unfold aes_New.b0
  simp only [e0,e3,e4,Int.toNat_natCast]
  refine if_i (by omega) (if_i (by omega) ?_)
  iterate 4 refine if_i (by omega) ?_
  refine ltt_i fun m hm=>?_
  have a1:lg (padW ws N) i=zW:=by rw [padW_split ws N (by omega), ← hl]; exact lg_app_r
  have hs:(sub key (4 * i) key.length).length=4 * n - 4 * i:=by rw [sub_length (Nat.le_refl _),hk]
  have hmin:min (sub key (4 * i) key.length).length (4 - 0)=4:=by rw [hs]; omega
  have a2:vsp zW 0 ((sub key (4 * i) key.length).take 4)=kwV key i:=by
   refine vec_ext fun k hk2=>?_
   rw [vec_take (by rw [List.length_take,hs]; omega) k hk2,getD_take_sub key (4 * i) k hk2 (by omega),kw_at key i k hk2]
  have a3:=padW_set ws N (kwV key i) (by omega)
  rw [hl] at a3
  rw [hm,a1,hmin,a2,a3]
  unfold stepK
  rw [if_pos hc]
 ·have e1:w64 ((i:Int) - 1)=((i - 1:Nat):Int):=by rw [w64_id (by omega) (by omega)]; omega
  unfold aes_New.b0
  simp only [e0,e1,e2,e3,Int.toNat_natCast]
  refine if_i (by omega) (if_n (by omega) ?_)
  iterate 2 refine if_i (by omega) ?_
  refine ltt_i fun m hm=>if_i (by omega) ?_
  rw [padW_lg ws N (i - 1) (by omega)] at hm
  have key2 : ∀ j:BitVec 8 × V4,j=tempW n i (r,ws) → ((loop (aes_New.b1 (n:Int) (r,(i:Int),padW ws N) j) BIG (0,padW ws N)).bind fun (t_2:List V4)=>(some (Sum.inl (β:=List V4) (j.1,((i+1:Nat):Int),t_2))))=some (.inl ((stepK key n i (r,ws)).1,((i+1:Nat):Int),padW (stepK key n i (r,ws)).2 N)):=by
   intro j hj
   refine bind_i (new_b1 n i N j.1 r ws j.2 (by omega) hl (by omega) (by omega) hN (by omega)) ?_
   rw [hj]
   unfold stepK
   rw [if_neg (by omega)]
  by_cases c0:i % n=0
  ·refine bind_i (v:=(tw r,rotW m r)) (if_i (by omega) ?_) (key2 _ ?_)
   ·exact ltt_i fun m3 h3=>bind_i (twice_eq _) (by rw [h3]; rfl)
   ·unfold tempW; rw [if_pos c0,hm]
  ·by_cases c1:n=8∧i % n=4
   ·refine bind_i (v:=(r,subW m)) (if_n (by omega) (if_i (by omega) (if_i (by omega) (if_i (by omega) (bind_i (new_b2 m) rfl))))) (key2 _ ?_)
    unfold tempW; rw [if_neg c0,if_pos c1,hm]
   ·refine bind_i (v:=(r,m)) (if_n (by omega) ?_) (key2 _ ?_)
    ·by_cases c2:(n:Int)=8
     ·exact if_i c2 (if_i (by omega) (if_n (by omega) rfl))
     ·exact if_n c2 rfl
    ·unfold tempW; rw [if_neg c0,if_neg c1,hm]
theorem new_b0 (key:Str) (n N:Nat) (hn:n=4 ∨ n=8) (hk:key.length=4 * n) (hN:N=4 * (n+7)):loop (aes_New.b0 key BOXV (n:Int)) BIG (1#8,0,List.replicate N zW)=some (Wst key n N).2:=by
 have e0:w64 (4 * w64 ((n:Int)+7))=(N:Int):=by rw [w64_id (x:=(n:Int)+7) (by omega) (by omega),w64_id (by omega) (by omega)]; omega
 have:=loop_iter (body:=aes_New.b0 key BOXV (n:Int)) (fun i=>((Wst key n i).1,(i:Int),padW (Wst key n i).2 N)) N (Wst key n N).2 (by omega) (fun i hi=>new_b0_step key n i N hn hk hN hi) ?_
 ·exact this
 ·unfold aes_New.b0
  simp only [e0,Int.toNat_natCast]
  refine if_n (by omega) ?_
  have hl:=Wst_len key n N
  have:padW (Wst key n N).2 N=(Wst key n N).2:=by unfold padW; rw [hl,Nat.sub_self]; simp
  rw [this]
theorem new_b3 (w:List V4) (n N:Nat) (hn:n=4 ∨ n=8) (hw:w.length=N) (hN:N=4 * (n+7)):loop (aes_New.b3 (n:Int) w) BIG (0,List.replicate (n+7) (replicate 16 0#8))=some (keysOf w):=by
 have e0:w64 (4 * w64 ((n:Int)+7))=(N:Int):=by rw [w64_id (x:=(n:Int)+7) (by omega) (by omega),w64_id (by omega) (by omega)]; omega
 have e7:w64 ((n:Int)+7)=((n+7:Nat):Int):=by rw [w64_id (by omega) (by omega)]; omega
 refine loop_count N (fun k ks=>ks.set (k / 4) (vsp (lg ks (k / 4)) (4 * (k % 4)) (lg w k).toList)) _ _ (fun k ks=>ks.length=n+7 ∧ ∀ r i,r<n+7 → i<16 → vg (lg ks r) i=if 4 * r+i / 4<k then vg (lg w (4 * r+i / 4)) (i % 4) else 0#8) (by omega) ⟨by simp,fun r i hr hi=>?_⟩ (fun k ks hk ⟨h1,h2⟩=>⟨?_,by simp [h1],fun r i hr hi=>?_⟩) (fun ks ⟨h1,h2⟩ _=>?_)
 ·rw [if_neg (by omega)]
  have:lg (List.replicate (n+7) (replicate 16 0#8)) r=replicate 16 0#8:=by simp [lg,hr]
  rw [this,vg_eq' hi]; simp
 ·have e1:w64 ((k:Int).tdiv 4)=((k / 4:Nat):Int):=by rw [show (4:Int)=((4:Nat):Int) from rfl,tdivN,w64_nat (by omega)]
  have e2:(k:Int).tmod 4=((k % 4:Nat):Int):=tmodN k 4
  have e3:w64 (4 * ((k % 4:Nat):Int))=((4 * (k % 4):Nat):Int):=by rw [w64_id (by omega) (by omega)]; omega
  have e4:w64 ((k:Int)+1)=((k+1:Nat):Int):=by rw [w64_id (by omega) (by omega)]; omega
  have e8:w64 (4 * ((n+7:Nat):Int))=(N:Int):=by rw [w64_id (by omega) (by omega)]; omega
  unfold aes_New.b3
  simp only [e7,e8,e1,e2,e3,e4,Int.toNat_natCast]
  clear e0 e1 e2 e3 e4 e7 e8
  iterate 8 refine if_i (by omega) ?_
  refine ltt_i fun m hm=>?_
  have a1:(sub ((lg w k).toList) 0 4).take (min (4 - 0) (16 - 4 * (k % 4)))=(lg w k).toList:=by
   have hm:min (4 - 0) (16 - 4 * (k % 4))=4:=by omega
   have hl4:(lg w k).toList.length=4:=by simp
   rw [hm]
   unfold sub
   rw [List.drop_zero,Nat.sub_zero,List.take_of_length_le (l:=(lg w k).toList) (by omega),List.take_of_length_le (by omega)]
  rw [hm,a1]
 ·have hlw:(lg w k).toList.length=4:=by simp
  by_cases hr2:k / 4=r
  ·subst hr2
   have e:lg (ks.set (k / 4) (vsp (lg ks (k / 4)) (4 * (k % 4)) (lg w k).toList)) (k / 4)=vsp (lg ks (k / 4)) (4 * (k % 4)) (lg w k).toList:=by
    simp [lg,h1,hr]
   rw [e,vg_vsp _ _ _ _ (by rw [hlw]; omega) hi,hlw]
   by_cases c:4 * (k % 4)≤i∧i<4 * (k % 4)+4
   ·have e4:4 * (k / 4)+i / 4=k:=by omega
    rw [if_pos c,if_pos (by omega),e4]
    have e5:i - 4 * (k % 4)=i % 4:=by omega
    rw [e5]
    rfl
   ·rw [if_neg c,h2 (k / 4) i hr hi]
    by_cases c2:4 * (k / 4)+i / 4<k
    ·rw [if_pos c2,if_pos (by omega)]
    ·rw [if_neg c2,if_neg (by omega)]
  ·have e:lg (ks.set (k / 4) (vsp (lg ks (k / 4)) (4 * (k % 4)) (lg w k).toList)) r=lg ks r:=by
    simp [lg,List.getElem?_set,hr2]
   rw [e,h2 r i hr hi]
   by_cases c2:4 * r+i / 4<k
   ·rw [if_pos c2,if_pos (by omega)]
   ·rw [if_neg c2,if_neg (by omega)]
 ·unfold aes_New.b3
  simp only [e0,Int.toNat_natCast]
  refine if_n (by omega) (congrArg some (congrArg Sum.inr ?_))
  refine List.ext_getElem (by rw [keysOf_length,h1]; omega) fun r p1 p2=>?_
  have e1:ks[r]=lg ks r:=by simp [lg,p1]
  have e2:(keysOf w)[r]=lg (keysOf w) r:=by simp [lg,p2]
  rw [e1,e2,keysOf_lg w r (by omega)]
  refine vec_ext fun i hi=>?_
  rw [h2 r i (by omega) hi,if_pos (by omega)]
  simp only [keyV,vg_ofFn hi]
theorem New_eq (key:Str) (n:Nat) (hn:n=4 ∨ n=8) (hk:key.length=4 * n):aes_New key=some (.inr (BOXV,n+7,keysOf (Wst key n (4 * (n+7))).2)):=by
 have e0:w64 ((key.length:Int).tdiv 4)=(n:Int):=by
  rw [show (4:Int)=((4:Nat):Int) from rfl,tdivN,w64_nat (by omega)]; omega
 have e1:w64 ((n:Int)+7)=((n+7:Nat):Int):=by rw [w64_id (by omega) (by omega)]; omega
 have e2:w64 (4 * ((n+7:Nat):Int))=((4 * (n+7):Nat):Int):=by rw [w64_id (by omega) (by omega)]; omega
 have b0:=new_b0 key n (4 * (n+7)) hn hk rfl
 have b3:=new_b3 (Wst key n (4 * (n+7))).2 n (4 * (n+7)) hn (Wst_len key n _) rfl
 have hb4:aes_New.b4=aes_New.b0:=rfl
 have hb7:aes_New.b7=aes_New.b3:=rfl
 unfold aes_New
 rw [hb4,hb7,e0]
 have rest:(aes_table).bind (fun (r_1:Vx 8 256)=>(ltt (n:Int) fun (n1:Int)=>(if 0≤w64 (4 * (w64 (n1+7)))∧w64 (4 * (w64 (n1+7)))≤17592186044416 then ((loop (aes_New.b0 key r_1 n1) BIG (1#8,0,List.replicate ((w64 (4 * (w64 (n1+7)))).toNat) (replicate 4 0#8))).bind fun (t_1:List (Vx 8 4))=>(if 0≤w64 (n1+7)∧w64 (n1+7)≤17592186044416 then ((loop (aes_New.b3 n1 t_1) BIG (0,List.replicate ((w64 (n1+7)).toNat) (replicate 16 0#8))).bind fun (t_4:List (Vx 8 16))=>(some (Sum.inr (α:=Unit) (r_1,(w64 (n1+7)).toNat,t_4)))) else none)) else none)))=some (.inr (BOXV,n+7,keysOf (Wst key n (4 * (n+7))).2)):=by
  refine bind_i table_eq (ltt_i fun n1 hn1=>?_)
  rw [hn1,e1,e2,Int.toNat_natCast,Int.toNat_natCast]
  refine if_i (by omega) (bind_i b0 (if_i (by omega) (bind_i b3 rfl)))
 rcases hn with h4 | h8
 ·subst h4
  exact if_n (by omega) rest
 ·subst h8
  exact if_i (by omega) (if_n (by omega) rest)
end Go.Proofs
end

section
namespace Go.Proofs
open Go Go.Kx
open Vector (replicate)
open TrydI Tryd
def gcm_New (key:Str):Option ((Unit) ⊕ (Vx 8 256 × Nat × List (Vx 8 16) × BitVec 64 × BitVec 64)) :=
 (aes_New key).bind fun (r_1:(Unit) ⊕ (Vx 8 256 × Nat × List (Vx 8 16)))=>(match r_1 with | .inl r_1=>(some (.inl ())) | .inr r_1=>(if r_1.2.1=(r_1.2.2).length then ((aes_Cipher_Encrypt r_1.1 r_1.2.2 (replicate 16 0#8:Vx 8 16)).bind fun (r_2:Vx 8 16)=>((gcm_load r_2.toList).bind fun (r_3:BitVec 64 × BitVec 64)=>(some (.inr (r_1.1,(r_1.2.2).length,r_1.2.2,r_3.1,r_3.2))))) else none))
set_option maxHeartbeats 4000000 in
set_option maxRecDepth 20000 in
theorem F31_calls (key:Str) (r:(Unit) ⊕ (Vx 8 256 × Nat × List (Vx 8 16) × BitVec 64 × BitVec 64)) (H:gcm_New key=some r) :
  Does Tryd.prog 31 [vs key] [] [] (Γ:=Unit × (Nat × Nat × Nat)) (fun g=>match r with | .inl r=>Value.tuple [Value.pointer none,vb false].toArray | .inr r=>Value.tuple [ptr (some (g.2.1,0)) 0,vb true].toArray) (fun g=>match r with | .inl r=>[] | .inr r=>[⟨some (g.2.1,0),[ptr (some (g.2.2.1,0)) 0]⟩,⟨some (g.2.2.1,0),e8 r.1.toList⟩,⟨some (g.2.2.1,256),[sl (some (g.2.2.2,0)) r.2.1 r.2.1]⟩,⟨some (g.2.2.2,0),eF (fun V:Vx 8 16=>e8 V.toList) r.2.2.1⟩,⟨some (g.2.1,1),[v64 r.2.2.2.1]⟩,⟨some (g.2.1,2),[v64 r.2.2.2.2]⟩]):=by
 intro w hmem hro hd
 refine calls_of (N:=22) (m0:=[(0,vs key)]) func31 rfl ntmps31 (argM_ok [vs key]) rfl hmem hro hd ?_
 unfold gcm_New at H
 refine TC_seq (TC_region (TVa ?_))
 refine TVa ?_
 refine TL_nil (TX_next (TC_seq (TC_region (TVm ?_))))
 obtain ⟨r_1,hr_1,H⟩:=bind_elim H
 rcases r_1 with r_1 | r_1
 ·dsimp only at H
  refine TL_e rfl rfl rfl (E_call (Γ:=Unit × (Nat × Nat)) (val:=fun g=>Value.tuple [Value.pointer none,vb false].toArray) (mem:=fun g=>[]) (vs:=[vs key]) (Lin:=[]) (Ro:=[]) (is:=[]) rfl call43 (F43_calls key (.inl r_1) hr_1) rfl trivial) (fun g_1=>?_)
  refine TVm ?_
  refine TLv V_ex ?_
  refine TLv V_ex ?_
  refine TVa ?_
  refine TVa ?_
  refine TL_nil (TX_next (TC_seq (TC_seq (TC_region (TVm ?_)))))
  refine TLv (V_un rfl (fun w=>notB w false)) ?_
  refine TL_nil (TX_next (TC_cond_t rfl ?_))
  refine TC_seq (TC_region (TVa ?_))
  refine TVa ?_
  refine TL_nil (TX_next (TC_ret (TX_then_ret ?_)))
  obtain rfl:=sj H
  exact TX_ret (rs:=[.tmp 2, .tmp 3]) (vs:=[Value.pointer none,vb false]) rfl ⟨rfl,rfl,trivial⟩ (fun w' hs'=>⟨((),((default:Nat),(default:Nat),(default:Nat))),rfl,Step.left (Step.pulled (is:=[]) (A:=[]) hs' rfl)⟩)
 ·dsimp only at H
  refine TL_e rfl rfl rfl (E_call (Γ:=Unit × (Nat × Nat)) (val:=fun g=>Value.tuple [ptr (some (g.2.1,0)) 0,vb true].toArray) (mem:=fun g=>[⟨some (g.2.1,0),e8 r_1.1.toList⟩,⟨some (g.2.1,256),[sl (some (g.2.2,0)) r_1.2.1 r_1.2.1]⟩,⟨some (g.2.2,0),eF (fun V:Vx 8 16=>e8 V.toList) r_1.2.2⟩]) (vs:=[vs key]) (Lin:=[]) (Ro:=[]) (is:=[]) rfl call43 (F43_calls key (.inr r_1) hr_1) rfl trivial) (fun g_2=>?_)
  refine TVm ?_
  refine TLv V_ex ?_
  refine TLv V_ex ?_
  refine TVa ?_
  refine TVa ?_
  refine TL_nil (TX_next (TC_seq (TC_seq (TC_region (TVm ?_)))))
  refine TLv (V_un rfl (fun w=>notB w true)) ?_
  refine TL_nil (TX_next (TC_cond_f rfl ?_))
  refine TC_skip (TX_next (TC_seq (TC_region (TVm ?_))))
  refine TLv (V_buildArr (pv:=[]) rfl rfl underlying84 inf84 inf5 rfl zer84 (cs:=e8 ((replicate 16 0#8:Vx 8 16).toList)) (by kernel_rfl)) ?_
  obtain ⟨h1,H⟩:=if_elim H
  refine TL_reE (j:=1) (A:=some (g_2.2.1,256)) (cs:=[sl (some (g_2.2.2,0)) r_1.2.1 r_1.2.1]) (cs':=[sl (some (g_2.2.2,0)) ((r_1.2.2).length) ((r_1.2.2).length)]) rfl (congrArg (fun n=>[sl (some (g_2.2.2,0)) n n]) h1) ?_
  obtain ⟨r_2,hr_2,H⟩:=bind_elim H
  refine TLe (E_c0 (F44_calls g_2.2.1 0 (some (g_2.2.2,0)) ((r_1.2.2).length) r_1.1 r_1.2.2 (replicate 16 0#8:Vx 8 16) (Nat.le_refl _) r_2 hr_2) call44 ⟨.o 0, .o 1, .o 2,trivial⟩) (fun g_3=>?_)
  refine TLe (E_allocP [(16,e8 ((replicate 16 0#8).toList))] inf84 zer84 ⟨(lenV (f:=v8) (replicate 16 0#8)),trivial⟩) (fun b1=>?_)
  refine TLn (E_sv (vs:=e8 r_2.toList) 0 inf84) (fun _=>?_)
  refine TL_nil (TX_next (TC_seq (TC_region (TVm ?_))))
  refine TLv (V_sliceArr0 rfl (by simp) underlying84 inf5 rfl) ?_
  refine TL_re (d:=18) (v:=sl (some (b1,0)) 16 16) (v':=sl (some (b1,0)) ((r_2.toList).length) ((r_2.toList).length)) rfl (congrArg (fun n=>sl (some (b1,0)) n n) vec_tl.symm) ?_
  obtain ⟨r_3,hr_3,H⟩:=bind_elim H
  refine TLe (E_c0 (F45_calls (some (b1,0)) ((r_2.toList).length) r_2.toList (Nat.le_refl _) r_3 hr_3) call45 ⟨.o 0,trivial⟩) (fun g_4=>?_)
  refine TLv (V_buildStruct (pv:=[(0,ptr (some (g_2.2.1,0)) 0),(1,aG [(1,[v64 r_3.1]),(1,[v64 r_3.2])])]) (pl:=[(0,1),(1,2)]) rfl rfl underlying91 inf91 places91 zer91 (cs:=flat [(1,[ptr (some (g_2.2.1,0)) 0]),(1,[v64 r_3.1]),(1,[v64 r_3.2])]) (fill_part [] [(2,flat [(1,[v64 0#64]),(1,[v64 0#64])])] rfl rfl trivial rfl rfl rfl (fill_part [(1,[ptr (some (g_2.2.1,0)) 0])] [] rfl rfl ⟨rfl,trivial⟩ rfl (flat_len ⟨rfl,rfl,trivial⟩ rfl) (flat_len ⟨rfl,rfl,trivial⟩ rfl) fill_end))) ?_
  refine TLe (E_boxP [(1,[ptr (some (g_2.2.1,0)) 0]),(1,[v64 r_3.1]),(1,[v64 r_3.2])] rfl rfl ⟨rfl,rfl,rfl,trivial⟩) (fun b2=>?_)
  refine TVa ?_
  refine TVa ?_
  refine TL_nil (TX_next (TC_ret ?_))
  obtain rfl:=sj H
  exact TX_ret (rs:=[.tmp 2, .tmp 3]) (vs:=[ptr (some (b2,0)) 0,vb true]) rfl ⟨rfl,rfl,trivial⟩ (fun w' hs'=>⟨((),(b2,g_2.2.1,g_2.2.2)),rfl,Step.left (Step.pulled (is:=[0,3,3,3,0,0]) (A:=[⟨some (b2,0),[ptr (some (g_2.2.1,0)) 0]⟩,⟨some (g_2.2.1,0),e8 r_1.1.toList⟩,⟨some (g_2.2.1,256),[sl (some (g_2.2.2,0)) ((r_1.2.2).length) ((r_1.2.2).length)]⟩,⟨some (g_2.2.2,0),eF (fun V:Vx 8 16=>e8 V.toList) r_1.2.2⟩,⟨some (b2,1),[v64 r_3.1]⟩,⟨some (b2,2),[v64 r_3.2]⟩]) hs' rfl)⟩)
end Go.Proofs
end

section
namespace Go.Proofs
open Go Go.Kx
open TrydI Tryd
def gcm_may (nonce:Str) (aad:Str) (most:Int) (long:Int):Option (Bool) :=
 if ((nonce).length:Int)=12 then (if ((aad).length:Int)≤65536 then (ltt (decide (long≤most)) fun (x1:Bool)=>(some x1)) else (some false)) else (some false)
set_option maxHeartbeats 4000000 in
set_option maxRecDepth 20000 in
theorem F32_calls (nonce:Str) (aad:Str) (most:Int) (long:Int) (r:Bool) (H:gcm_may nonce aad most long=some r) :
  Does Tryd.prog 32 [vs nonce,vs aad,vi most,vi long] [] [] (Γ:=Unit) (fun g=>vb r) (fun g=>[]):=by
 intro w hmem hro hd
 refine calls_of (N:=22) (m0:=[(0,vs nonce),(1,vs aad),(2,vi most),(3,vi long)]) func32 rfl ntmps32 (argM_ok [vs nonce,vs aad,vi most,vi long]) rfl hmem hro hd ?_
 unfold gcm_may at H
 refine TC_seq (TC_region (TVa ?_))
 refine TL_nil (TX_next (TC_seq (TC_region (TVm ?_))))
 refine TLv (V_len_str rfl underlying9) ?_
 refine TLv (V_bin rfl rfl (fun w=>eqlI w ((nonce).length:Int) 12)) ?_
 refine TVm ?_
 refine TFd (d:=12) H (fun hc H=>?_) (fun hc H=>?_)
 ·refine TLw (V_move rfl) ?_
  refine TLw (V_len_str rfl underlying9) ?_
  refine TLw (V_bin rfl rfl (fun w=>leqI w ((aad).length:Int) 65536)) ?_
  refine TVt ?_
  refine TVm ?_
  refine TFd (d:=17) H (fun hc H=>?_) (fun hc H=>?_)
  ·refine TLw (V_move rfl) ?_
   refine TLw (V_move rfl) ?_
   refine TLw (V_bin rfl rfl (fun w=>leqI w long most)) ?_
   refine TVt ?_
   refine TVa ?_
   obtain ⟨x1,hx1,H⟩:=ltt_elim H
   refine TLr 8 (congrArg vb hx1) ?_
   refine TL_nil (TX_next (TC_ret ?_))
   obtain rfl:=sj H
   exact TX1
  ·refine TLs ?_
   refine TLs ?_
   refine TLs ?_
   refine TVf ?_
   refine TVa ?_
   refine TL_nil (TX_next (TC_ret ?_))
   obtain rfl:=sj H
   exact TX1
 ·refine TLs ?_
  refine TLs ?_
  refine TLs ?_
  refine TVf ?_
  refine TVm ?_
  refine TLs ?_
  refine TLs ?_
  refine TLs ?_
  refine TVf ?_
  refine TVa ?_
  refine TL_nil (TX_next (TC_ret ?_))
  obtain rfl:=sj H
  exact TX1
end Go.Proofs
end

section
namespace Go.Proofs
open Go Go.Kx
open Vector (replicate)
open TrydI Tryd
def gcm_Cipher_Xor.b1 (b:List (BitVec 8)) (s0:Nat × BitVec 32 × List (BitVec 8)) (r_2:Vx 8 16) (m_1:Int) (s1:Int × List (BitVec 8)):Option ((Int × List (BitVec 8)) ⊕ (List (BitVec 8))) :=
 if s1.1<m_1 then (if (b).length≤(s1.2).length then (if (b).length≤(s1.2).length then (if 0≤s1.1∧s1.1<(((((b).length) - s0.1:Nat):Int):Int) then (if 0≤s1.1∧s1.1<(16:Int) then (if (b).length≤(s1.2).length then (if (b).length≤(s1.2).length then (if 0≤s1.1∧s1.1<(((((b).length) - s0.1:Nat):Int):Int) then (ltt (s1.2.set (s0.1+((s1.1).toNat)) ((lg s1.2 (s0.1+((s1.1).toNat))) ^^^ (vg r_2 ((s1.1).toNat)))) fun (m_2:List (BitVec 8))=>(some (.inl (w64 (s1.1+1),m_2)))) else none) else none) else none) else none) else none) else none) else none) else (some (.inr s1.2))
def gcm_Cipher_Xor.b0 (c_aes_table:Vx 8 256) (c_aes_keys:List (Vx 8 16)) (nonce:Str) (b:List (BitVec 8)) (s0:Nat × BitVec 32 × List (BitVec 8)):Option ((Nat × BitVec 32 × List (BitVec 8)) ⊕ (List (BitVec 8))) :=
 if 0<((((b).length) - s0.1:Nat):Int) then ((gcm_counter nonce s0.2.1).bind fun (r_1:Vx 8 16)=>((aes_Cipher_Encrypt c_aes_table c_aes_keys r_1).bind fun (r_2:Vx 8 16)=>(ltt (min ((((b).length) - s0.1:Nat):Int) 16) fun (m_1:Int)=>((loop (gcm_Cipher_Xor.b1 b s0 r_2 m_1) BIG (0,s0.2.2)).bind fun (t_2:List (BitVec 8))=>(if 0≤m_1 then (if (b).length≤(t_2).length then (if s0.1≤(b).length then (if (m_1).toNat≤((b).length) - s0.1 then (ltt (s0.2.1+1#32) fun (n1:BitVec 32)=>(some (.inl (s0.1+((m_1).toNat),n1,t_2)))) else none) else none) else none) else none))))) else (some (.inr s0.2.2))
def gcm_Cipher_Xor (c_aes_table:Vx 8 256) (c_aes_keys:List (Vx 8 16)) (c_h_high:BitVec 64) (c_h_low:BitVec 64) (nonce:Str) (b:List (BitVec 8)):Option (List (BitVec 8)) :=
 (loop (gcm_Cipher_Xor.b0 c_aes_table c_aes_keys nonce b) BIG (0,2#32,b)).bind fun (t_1:List (BitVec 8))=>(some t_1)
set_option maxHeartbeats 4000000 in
set_option maxRecDepth 20000 in
theorem F33_calls (bc:Nat) (obc:Nat) (bc_aes:Nat) (obc_aes:Nat) (Ac_aes_keys:Adr) (cc_aes_keys:Nat) (Ab:Adr) (spb:List (BitVec 8)) (c_aes_table:Vx 8 256) (c_aes_keys:List (Vx 8 16)) (c_h_high:BitVec 64) (c_h_low:BitVec 64) (nonce:Str) (b:List (BitVec 8)) (hcc_aes_keys:(c_aes_keys).length≤cc_aes_keys) (r:List (BitVec 8)) (H:gcm_Cipher_Xor c_aes_table c_aes_keys c_h_high c_h_low nonce b=some r) :
  Does Tryd.prog 33 [ptr (some (bc,obc)) 0,vs nonce,sl Ab ((b).length) ((b++spb).length)] [⟨Ab,e8 (b++spb)⟩] [⟨some (bc,obc),[ptr (some (bc_aes,obc_aes)) 0]⟩,⟨some (bc,obc+1),[v64 c_h_high]⟩,⟨some (bc,obc+2),[v64 c_h_low]⟩,⟨some (bc_aes,obc_aes),e8 c_aes_table.toList⟩,⟨some (bc_aes,obc_aes+256),[sl Ac_aes_keys ((c_aes_keys).length) cc_aes_keys]⟩,⟨Ac_aes_keys,eF (fun V:Vx 8 16=>e8 V.toList) c_aes_keys⟩] (Γ:=Unit) (fun g=>Value.tuple [].toArray) (fun g=>[⟨Ab,e8 (r++spb)⟩]):=by
 intro w hmem hro hd
 refine calls_of (N:=43) (m0:=[(0,ptr (some (bc,obc)) 0),(1,vs nonce),(2,sl Ab ((b).length) ((b++spb).length))]) func33 rfl ntmps33 (argM_ok [ptr (some (bc,obc)) 0,vs nonce,sl Ab ((b).length) ((b++spb).length)]) rfl hmem hro hd ?_
 unfold gcm_Cipher_Xor at H
 refine TC_seq (TC_region (TVa ?_))
 refine TL_nil (TX_next (TC_block (TC_re (d:=2) (v:=sl Ab ((b).length) ((b++spb).length)) (v':=sl (cutB Ab ((b++spb).length) 0 0 1) (((b).length) - 0) (((b++spb).length) - 0)) rfl (vw_seed 1) ?_)))
 obtain ⟨t_1,Hl,H⟩:=bind_elim H
 refine TC.sub (m':=[(0,_),(1,_),(2,_),(6,_)]) ⟨rfl,rfl,rfl,rfl,trivial⟩ ?_
 refine TC.pull (is:=[0]) (L':=[_]) rfl ?_
 refine TC_loopL (id:=0) (body:=(gcm_Cipher_Xor.b0 c_aes_table c_aes_keys nonce b)) (σ:=Nat × BitVec 32 × List (BitVec 8)) (Γ:=Nat) (Γx:=Unit) (fun s0 g0_=>[(0,ptr (some (bc,obc)) 0),(1,vs nonce),(2,sl (cutB Ab ((s0.2.2++spb).length) s0.1 g0_ 1) (((b).length) - s0.1) (((s0.2.2++spb).length) - s0.1)),(6,v32 s0.2.1)]) (fun s0 g0_=>[⟨Ab,e8 (s0.2.2++spb)⟩]) (fun t g=>[]) (fun t g=>[⟨Ab,e8 (t++spb)⟩]) ?_ BIG (0,2#32,b) 0 t_1 Hl ?_
 ·intro s0 g0_ r1 H K hK hE
  unfold gcm_Cipher_Xor.b0 at H
  refine TC_seq (TC_seq (TC_region (TVm ?_)))
  refine TLv (V_len_slice rfl underlying40) ?_
  refine TLv (V_bin rfl rfl (fun w=>gtrI w ((((b).length) - s0.1:Nat):Int) 0)) ?_
  refine TL_nil (TX_next (TCd H (fun hc H=>?_) (fun hc H=>?_)))
  ·refine TC_skip (TX_next (TC_seq (TC_block (TC_seq ?_))))
   obtain ⟨r_1,hr_1,H⟩:=bind_elim H
   obtain ⟨r_2,hr_2,H⟩:=bind_elim H
   refine TA_begin [] 10 (by kernel_rfl) (N:=10) rfl ?_
   refine TA_mix (is:=[]) (done':=dn 10 511) [itV 0 15 (ptr (some (bc,obc)) 0) [],itV 1 16 (ptr (some (bc,obc)) 0) [0],itV 2 17 (ptr (some (bc,obc)) 0) [1],itV 3 18 (ptr (some (bc_aes,obc_aes)) 0) [2],itV 4 19 (vs nonce) [],itV 5 20 (v32 s0.2.1) [],itV 6 21 (aG [(16,e8 r_1.toList)]) [4,5],itV 7 22 (aG [(16,e8 r_2.toList)]) [3,6],⟨8,7,fun b1=>ptr (some (b1,0)) 0,fun b1=>[⟨some (b1,0),e8 ((replicate 16 0#8).toList)⟩],[],none⟩] [] 1 (by kernel_rfl) (QP.then (QP.block (QP.then (QP.then (QP.block QP.body))))) (by kernel_rfl) rfl (.v rfl (V_move rfl) (.v rfl (V_nilCheck rfl) (.v rfl (V_fe underlying91 inf81) (.v rfl (V_load rfl (.r 0) rfl isAgg81) (.v rfl (V_move rfl) (.v rfl (V_move rfl) (.e rfl (E_cu (F46_calls nonce s0.2.1 r_1 hr_1) call46 .z) (.e rfl (E_cu (F44_calls bc_aes obc_aes Ac_aes_keys cc_aes_keys c_aes_table c_aes_keys r_1 hcc_aes_keys r_2 hr_2) call44 ⟨.r 3, .r 4, .r 5,trivial⟩) (.c rfl (fun _ _=>(E_allocP [(16,e8 ((replicate 16 0#8).toList))] inf84 zer84 ⟨(lenV (f:=v8) (replicate 16 0#8)),trivial⟩)) .nil))))))))) .nil (by kernel_rfl) rfl (fun γ=>?_)
   refine TA_cut [(7,ptr (some ((γ 8),0)) 0),(22,aG [(16,e8 r_2.toList)]),(0,ptr (some (bc,obc)) 0),(1,vs nonce),(2,sl (cutB Ab ((s0.2.2++spb).length) s0.1 g0_ 1) (((b).length) - s0.1) (((s0.2.2++spb).length) - s0.1)),(6,v32 s0.2.1)] [⟨some ((γ 8),0),e8 ((replicate 16 0#8).toList)⟩,⟨Ab,e8 (s0.2.2++spb)⟩] ⟨rfl,rfl,rfl,rfl,rfl,rfl,trivial⟩ rfl ?_
   generalize γ 8=b1
   refine TA_all (rs:=[9]) (by kernel_rfl) rfl ?_
   refine ⟨?_,trivial⟩
   refine TO_n (is:=[]) (done':=dn 10 1023) rfl rfl rfl (by kernel_rfl) (E_sv (vs:=e8 r_2.toList) 0 inf84) (fun _ _=>rfl) (fun _=>?_)
   refine TA_done (by kernel_rfl) ?_ 0
   refine TX_next (TC_seq (TC_region (TVm ?_)))
   refine TLv (V_len_slice rfl underlying40) ?_
   refine TLv (V_min rfl rfl) ?_
   refine TVa ?_
   obtain ⟨m_1,hm_1,H⟩:=ltt_elim H
   refine TLr 8 (congrArg vi hm_1) ?_
   refine TL_nil (TX_next (TC_seq (TC_seq (TC_region (TVm ?_)))))
   refine TVm ?_
   refine TL_nil (TX_next (TC_block ?_))
   obtain ⟨t_2,Hl,H⟩:=bind_elim H
   refine TC.sub (m':=[(0,_),(1,_),(2,_),(6,_),(7,_),(8,_),(26,_),(27,_)]) ⟨rfl,rfl,rfl,rfl,rfl,rfl,rfl,rfl,trivial⟩ ?_
   refine TC.pull (is:=[1,0]) (L':=[_,_]) rfl ?_
   refine TC_loopL (id:=2) (body:=(gcm_Cipher_Xor.b1 b s0 r_2 m_1)) (σ:=Int × List (BitVec 8)) (Γ:=Unit) (Γx:=Unit) (fun s1 g1_=>[(0,ptr (some (bc,obc)) 0),(1,vs nonce),(2,sl (cutB Ab ((s1.2++spb).length) s0.1 g0_ 1) (((b).length) - s0.1) (((s1.2++spb).length) - s0.1)),(6,v32 s0.2.1),(7,ptr (some (b1,0)) 0),(8,vi m_1),(26,vi m_1),(27,vi s1.1)]) (fun s1 g1_=>[⟨Ab,e8 (s1.2++spb)⟩,⟨some (b1,0),e8 r_2.toList⟩]) (fun t g=>[(0,ptr (some (bc,obc)) 0),(1,vs nonce),(2,sl (cutB Ab ((t++spb).length) s0.1 g0_ 1) (((b).length) - s0.1) (((t++spb).length) - s0.1)),(6,v32 s0.2.1),(8,vi m_1)]) (fun t g=>[⟨Ab,e8 (t++spb)⟩]) ?_ BIG (0,s0.2.2) () t_2 Hl ?_
   ·intro s1 g1_ r1 H K hK hE
    unfold gcm_Cipher_Xor.b1 at H
    refine TC_seq (TC_region (TLv (V_bin rfl rfl (fun w=>lssI w s1.1 m_1)) ?_))
    refine TL_nil (TX_next (TC_seq (TCd H (fun hc H=>?_) (fun hc H=>?_))))
    ·refine TC_skip (TX_next (TC_seq (TC_block (TC_seq (TC_region (TVm ?_))))))
     refine TVa ?_
     refine TL_nil (TX_next ?_)
     obtain ⟨h1,H⟩:=if_elim H
     obtain ⟨h2,H⟩:=if_elim H
     obtain ⟨h3,H⟩:=if_elim H
     obtain ⟨h4,H⟩:=if_elim H
     obtain ⟨h5,H⟩:=if_elim H
     obtain ⟨h6,H⟩:=if_elim H
     obtain ⟨h7,H⟩:=if_elim H
     obtain ⟨m_2,hm_2,H⟩:=ltt_elim H
     refine TA_begin [] 10 (by kernel_rfl) (N:=10) rfl ?_
     refine TA_mix (is:=[]) (done':=dn 10 511) [itV 0 30 (sl (cutB Ab ((s1.2++spb).length) s0.1 g0_ 1) (((b).length) - s0.1) (((s1.2++spb).length) - s0.1)) [],itV 1 31 (vi s1.1) [],itV 2 32 (ptr Ab (s0.1+((s1.1).toNat))) [0,1],itV 3 33 (v8 (lg s1.2 (s0.1+((s1.1).toNat)))) [2],itV 4 34 (vi s1.1) [],itV 5 35 (ptr (some (b1,0)) ((s1.1).toNat)) [4],itV 6 36 (v8 (vg r_2 ((s1.1).toNat))) [5],itV 7 37 (v8 ((lg s1.2 (s0.1+((s1.1).toNat))) ^^^ (vg r_2 ((s1.1).toNat)))) [3,6],itV 8 38 (ptr Ab (s0.1+((s1.1).toNat))) [0,1]] [] 1 (by kernel_rfl) (QP.block (QP.then (QP.then (QP.block (QP.then (QP.block (QP.then (QP.then (QP.block QP.body))))))))) (by kernel_rfl) rfl (.v rfl (V_move rfl) (.v rfl (V_move rfl) (.v rfl (V_idxVw (i:=s1.1) rfl rfl underlying40 inf5 rfl (.o 0) (map_ne (lt_app (idx_lt h3.2 h3.1 h2))) h3.1 h3.2 (Nat.le_trans h1 (row_le _ _)) (k:=s0.1+((s1.1).toNat)) (km1 _)) (.v rfl (V_load rfl (.o 0) (get_row (f:=v8) (l:=s1.2) (sp:=spb) (idx_lt h3.2 h3.1 h2)) isAgg5) (.v rfl (V_move rfl) (.v rfl (V_idxArr (i:=s1.1) rfl rfl underlying84 inf5 rfl h4.1 h4.2 (k:=(s1.1).toNat) (k01 _)) (.v rfl (V_load rfl (.o 1) (get_vec (f:=v8) (V:=r_2) (toNat_lt h4.1 h4.2)) isAgg5) (.v rfl (V_bin rfl rfl (fun w=>xor8 w (lg s1.2 (s0.1+((s1.1).toNat))) (vg r_2 ((s1.1).toNat)))) (.v rfl (V_idxVw (i:=s1.1) rfl rfl underlying40 inf5 rfl (.o 0) (map_ne (lt_app (idx_lt h7.2 h7.1 h6))) h7.1 h7.2 (Nat.le_trans h5 (row_le _ _)) (k:=s0.1+((s1.1).toNat)) (km1 _)) .nil))))))))) .nil (by kernel_rfl) rfl (fun γ=>?_)
     refine TA_cut [(38,ptr Ab (s0.1+((s1.1).toNat))),(37,v8 ((lg s1.2 (s0.1+((s1.1).toNat))) ^^^ (vg r_2 ((s1.1).toNat)))),(0,ptr (some (bc,obc)) 0),(1,vs nonce),(2,sl (cutB Ab ((s1.2++spb).length) s0.1 g0_ 1) (((b).length) - s0.1) (((s1.2++spb).length) - s0.1)),(6,v32 s0.2.1),(7,ptr (some (b1,0)) 0),(8,vi m_1),(26,vi m_1),(27,vi s1.1)] [⟨Ab,e8 (s1.2++spb)⟩,⟨some (b1,0),e8 r_2.toList⟩] ⟨rfl,rfl,rfl,rfl,rfl,rfl,rfl,rfl,rfl,rfl,trivial⟩ rfl ?_
     refine TA_all (rs:=[9]) (by kernel_rfl) rfl ?_
     refine ⟨?_,trivial⟩
     refine TO_n (is:=[]) (done':=dn 10 1023) rfl rfl rfl (by kernel_rfl) (E_store (j:=0) rfl rfl inf5 rfl rfl rfl (by rw [List.length_map]; exact lt_app (idx_lt h7.2 h7.1 h6)) (cs':=e8 ((s1.2.set (s0.1+((s1.1).toNat)) ((lg s1.2 (s0.1+((s1.1).toNat))) ^^^ (vg r_2 ((s1.1).toNat))))++spb)) (set_row (idx_lt h7.2 h7.1 h6))) (fun _ _=>rfl) (fun _=>?_)
     refine TA_reE (j:=0) (A:=Ab) (cs:=e8 ((s1.2.set (s0.1+((s1.1).toNat)) ((lg s1.2 (s0.1+((s1.1).toNat))) ^^^ (vg r_2 ((s1.1).toNat))))++spb)) (cs':=e8 (m_2++spb)) rfl (congrArg (fun z=>e8 (z++spb)) hm_2) ?_
     refine TA_re (d:=2) (v:=sl (cutB Ab ((s1.2++spb).length) s0.1 g0_ 1) (((b).length) - s0.1) (((s1.2++spb).length) - s0.1)) (v':=sl (cutB Ab ((m_2++spb).length) s0.1 g0_ 1) (((b).length) - s0.1) (((m_2++spb).length) - s0.1)) rfl (vw_c (s:=1) (cap_set hm_2)) ?_
     refine TA_done (by kernel_rfl) ?_ 0
     refine TX_block_normal (TX_next (TC_region (TLv (V_bin rfl rfl (fun w=>addI w s1.1 1)) ?_)))
     refine TVm ?_
     refine TL_nil ?_
     obtain rfl:=sj H
     exact TXk [0,0] (hK (w64 (s1.1+1),m_2) rfl ())
    ·refine TC_exit (TX_then_exit (TX_then_exit ?_))
     obtain rfl:=sj H
     exact TXj [0] (hE s1.2 rfl ())
   ·intro g
    refine TX_block_exit (TX_next (TC_region (TVm ?_)))
    refine TVm ?_
    obtain ⟨h8,H⟩:=if_elim H
    obtain ⟨h9,H⟩:=if_elim H
    obtain ⟨h10,H⟩:=if_elim H
    obtain ⟨h11,H⟩:=if_elim H
    refine TLv (V_sliceVw (l:=(m_1).toNat) (h:=((b).length) - s0.1) rfl underlying40 inf5 rfl (Bnd.some' (i:=m_1) rfl h8) Bnd.none' h11 (Nat.le_refl _) (Nat.le_trans h9 (row_le _ _)) (Nat.add_sub_cancel' h10)) ?_
    refine TVa ?_
    refine TL_nil (TX_block_normal (TX_next (TC_region (TVm ?_))))
    refine TLv (V_bin rfl rfl (fun w=>add32 w s0.2.1 1#32)) ?_
    refine TVa ?_
    obtain ⟨n1,hn1,H⟩:=ltt_elim H
    refine TLr 6 (congrArg v32 hn1) ?_
    refine TL_nil ?_
    obtain rfl:=sj H
    exact TXk [0] (hK (s0.1+((m_1).toNat),n1,t_2) rfl (if (t_2++spb).length=s0.1 then g0_ else s0.1))
  ·refine TC_exit (TX_then_exit (TX_then_exit ?_))
   obtain rfl:=sj H
   exact TXj [0] (hE s0.2.2 rfl ())
 ·intro g
  refine TX_block_exit ?_
  obtain rfl:=sj H
  exact TX_end (rs:=[]) (vs:=[]) rfl trivial (fun w' hs'=>⟨(),rfl,Step.left (Step.pulled (is:=[0]) (A:=[⟨Ab,e8 (t_1++spb)⟩]) hs' rfl)⟩)
end Go.Proofs
end

section
namespace Go.Proofs
open Go Go.Kx
open TrydI Tryd
def gcm_Seal (key:Str) (nonce:Str) (aad:Str) (s_:Str):Option (Str × Int) :=
 (gcm_New key).bind fun (r_1:(Unit) ⊕ (Vx 8 256 × Nat × List (Vx 8 16) × BitVec 64 × BitVec 64))=>(match r_1 with | .inl r_1=>(some (([]:Str),500)) | .inr r_1=>((gcm_may nonce aad 65536 ((s_).length:Int)).bind fun (r_2:Bool)=>(if (!r_2)=true then (some (([]:Str),500)) else (if r_1.2.1=(r_1.2.2.1).length then ((gcm_Cipher_Xor r_1.1 r_1.2.2.1 r_1.2.2.2.1 r_1.2.2.2.2 nonce s_).bind fun (r_3:List (BitVec 8))=>(if (r_3).length=(s_).length then ((gcm_Cipher_Tag r_1.1 r_1.2.2.1 r_1.2.2.2.1 r_1.2.2.2.2 nonce aad r_3).bind fun (r_4:Str)=>(if (r_3).length+(r_4).length≤4611686018427387904 then (some (r_3++r_4,0)) else none)) else none)) else none))))
set_option maxHeartbeats 4000000 in
set_option maxRecDepth 20000 in
theorem F17_calls (key:Str) (nonce:Str) (aad:Str) (s_:Str) (r:Str × Int) (H:gcm_Seal key nonce aad s_=some r) :
  Does Tryd.prog 17 [vs key,vs nonce,vs aad,vs s_] [] [] (Γ:=Unit) (fun g=>Value.tuple [vs r.1,vi r.2].toArray) (fun g=>[]):=by
 intro w hmem hro hd
 refine calls_of (N:=42) (m0:=[(0,vs key),(1,vs nonce),(2,vs aad),(3,vs s_)]) func17 rfl ntmps17 (argM_ok [vs key,vs nonce,vs aad,vs s_]) rfl hmem hro hd ?_
 unfold gcm_Seal at H
 refine TC_seq (TC_region (TVa ?_))
 refine TVa ?_
 refine TL_nil (TX_next (TC_seq (TC_region (TVm ?_))))
 obtain ⟨r_1,hr_1,H⟩:=bind_elim H
 rcases r_1 with r_1 | r_1
 ·dsimp only at H
  refine TL_e rfl rfl rfl (E_call (Γ:=Unit × (Nat × Nat × Nat)) (val:=fun g=>Value.tuple [Value.pointer none,vb false].toArray) (mem:=fun g=>[]) (vs:=[vs key]) (Lin:=[]) (Ro:=[]) (is:=[]) rfl call31 (F31_calls key (.inl r_1) hr_1) rfl trivial) (fun g_1=>?_)
  refine TVm ?_
  refine TLv V_ex ?_
  refine TLv V_ex ?_
  refine TVa ?_
  refine TVa ?_
  refine TL_nil (TX_next (TC_seq (TC_seq (TC_region (TVm ?_)))))
  refine TLv (V_un rfl (fun w=>notB w false)) ?_
  refine TVm ?_
  refine TLs ?_
  refine TLs ?_
  refine TLs ?_
  refine TLs ?_
  refine TLs ?_
  refine TLs ?_
  refine TVt ?_
  refine TL_nil (TX_next (TC_cond_t rfl ?_))
  refine TC_seq (TC_region (TVa ?_))
  refine TVa ?_
  refine TL_nil (TX_next (TC_ret (TX_then_ret ?_)))
  obtain rfl:=sj H
  exact TX2
 ·dsimp only at H
  refine TL_e rfl rfl rfl (E_call (Γ:=Unit × (Nat × Nat × Nat)) (val:=fun g=>Value.tuple [ptr (some (g.2.1,0)) 0,vb true].toArray) (mem:=fun g=>[⟨some (g.2.1,0),[ptr (some (g.2.2.1,0)) 0]⟩,⟨some (g.2.2.1,0),e8 r_1.1.toList⟩,⟨some (g.2.2.1,256),[sl (some (g.2.2.2,0)) r_1.2.1 r_1.2.1]⟩,⟨some (g.2.2.2,0),eF (fun V:Vx 8 16=>e8 V.toList) r_1.2.2.1⟩,⟨some (g.2.1,1),[v64 r_1.2.2.2.1]⟩,⟨some (g.2.1,2),[v64 r_1.2.2.2.2]⟩]) (vs:=[vs key]) (Lin:=[]) (Ro:=[]) (is:=[]) rfl call31 (F31_calls key (.inr r_1) hr_1) rfl trivial) (fun g_2=>?_)
  refine TVm ?_
  refine TLv V_ex ?_
  refine TLv V_ex ?_
  refine TVa ?_
  refine TVa ?_
  refine TL_nil (TX_next (TC_seq (TC_seq (TC_region (TVm ?_)))))
  refine TLv (V_un rfl (fun w=>notB w true)) ?_
  refine TVm ?_
  refine TLw (V_move rfl) ?_
  refine TLw (V_move rfl) ?_
  refine TLw (V_move rfl) ?_
  refine TLw (V_len_str rfl underlying9) ?_
  obtain ⟨r_2,hr_2,H⟩:=bind_elim H
  refine TLu (E_c0 (F32_calls nonce aad 65536 ((s_).length:Int) r_2 hr_2) call32 .z) (fun g_3=>?_)
  refine TLw (V_un rfl (fun w=>notB w r_2)) ?_
  refine TVf ?_
  refine TL_nil (TX_next (TCb H (fun hc H=>?_) (fun hc H=>?_)))
  ·refine TC_seq (TC_region (TVa ?_))
   refine TVa ?_
   refine TL_nil (TX_next (TC_ret (TX_then_ret ?_)))
   obtain rfl:=sj H
   exact TX2
  ·refine TC_skip (TX_next (TC_seq (TC_region (TVm ?_))))
   refine TLe (E_s2bR rfl underlying9 underlying40 underlying5) (fun g_4=>?_)
   refine TVa ?_
   refine TL_nil (TX_next (TC_seq (TC_region (TVm ?_))))
   refine TVm ?_
   refine TVm ?_
   obtain ⟨h1,H⟩:=if_elim H
   refine TL_reE (j:=3) (A:=some (g_2.2.2.1,256)) (cs:=[sl (some (g_2.2.2.2,0)) r_1.2.1 r_1.2.1]) (cs':=[sl (some (g_2.2.2.2,0)) ((r_1.2.2.1).length) ((r_1.2.2.1).length)]) rfl (congrArg (fun n=>[sl (some (g_2.2.2.2,0)) n n]) h1) ?_
   obtain ⟨r_3,hr_3,H⟩:=bind_elim H
   refine TLe (E_call (Γ:=Unit) (val:=fun g=>Value.tuple [].toArray) (mem:=fun g=>[⟨some (g_4.1,0),e8 (r_3++g_4.2)⟩]) (vs:=[ptr (some (g_2.2.1,0)) 0,vs nonce,sl (some (g_4.1,0)) ((s_).length) ((s_++g_4.2).length)]) (Lin:=[⟨some (g_4.1,0),e8 (s_++g_4.2)⟩]) (Ro:=[⟨some (g_2.2.1,0),[ptr (some (g_2.2.2.1,0)) 0]⟩,⟨some (g_2.2.1,1),[v64 r_1.2.2.2.1]⟩,⟨some (g_2.2.1,2),[v64 r_1.2.2.2.2]⟩,⟨some (g_2.2.2.1,0),e8 r_1.1.toList⟩,⟨some (g_2.2.2.1,256),[sl (some (g_2.2.2.2,0)) ((r_1.2.2.1).length) ((r_1.2.2.1).length)]⟩,⟨some (g_2.2.2.2,0),eF (fun V:Vx 8 16=>e8 V.toList) r_1.2.2.1⟩]) (is:=[0]) rfl call33 (F33_calls g_2.2.1 0 g_2.2.2.1 0 (some (g_2.2.2.2,0)) ((r_1.2.2.1).length) (some (g_4.1,0)) g_4.2 r_1.1 r_1.2.2.1 r_1.2.2.2.1 r_1.2.2.2.2 nonce s_ (Nat.le_refl _) r_3 hr_3) rfl ⟨.o 0, .o 4, .o 5, .o 1, .o 2, .o 3,trivial⟩) (fun g_5=>?_)
   obtain ⟨h2,H⟩:=if_elim H
   refine TL_re (d:=29) (v:=sl (some (g_4.1,0)) ((s_).length) ((s_++g_4.2).length)) (v':=sl (some (g_4.1,0)) ((r_3).length) ((r_3++g_4.2).length)) rfl (row_len h2) ?_
   refine TL_re (d:=12) (v:=sl (some (g_4.1,0)) ((s_).length) ((s_++g_4.2).length)) (v':=sl (some (g_4.1,0)) ((r_3).length) ((r_3++g_4.2).length)) rfl (row_len h2) ?_
   refine TL_re (d:=32) (v:=sl (some (g_4.1,0)) ((s_).length) ((s_++g_4.2).length)) (v':=sl (some (g_4.1,0)) ((r_3).length) ((r_3++g_4.2).length)) rfl (row_len h2) ?_
   refine TL_nil (TX_next (TC.sub (m':=[(1,_),(2,_),(10,_),(12,_)]) ⟨rfl,rfl,rfl,rfl,trivial⟩ ?_))
   refine TC_seq ?_
   obtain ⟨r_4,hr_4,H⟩:=bind_elim H
   obtain ⟨h3,H⟩:=if_elim H
   refine TA_begin [] 10 (by kernel_rfl) (N:=10) rfl ?_
   refine TA_mix (is:=[]) (done':=dn 10 1023) [itV 0 34 (sl (some (g_4.1,0)) ((r_3).length) ((r_3++g_4.2).length)) [],itV 1 35 (vs r_3) [0],itV 2 36 (ptr (some (g_2.2.1,0)) 0) [],itV 3 37 (vs nonce) [],itV 4 38 (vs aad) [],itV 5 39 (sl (some (g_4.1,0)) ((r_3).length) ((r_3++g_4.2).length)) [],itV 6 40 (vs r_4) [2,3,4,5],itV 7 41 (vs (r_3++r_4)) [6,1],itV 8 8 (vs (r_3++r_4)) [7],itV 9 9 (vi 0) []] [] 0 (by kernel_rfl) (QP.then QP.body) (by kernel_rfl) rfl (.v rfl (V_move rfl) (.v rfl (V_b2s rfl underlying40 underlying5 underlying9 (srcRow (.o 0)) rfl) (.v rfl (V_move rfl) (.v rfl (V_move rfl) (.v rfl (V_move rfl) (.v rfl (V_move rfl) (.e rfl (E_cu (F34_calls g_2.2.1 0 g_2.2.2.1 0 (some (g_2.2.2.2,0)) ((r_1.2.2.1).length) (some (g_4.1,0)) ((r_3++g_4.2).length) r_1.1 r_1.2.2.1 r_1.2.2.2.1 r_1.2.2.2.2 nonce aad r_3 (Nat.le_refl _) (row_le _ _) r_4 hr_4) call34 ⟨.o 1, .o 5, .o 6, .o 2, .o 3, .o 4,(srcdRow (.o 0)),trivial⟩) (.v rfl (V_bin rfl rfl (fun w=>addS w r_3 r_4 h3)) (.v rfl (V_assign rfl) (.v rfl (V_assign rfl) .nil)))))))))) .nil (by kernel_rfl) rfl (fun γ=>?_)
   refine TA_cut [(9,vi 0),(8,vs (r_3++r_4))] [⟨some (g_4.1,0),e8 (r_3++g_4.2)⟩,⟨some (g_2.2.1,0),[ptr (some (g_2.2.2.1,0)) 0]⟩,⟨some (g_2.2.2.1,0),e8 r_1.1.toList⟩,⟨some (g_2.2.2.1,256),[sl (some (g_2.2.2.2,0)) ((r_1.2.2.1).length) ((r_1.2.2.1).length)]⟩,⟨some (g_2.2.2.2,0),eF (fun V:Vx 8 16=>e8 V.toList) r_1.2.2.1⟩,⟨some (g_2.2.1,1),[v64 r_1.2.2.2.1]⟩,⟨some (g_2.2.1,2),[v64 r_1.2.2.2.2]⟩] ⟨rfl,rfl,trivial⟩ rfl ?_
   refine TA_done (by kernel_rfl) ?_ 0
   refine TX_next (TC_ret ?_)
   obtain rfl:=sj H
   exact TX2
end Go.Proofs
end

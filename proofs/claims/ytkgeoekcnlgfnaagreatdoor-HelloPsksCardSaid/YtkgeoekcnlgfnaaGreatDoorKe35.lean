/-
  Part 35 of the proof of what several laws share.
-/
import Derived.SizedLaws
import Derived.ChangeSlices
import Derived.SliceStrings
import Derived.WideShapes
import Derived.ChangeShapes
import Derived.Test.YtkgeoekcnlgfnaaGreatDoorKe1
import Derived.Test.YtkgeoekcnlgfnaaGreatDoorKe2
import Derived.Test.YtkgeoekcnlgfnaaGreatDoorKe3
import Derived.Test.YtkgeoekcnlgfnaaGreatDoorKe4
import Derived.Test.YtkgeoekcnlgfnaaGreatDoorKe5
import Derived.Test.YtkgeoekcnlgfnaaGreatDoorKe6
import Derived.Test.YtkgeoekcnlgfnaaGreatDoorKe7
import Derived.Test.YtkgeoekcnlgfnaaGreatDoorKe8
import Derived.Test.YtkgeoekcnlgfnaaGreatDoorKe9
import Derived.Test.YtkgeoekcnlgfnaaGreatDoorKe10
import Derived.Test.YtkgeoekcnlgfnaaGreatDoorKe11
import Derived.Test.YtkgeoekcnlgfnaaGreatDoorKe12
import Derived.Test.YtkgeoekcnlgfnaaGreatDoorKe13
import Derived.Test.YtkgeoekcnlgfnaaGreatDoorKe14
import Derived.Test.YtkgeoekcnlgfnaaGreatDoorKe15
import Derived.Test.YtkgeoekcnlgfnaaGreatDoorKe16
import Derived.Test.YtkgeoekcnlgfnaaGreatDoorKe17
import Derived.Test.YtkgeoekcnlgfnaaGreatDoorKe18
import Derived.Test.YtkgeoekcnlgfnaaGreatDoorKe19
import Derived.Test.YtkgeoekcnlgfnaaGreatDoorKe20
import Derived.Test.YtkgeoekcnlgfnaaGreatDoorKe21
import Derived.Test.YtkgeoekcnlgfnaaGreatDoorKe22
import Derived.Test.YtkgeoekcnlgfnaaGreatDoorKe23
import Derived.Test.YtkgeoekcnlgfnaaGreatDoorKe24
import Derived.Test.YtkgeoekcnlgfnaaGreatDoorKe25
import Derived.Test.YtkgeoekcnlgfnaaGreatDoorKe26
import Derived.Test.YtkgeoekcnlgfnaaGreatDoorKe27
import Derived.Test.YtkgeoekcnlgfnaaGreatDoorKe28
import Derived.Test.YtkgeoekcnlgfnaaGreatDoorKe29
import Derived.Test.YtkgeoekcnlgfnaaGreatDoorKe30
import Derived.Test.YtkgeoekcnlgfnaaGreatDoorKe31
import Derived.Test.YtkgeoekcnlgfnaaGreatDoorKe32
import Derived.Test.YtkgeoekcnlgfnaaGreatDoorKe33
import Derived.Test.YtkgeoekcnlgfnaaGreatDoorKe34
set_option linter.unusedVariables false
set_option linter.unusedSimpArgs false
section
namespace Go.Proofs
open Go Go.Kx
theorem mask20 (x:Int):iop (· &&& ·) x 1048575=x % 1048576:=and_mask x 20 (by decide)
theorem fi9a:hello_first [4867,4865] [4865]=some (4865,true):=by kernel_rfl
theorem fi9b:hello_first [23,29] [29]=some (29,true):=by kernel_rfl
theorem co9a:slices_Contains___int_int_ [772] 772=some true:=by kernel_rfl
theorem co9b:slices_Contains___int_int_ [0,1] 1=some true:=by kernel_rfl
theorem co9c:slices_Contains___int_int_ [0] 1=some false:=by kernel_rfl
theorem co9d:slices_Contains___int_int_ [1027] 1027=some true:=by kernel_rfl
theorem lo9:loop (hello_asking_shares.b0 [29] [(29,[107#8])] [] false (29,true)) BIG 0=some (.inl ()):=by kernel_rfl
theorem May9 {sl:Str} (h:sl.length=32 ∨ sl=[]):hello_May true [4867,4865] [23,29] [[99#8]] keyS [] [] 0 sl [] [] 700000 0 10 33290=some true:=by
 rw [May_srv e44S e45S ce1 fi1 (by decide)]
 have hj:(decide (sl.length=32) || decide (sl=[]∧(0:Int)=0))=true:=by
  rcases h with h | h
  ·simp [h]
  ·simp [h]
 rw [hj]; rfl
theorem off9 {sl:Str} {Sc M:List Int} {s:Str} {n:Int}:hello_asking_offers true [4867,4865] [23,29] [[99#8]] keyS [] [] 0 sl [] [] 700000 0 10 33290 1 (nl 32) [] [4865] [] [772] [29] Sc M [(29,[107#8])] [(s,n)] [nl 32] 0 [] [] 0 [] 0 0 [] 0 false 0 0 0 [] false false 0=some (-1,4865):=by
 unfold hello_asking_offers
 exact bind_i fi9a (bind_i co9a (if_n (by decide) (if_n (by decide) (bind_i (v:=false) (if_n (by decide) rfl) rfl))))
theorem sha9 {sl:Str} {Sc M:List Int} {s:Str} {n:Int}:hello_asking_shares true [4867,4865] [23,29] [[99#8]] keyS [] [] 0 sl [] [] 700000 0 10 33290 1 (nl 32) [] [4865] [] [772] [29] Sc M [(29,[107#8])] [(s,n)] [nl 32] 0 [] [] 0 [] 0 0 [] 0 false 0 4865 0 [] false false 0=some (-1,29,[107#8],false):=by
 unfold hello_asking_shares
 refine bind_i fi9b (if_n (by decide) (bind_i lo9 (if_n (by decide) (bind_i (v:=0) ?_ rfl))))
 unfold slices_IndexFunc___api_Share_api_Share__fn1_66
 refine bind_i (v := .inr 0) (loop_fn (fun _=>(0:Int)) 0 _ (by decide) rfl (fun j hj=>by omega) ?_) rfl
 unfold slices_IndexFunc___api_Share_api_Share__fn1_66.b0
 refine if_i (by decide) (if_i (by decide) (bind_i (v:=true) ?_ rfl))
 unfold hello_asking_shares_2
 rfl
theorem ope9 {sl:Str} {Sc M:List Int} {s:Str} {n:Int} {su:Int} {sec:Str} {mk ad e:Int} (hM:slices_Contains___int_int_ M 1=some true) (ho:openT sl s=(su,sec,mk,ad,e)) (h1:0≤mk) (h2:mk≤4294967295) :
  hello_Opened true [4867,4865] [23,29] [[99#8]] keyS [] [] 0 sl [] [] 700000 0 10 33290 1 (nl 32) [] [4865] [] [772] [29] Sc M [(29,[107#8])] [(s,n)] [nl 32] 0 [] [] 0 [] 0 0 [] 0 4865=some (su,sec,mk,ad,decide (e=0∧su=4865∧mk≤700000∧700000 - mk≤604800)):=by
 unfold hello_Opened
 refine bind_i (v:=false) (if_n (by simp) (bind_i hM rfl)) (if_n (by decide) (if_i (by simp) (bind_i ((OpenT_eq sl s).trans (congrArg some ho)) ?_)))
 have hw:w64 (700000 - mk)=700000 - mk:=w64_id (by omega) (by omega)
 show (if e=0 then (if su=4865 then (if mk≤700000 then (ltt (decide ((w64 (700000 - mk))≤604800)) fun (x1:Bool)=>(some (su,sec,mk,ad,x1))) else (some (su,sec,mk,ad,false))) else (some (su,sec,mk,ad,false))) else (some (su,sec,mk,ad,false)))=_
 rw [hw]
 clear hw
 by_cases a:e=0
 ·by_cases b:su=4865
  ·by_cases c:mk≤700000
   ·rw [if_pos a,if_pos b,if_pos c]; simp [ltt,a,b,c]
   ·rw [if_pos a,if_pos b,if_neg c]; simp [c]
  ·rw [if_pos a,if_neg b]; simp [b]
 ·rw [if_neg a]; simp [a]
theorem pro9a {sl:Str} {Sc M:List Int} {s:Str} {n:Int} {a1:Int} {a2:Str} {a3 a4:Int} (hm:M ≠ []) (h:hello_Opened true [4867,4865] [23,29] [[99#8]] keyS [] [] 0 sl [] [] 700000 0 10 33290 1 (nl 32) [] [4865] [] [772] [29] Sc M [(29,[107#8])] [(s,n)] [nl 32] 0 [] [] 0 [] 0 0 [] 0 4865=some (a1,a2,a3,a4,true)):hello_asking_proof true [4867,4865] [23,29] [[99#8]] keyS [] [] 0 sl [] [] 700000 0 10 33290 1 (nl 32) [] [4865] [] [772] [29] Sc M [(29,[107#8])] [(s,n)] [nl 32] 0 [] [] 0 [] 0 0 [] 0 false 0 4865 29 [107#8] false false 0=some (-1,true):=by
 unfold hello_asking_proof
 refine if_n (by decide) (bind_i (v:=false) (if_i (by simp) (congrArg some (decide_eq_false (by simpa using hm)))) (if_n (by decide) (bind_i h ?_)))
 rfl
theorem pro9b {sl:Str} {Sc M:List Int} {s:Str} {n:Int} {a1:Int} {a2:Str} {a3 a4:Int} (hm:M ≠ []) (hs:Sc=[]) (h:hello_Opened true [4867,4865] [23,29] [[99#8]] keyS [] [] 0 sl [] [] 700000 0 10 33290 1 (nl 32) [] [4865] [] [772] [29] Sc M [(29,[107#8])] [(s,n)] [nl 32] 0 [] [] 0 [] 0 0 [] 0 4865=some (a1,a2,a3,a4,false)):hello_asking_proof true [4867,4865] [23,29] [[99#8]] keyS [] [] 0 sl [] [] 700000 0 10 33290 1 (nl 32) [] [4865] [] [772] [29] Sc M [(29,[107#8])] [(s,n)] [nl 32] 0 [] [] 0 [] 0 0 [] 0 false 0 4865 29 [107#8] false false 0=some (109,false):=by
 subst hs
 unfold hello_asking_proof
 refine if_n (by decide) (bind_i (v:=false) (if_i (by simp) (congrArg some (decide_eq_false (by simpa using hm)))) (if_n (by decide) (bind_i h ?_)))
 rfl
theorem pro9c {sl:Str} {Sc M:List Int} {s:Str} {n:Int} {a1:Int} {a2:Str} {a3 a4:Int} (hm:M ≠ []) (hs:Sc=[1027]) (h:hello_Opened true [4867,4865] [23,29] [[99#8]] keyS [] [] 0 sl [] [] 700000 0 10 33290 1 (nl 32) [] [4865] [] [772] [29] Sc M [(29,[107#8])] [(s,n)] [nl 32] 0 [] [] 0 [] 0 0 [] 0 4865=some (a1,a2,a3,a4,false)):hello_asking_proof true [4867,4865] [23,29] [[99#8]] keyS [] [] 0 sl [] [] 700000 0 10 33290 1 (nl 32) [] [4865] [] [772] [29] Sc M [(29,[107#8])] [(s,n)] [nl 32] 0 [] [] 0 [] 0 0 [] 0 false 0 4865 29 [107#8] false false 0=some (-1,false):=by
 subst hs
 unfold hello_asking_proof
 refine if_n (by decide) (bind_i (v:=false) (if_i (by simp) (congrArg some (decide_eq_false (by simpa using hm)))) (if_n (by decide) (bind_i h ?_)))
 exact if_n (by simp) (ltt_i fun x hx=>by subst hx; exact if_n (by decide) (bind_i co9d rfl))
theorem pro9d {sl:Str} {s:Str} {n:Int}:hello_asking_proof true [4867,4865] [23,29] [[99#8]] keyS [] [] 0 sl [] [] 700000 0 10 33290 1 (nl 32) [] [4865] [] [772] [29] [] [] [(29,[107#8])] [(s,n)] [nl 32] 0 [] [] 0 [] 0 0 [] 0 false 0 4865 29 [107#8] false false 0=some (109,false):=by
 unfold hello_asking_proof
 exact if_n (by decide) (bind_i (v:=true) (if_i (by simp) rfl) (if_i rfl rfl))
theorem ope9n {sl:Str} {Sc:List Int} {s:Str} {n:Int}:hello_Opened true [4867,4865] [23,29] [[99#8]] keyS [] [] 0 sl [] [] 700000 0 10 33290 1 (nl 32) [] [4865] [] [772] [29] Sc [0] [(29,[107#8])] [(s,n)] [nl 32] 0 [] [] 0 [] 0 0 [] 0 4865=some (0,[],0,0,false):=by
 unfold hello_Opened
 exact bind_i (v:=true) (if_n (by simp) (bind_i co9c rfl)) (if_i rfl rfl)
theorem cho9 {sl:Str} {Sc M:List Int} {s:Str} {n:Int} {p:Int × Bool} (hs:sl.length=32 ∨ sl=[]) (h:hello_asking_proof true [4867,4865] [23,29] [[99#8]] keyS [] [] 0 sl [] [] 700000 0 10 33290 1 (nl 32) [] [4865] [] [772] [29] Sc M [(29,[107#8])] [(s,n)] [nl 32] 0 [] [] 0 [] 0 0 [] 0 false 0 4865 29 [107#8] false false 0=some p) :
  hello_Choose true [4867,4865] [23,29] [[99#8]] keyS [] [] 0 sl [] [] 700000 0 10 33290 1 (nl 32) [] [4865] [] [772] [29] Sc M [(29,[107#8])] [(s,n)] [nl 32] 0 [] [] 0 [] 0 0 [] 0 false 0=some (if p.1 ≠ (-1) then (0,0,[],false,false,p.1) else (4865,29,[107#8],false,p.2, -1)):=by
 unfold hello_Choose
 refine bind_i (May9 hs) (bind_i (v:=false) rfl (if_n (by decide) (bind_i off9 (if_n (by decide) (bind_i sha9 (if_n (by decide) (bind_i h ?_)))))))
 by_cases q:p.1 ≠ (-1)
 ·rw [if_pos q,if_pos q]
 ·rw [if_neg q,if_neg q]
def non:Str:=[110#8]++nl 11
theorem non_len:non.length=12:=rfl
theorem nl_ok {mk:Int} (h1:0≤mk) (h2:mk<4294967296) {su:Int} (hs:su=4865 ∨ su=4867):okT su (nl 32) mk 0:=by
 refine ⟨?_,?_,⟨h1,h2⟩,⟨by decide,by decide⟩⟩
 ·rcases hs with h | h
  ·exact .inl h
  ·exact .inr (.inr h)
 ·rw [nl_length]; rcases hs with h | h <;> (rw [h]; rfl)
theorem sea9 {mk:Int} (h1:0≤mk) (h2:mk<4294967296) {su:Int} (hs:su=4865 ∨ su=4867) : ∃ s,halberdref19_SealTicket (nl 32) non su (nl 32) mk 0=some (s,0)∧openT (nl 32) s=(su,nl 32,mk,0,0):=by
 have ho:=nl_ok h1 h2 hs
 have e:=open_sealT ho (nl_length 32) non_len
 refine ⟨(sealT (nl 32) non su (nl 32) mk 0).1,?_,e⟩
 rw [SealTR_eq,sealT_pos ⟨ho,nl_length 32,non_len⟩]
theorem mod6 (x:BitVec 64):x % 6#64=1#64 ∨ x % 6#64=2#64 ∨ x % 6#64=3#64 ∨ x % 6#64=4#64 ∨ x % 6#64=5#64 ∨ x % 6#64=0#64:=by
 have h:(x % 6#64).toNat<6:=by rw [BitVec.toNat_umod]; exact Nat.mod_lt _ (by decide)
 generalize x % 6#64=u at h
 have e:u=BitVec.ofNat 64 u.toNat:=by simp
 rw [e]
 generalize u.toNat=n at h
 match n,h with
 | 0,_=>exact .inr (.inr (.inr (.inr (.inr rfl))))
 | 1,_=>exact .inl rfl
 | 2,_=>exact .inr (.inl rfl)
 | 3,_=>exact .inr (.inr (.inl rfl))
 | 4,_=>exact .inr (.inr (.inr (.inl rfl)))
 | 5,_=>exact .inr (.inr (.inr (.inr (.inl rfl))))
theorem z24n : ∀ {α:Type} {f:Str → Option α} {r:Option α},f (nl 32)=r → (halberdlaw24_z 32).bind f=r:=fun h=>bind_i (z24_eq 32 (by decide)) h
theorem z24m : ∀ {α:Type} {f:Str → Option α} {r:Option α},f (nl 11)=r → (halberdlaw24_z 11).bind f=r:=fun h=>bind_i (z24_eq 11 (by decide)) h
theorem HelloPsks_true (which made:Int) (seed:Str):halberdlaw24_HelloPsks which made seed=some true:=by
 unfold halberdlaw24_HelloPsks
 refine bind_i awake24 (if_n (by decide) (bind_i Server24 (z24n (z24n (z24n (z24n ?_))))))
 generalize (seed.length:Int)=n
 have h1:0≤iop (· &&& ·) made 1048575:=by rw [mask20]; exact Int.emod_nonneg _ (by decide)
 have h2:iop (· &&& ·) made 1048575<1048576:=by rw [mask20]; exact Int.emod_lt_of_pos made (by decide)
 obtain ⟨x2,hx2⟩ : ∃ x2,x2=iop (· &&& ·) made 1048575:=⟨_,rfl⟩
 rw [← hx2] at h1 h2 ⊢
 clear hx2
 rcases mod6 (BitVec.ofInt 64 which) with h | h | h | h | h | h <;> rw [h] <;> clear h which <;> refine ltt_i fun y hy=>?_ <;> subst hy
 ·refine bind_i (v:=(decide (x2≤700000∧700000 - x2≤604800),109,nl 32,[],[0,1],4865,x2)) ?_ ?_
  ·have hw:w64 (700000 - x2)=700000 - x2:=w64_id (by omega) (by omega)
   refine if_i (by decide) (ltt_i fun y hy=>?_)
   rw [hy,hw]
   clear hy
   by_cases c:x2≤700000
   ·rw [if_pos c]; simp [ltt,c]
   ·rw [if_neg c]; simp [c]
  ·obtain ⟨s,hs,ho⟩:=sea9 (mk:=x2) (su:=4865) h1 (by omega) (.inl rfl)
   refine z24n (z24m (if_i (by simp [nl]) (bind_i hs ?_)))
   have hop:=ope9 (Sc:=[]) (n:=n) co9b ho h1 (by omega)
   by_cases c:x2≤700000∧700000 - x2≤604800
   ·rw [decide_eq_true (p:=(0:Int)=0∧(4865:Int)=4865∧x2≤700000∧700000 - x2≤604800) ⟨rfl,rfl,c.1,c.2⟩] at hop
    refine bind_i (cho9 (.inl (nl_length 32)) (pro9a (by simp) hop)) ?_
    rw [decide_eq_true c]
    rfl
   ·rw [decide_eq_false (p:=(0:Int)=0∧(4865:Int)=4865∧x2≤700000∧700000 - x2≤604800) (fun q=>c ⟨q.2.2.1,q.2.2.2⟩)] at hop
    refine bind_i (cho9 (.inl (nl_length 32)) (pro9b (by simp) rfl hop)) ?_
    rw [decide_eq_false c]
    rfl
 ·refine bind_i (v:=(false,109,nl 32,[],[0,1],4867,690000)) ?_ ?_
  ·refine if_n (by decide) ?_
   refine ltt_i fun y hy=>?_
   subst hy
   refine if_i (by decide) ?_
   rfl
  ·obtain ⟨s,hs,ho⟩:=sea9 (mk:=690000) (su:=4867) (by decide) (by decide) (.inr rfl)
   refine z24n (z24m (if_i (by simp [nl]) (bind_i hs ?_)))
   exact bind_i (cho9 (.inl (nl_length 32)) (pro9b (by simp) rfl (ope9 (Sc:=[]) (n:=n) co9b ho (by decide) (by decide)))) rfl
 ·refine bind_i (v:=(false,109,nl 32,[],[0],4865,690000)) ?_ ?_
  ·refine if_n (by decide) ?_
   refine ltt_i fun y hy=>?_
   subst hy
   refine if_n (by decide) ?_
   refine ltt_i fun y hy=>?_
   subst hy
   refine if_i (by decide) ?_
   rfl
  ·obtain ⟨s,hs,ho⟩:=sea9 (mk:=690000) (su:=4865) (by decide) (by decide) (.inl rfl)
   refine z24n (z24m (if_i (by simp [nl]) (bind_i hs ?_)))
   exact bind_i (cho9 (.inl (nl_length 32)) (pro9b (by simp) rfl ope9n)) rfl
 ·refine bind_i (v:=(false,109,nl 32,[],[],4865,690000)) ?_ ?_
  ·refine if_n (by decide) ?_
   refine ltt_i fun y hy=>?_
   subst hy
   refine if_n (by decide) ?_
   refine ltt_i fun y hy=>?_
   subst hy
   refine if_n (by decide) ?_
   refine ltt_i fun y hy=>?_
   subst hy
   refine if_i (by decide) ?_
   rfl
  ·obtain ⟨s,hs,ho⟩:=sea9 (mk:=690000) (su:=4865) (by decide) (by decide) (.inl rfl)
   refine z24n (z24m (if_i (by simp [nl]) (bind_i hs ?_)))
   exact bind_i (cho9 (.inl (nl_length 32)) pro9d) rfl
 ·refine bind_i (v:=(false, -1,[],[1027],[0,1],4865,690000)) ?_ ?_
  ·refine if_n (by decide) ?_
   refine ltt_i fun y hy=>?_
   subst hy
   refine if_n (by decide) ?_
   refine ltt_i fun y hy=>?_
   subst hy
   refine if_n (by decide) ?_
   refine ltt_i fun y hy=>?_
   subst hy
   refine if_n (by decide) ?_
   refine ltt_i fun y hy=>?_
   subst hy
   refine if_i (by decide) ?_
   rfl
  ·obtain ⟨s,hs,ho⟩:=sea9 (mk:=690000) (su:=4865) (by decide) (by decide) (.inl rfl)
   refine z24n (z24m (if_i (by simp [nl]) (bind_i hs ?_)))
   have hop:openT [] s=noT 2000:=if_pos (by decide)
   exact bind_i (cho9 (.inr rfl) (pro9c (by simp) rfl (ope9 (n:=n) co9b hop (by decide) (by decide)))) rfl
 ·refine bind_i (v:=(true,109,nl 32,[],[0,1],4865,690000)) ?_ ?_
  ·refine if_n (by decide) ?_
   refine ltt_i fun y hy=>?_
   subst hy
   refine if_n (by decide) ?_
   refine ltt_i fun y hy=>?_
   subst hy
   refine if_n (by decide) ?_
   refine ltt_i fun y hy=>?_
   subst hy
   refine if_n (by decide) ?_
   refine ltt_i fun y hy=>?_
   subst hy
   refine if_n (by decide) ?_
   rfl
  ·obtain ⟨s,hs,ho⟩:=sea9 (mk:=690000) (su:=4865) (by decide) (by decide) (.inl rfl)
   refine z24n (z24m (if_i (by simp [nl]) (bind_i hs ?_)))
   exact bind_i (cho9 (.inl (nl_length 32)) (pro9a (by simp) (ope9 (Sc:=[]) (n:=n) co9b ho (by decide) (by decide)))) rfl
end Go.Proofs
end

section
namespace Go.Kx
open Go Go.RowKit
def str (b:ByteArray):Str:=b.data.toList.map (·.toBitVec)
theorem vs_str (b:ByteArray):Value.string b=vs (str b):=by
 unfold vs bytes str
 congr 1
 apply ByteArray.ext
 have:(UInt8.ofBitVec ∘ fun x:UInt8=>x.toBitVec)=id:=by funext x; rfl
 simp [this]
theorem str_length (b:ByteArray):(str b).length=b.size:=by
 show (List.map _ b.data.toList).length=b.data.size
 rw [List.length_map,Array.length_toList]
end Go.Kx
end

section
namespace Go.Kx
open Go Go.RowKit Go.ChangeShapes Go.WideShapes
theorem Does.law2 {P:Program} {f:FuncId} {args:List Value} {Ro:Mem} (h:Does P f args [] Ro (Γ:=Unit) (fun _=>vb true) (fun _=>[])) (w:World) (hr : ∀ e ∈ Ro,Has w e) :
  Calls P f args.toArray w fun e w'=>e = .returned (.bool true)∧Below w.heap.size w w':=by
 refine (h w ⟨fun e he=>(List.not_mem_nil he).elim,List.Pairwise.nil⟩ hr (fun e he=>(List.not_mem_nil he).elim)).mono fun e w' ⟨_,he,hs⟩=>⟨he,hs.below⟩
theorem str_le {b:ByteArray} {n:Nat} (h:b.data.toList.length≤n):(str b).length≤n:=by
 rw [str_length]; simpa using h
section
variable {H:Type} {enc:TypeId × Value → H} {P:Program} {w:World} {base:Nat} {held:Bool} {t e:TypeId} {v:Value} {d:DataW H} {p:List MemPlace}
end
end Go.Kx
end

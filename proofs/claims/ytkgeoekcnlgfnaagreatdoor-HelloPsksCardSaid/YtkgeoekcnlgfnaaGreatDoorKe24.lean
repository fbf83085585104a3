/-
  Part 24 of the proof of what several laws share.
-/
import Derived.Test.YtkgeoekcnlgfnaaGreatDoorKe1
import Derived.Test.YtkgeoekcnlgfnaaGreatDoorKe2
import Derived.Test.YtkgeoekcnlgfnaaGreatDoorKe3
import Derived.Test.YtkgeoekcnlgfnaaGreatDoorKe4
import Derived.Test.YtkgeoekcnlgfnaaGreatDoorKe5
import Derived.Test.YtkgeoekcnlgfnaaGreatDoorKe6
import Derived.Test.YtkgeoekcnlgfnaaGreatDoorKe7
import Derived.Test.YtkgeoekcnlgfnaaGreatDoorKe8
import Derived.Test.YtkgeoekcnlgfnaaGreatDoorKe9
import Derived.Test.YtkgeoekcnlgfnaaGreatDoorKe10
import Derived.Test.YtkgeoekcnlgfnaaGreatDoorKe11
import Derived.Test.YtkgeoekcnlgfnaaGreatDoorKe12
import Derived.Test.YtkgeoekcnlgfnaaGreatDoorKe13
import Derived.Test.YtkgeoekcnlgfnaaGreatDoorKe14
import Derived.Test.YtkgeoekcnlgfnaaGreatDoorKe15
import Derived.Test.YtkgeoekcnlgfnaaGreatDoorKe16
import Derived.Test.YtkgeoekcnlgfnaaGreatDoorKe17
import Derived.Test.YtkgeoekcnlgfnaaGreatDoorKe18
import Derived.Test.YtkgeoekcnlgfnaaGreatDoorKe19
import Derived.Test.YtkgeoekcnlgfnaaGreatDoorKe20
import Derived.Test.YtkgeoekcnlgfnaaGreatDoorKe21
import Derived.Test.YtkgeoekcnlgfnaaGreatDoorKe22
import Derived.Test.YtkgeoekcnlgfnaaGreatDoorKe23
set_option linter.unusedVariables false
set_option linter.unusedSimpArgs false
section
namespace Go.Proofs
open Go Go.Kx
open TryzI Tryz
def halberdlaw24_Server:Option (Str × List (Int) × List (Int) × List (Str) × List (Str) × (List (Str × Str × Int × Int × Int × Int))) :=
 (halberdlaw24_z 31).bind fun (r_1:Str)=>(if (r_1).length+(([107#8]:Str)).length≤4611686018427387904 then (some (r_1++([107#8]:Str),([4867,4865]:List (Int)),([23,29]:List (Int)),([([99#8]:Str)]:List (Str)),([]:List (Str)),([]:List (Str × Str × Int × Int × Int × Int)))) else none)
set_option maxHeartbeats 4000000 in
set_option maxRecDepth 20000 in
theorem F25_calls (r:Str × List (Int) × List (Int) × List (Str) × List (Str) × (List (Str × Str × Int × Int × Int × Int))) (H:halberdlaw24_Server=some r) :
  Does Tryz.prog 25 [] [] [] (Γ:=Nat × Nat × Nat × Adr × Adr) (fun g=>aG [(1,[vb true]),(1,[sl (some (g.1,0)) ((r.2.1).length) ((r.2.1++([]:List (Int))).length)]),(1,[sl (some (g.2.1,0)) ((r.2.2.1).length) ((r.2.2.1++([]:List (Int))).length)]),(1,[sl (some (g.2.2.1,0)) ((r.2.2.2.1).length) ((r.2.2.2.1++([]:List (Str))).length)]),(1,[vs r.1]),(1,[sl g.2.2.2.1 ((r.2.2.2.2.1).length) ((r.2.2.2.2.1++([]:List (Str))).length)]),(1,[vs ([]:Str)]),(1,[vi 0]),(1,[vs ([]:Str)]),(1,[sl g.2.2.2.2 ((r.2.2.2.2.2).length) ((r.2.2.2.2.2++([]:List (Str × Str × Int × Int × Int × Int))).length)]),(1,[vs ([]:Str)]),(1,[vi 1000]),(1,[vi 0]),(1,[vi 10]),(1,[vi 33290])]) (fun g=>[⟨some (g.1,0),eI (r.2.1++([]:List (Int)))⟩,⟨some (g.2.1,0),eI (r.2.2.1++([]:List (Int)))⟩,⟨some (g.2.2.1,0),eS (r.2.2.2.1++([]:List (Str)))⟩,⟨g.2.2.2.1,eS (r.2.2.2.2.1++([]:List (Str)))⟩,⟨g.2.2.2.2,eF (fun p:Str × Str × Int × Int × Int × Int=>[vs p.1,vs p.2.1,vi p.2.2.1,vi p.2.2.2.1,vi p.2.2.2.2.1,vi p.2.2.2.2.2]) (r.2.2.2.2.2++([]:List (Str × Str × Int × Int × Int × Int)))⟩]):=by
 intro w hmem hro hd
 refine calls_of (N:=7) (m0:=[]) func25 rfl ntmps25 (argM_ok []) rfl hmem hro hd ?_
 unfold halberdlaw24_Server at H
 refine TC_seq (TC_region (TLe (E_ap inf26 zer26) (fun b1=>?_)))
 refine TL_gen5 (Lf:=fun An1 An2 An3 An4 An5=>[⟨An5,eF (fun p:Str × Str × Int × Int × Int × Int=>[vs p.1,vs p.2.1,vi p.2.2.1,vi p.2.2.2.1,vi p.2.2.2.2.1,vi p.2.2.2.2.2]) (nP++nP)⟩,⟨An4,eS (nS++nS)⟩,⟨An3,eS (nS++nS)⟩,⟨An2,eI (nI++nI)⟩,⟨An1,eI (nI++nI)⟩,⟨some (b1,0),[vb false]⟩,⟨some (b1,1),[sl An1 ((nI).length) ((nI++nI).length)]⟩,⟨some (b1,2),[sl An2 ((nI).length) ((nI++nI).length)]⟩,⟨some (b1,3),[sl An3 ((nS).length) ((nS++nS).length)]⟩,⟨some (b1,4),[vs ([]:Str)]⟩,⟨some (b1,5),[sl An4 ((nS).length) ((nS++nS).length)]⟩,⟨some (b1,6),[vs ([]:Str)]⟩,⟨some (b1,7),[vi 0]⟩,⟨some (b1,8),[vs ([]:Str)]⟩,⟨some (b1,9),[sl An5 ((nP).length) ((nP++nP).length)]⟩,⟨some (b1,10),[vs ([]:Str)]⟩,⟨some (b1,11),[vi 0]⟩,⟨some (b1,12),[vi 0]⟩,⟨some (b1,13),[vi 0]⟩,⟨some (b1,14),[vi 0]⟩]) rfl (fun An1 An2 An3 An4 An5=>?_)
 refine TL_nil (TX_next (TC_seq (TC_region (TLe (E_buildSlice (pv:=[(0,vi 4867),(1,vi 4865)]) rfl rfl underlying22 inf3 (s:=1) rfl zer3 rfl rfl rfl (cs:=eI ([4867,4865]:List (Int))) (by kernel_rfl)) (fun b2=>?_)))))
 refine TLe (E_buildSlice (pv:=[(0,vi 23),(1,vi 29)]) rfl rfl underlying22 inf3 (s:=1) rfl zer3 rfl rfl rfl (cs:=eI ([23,29]:List (Int))) (by kernel_rfl)) (fun b3=>?_)
 refine TLe (E_buildSlice (pv:=[(0,vs ([99#8]:Str))]) rfl rfl underlying23 inf9 (s:=1) rfl zer9 rfl rfl rfl (cs:=eS ([([99#8]:Str)]:List (Str))) (by kernel_rfl)) (fun b4=>?_)
 obtain ⟨r_1,hr_1,H⟩:=bind_elim H
 refine TLe (E_c0 (F26_calls 31 r_1 hr_1) call26 .z) (fun g_1=>?_)
 obtain ⟨h1,H⟩:=if_elim H
 refine TLv (V_bin rfl rfl (fun w=>addS w r_1 ([107#8]:Str) h1)) ?_
 refine TLv (V_buildStruct (pv:=[(0,vb true),(1,sl (some (b2,0)) 2 2),(2,sl (some (b3,0)) 2 2),(3,sl (some (b4,0)) 1 1),(4,vs (r_1++([107#8]:Str))),(11,vi 1000),(13,vi 10),(14,vi 33290)]) (pl:=[(0,1),(1,1),(2,1),(3,1),(4,1),(5,1),(6,1),(7,1),(8,1),(9,1),(10,1),(11,1),(12,1),(13,1),(14,1)]) rfl rfl underlying26 inf26 places26 zer26 (cs:=flat [(1,[vb true]),(1,[sl (some (b2,0)) 2 2]),(1,[sl (some (b3,0)) 2 2]),(1,[sl (some (b4,0)) 1 1]),(1,[vs (r_1++([107#8]:Str))]),(1,[sl none 0 0]),(1,[vs ([]:Str)]),(1,[vi 0]),(1,[vs ([]:Str)]),(1,[sl none 0 0]),(1,[vs ([]:Str)]),(1,[vi 1000]),(1,[vi 0]),(1,[vi 10]),(1,[vi 33290])]) (by kernel_rfl)) ?_
 refine TLn (E_sq (b:=b1) (o:=0) (rp 15 8) [(1,_),(1,_),(1,_),(1,_),(1,_),(1,_),(1,_),(1,_),(1,_),(1,_),(1,_),(1,_),(1,_),(1,_),(1,_)] rfl inf26) (fun _=>?_)
 refine TL_gen2 (Lf:=fun An6 An7=>[⟨An7,eF (fun p:Str × Str × Int × Int × Int × Int=>[vs p.1,vs p.2.1,vi p.2.2.1,vi p.2.2.2.1,vi p.2.2.2.2.1,vi p.2.2.2.2.2]) (nP++nP)⟩,⟨An6,eS (nS++nS)⟩,⟨some (b1,0),[vb true]⟩,⟨some (b1,1),[sl (some (b2,0)) 2 2]⟩,⟨some (b1,2),[sl (some (b3,0)) 2 2]⟩,⟨some (b1,3),[sl (some (b4,0)) 1 1]⟩,⟨some (b1,4),[vs (r_1++([107#8]:Str))]⟩,⟨some (b1,5),[sl An6 ((nS).length) ((nS++nS).length)]⟩,⟨some (b1,6),[vs ([]:Str)]⟩,⟨some (b1,7),[vi 0]⟩,⟨some (b1,8),[vs ([]:Str)]⟩,⟨some (b1,9),[sl An7 ((nP).length) ((nP++nP).length)]⟩,⟨some (b1,10),[vs ([]:Str)]⟩,⟨some (b1,11),[vi 1000]⟩,⟨some (b1,12),[vi 0]⟩,⟨some (b1,13),[vi 10]⟩,⟨some (b1,14),[vi 33290]⟩,⟨some (b4,0),eS ([([99#8]:Str)]:List (Str))⟩,⟨some (b3,0),eI ([23,29]:List (Int))⟩,⟨some (b2,0),eI ([4867,4865]:List (Int))⟩,⟨An5,eF (fun p:Str × Str × Int × Int × Int × Int=>[vs p.1,vs p.2.1,vi p.2.2.1,vi p.2.2.2.1,vi p.2.2.2.2.1,vi p.2.2.2.2.2]) (nP++nP)⟩,⟨An4,eS (nS++nS)⟩,⟨An3,eS (nS++nS)⟩,⟨An2,eI (nI++nI)⟩,⟨An1,eI (nI++nI)⟩]) rfl (fun An6 An7=>?_)
 refine TL_reE (j:=19) (A:=some (b2,0)) (cs:=eI ([4867,4865]:List (Int))) (cs':=eI (([4867,4865]:List (Int))++nI)) rfl (congrArg (eI) (List.append_nil _).symm) ?_
 refine TL_reE (j:=3) (A:=some (b1,1)) (cs:=[sl (some (b2,0)) 2 2]) (cs':=[sl (some (b2,0)) ((([4867,4865]:List (Int))).length) ((([4867,4865]:List (Int))++nI).length)]) rfl (congrArg (fun z=>[z]) (sl_row rfl)) ?_
 refine TL_reE (j:=18) (A:=some (b3,0)) (cs:=eI ([23,29]:List (Int))) (cs':=eI (([23,29]:List (Int))++nI)) rfl (congrArg (eI) (List.append_nil _).symm) ?_
 refine TL_reE (j:=4) (A:=some (b1,2)) (cs:=[sl (some (b3,0)) 2 2]) (cs':=[sl (some (b3,0)) ((([23,29]:List (Int))).length) ((([23,29]:List (Int))++nI).length)]) rfl (congrArg (fun z=>[z]) (sl_row rfl)) ?_
 refine TL_reE (j:=17) (A:=some (b4,0)) (cs:=eS ([([99#8]:Str)]:List (Str))) (cs':=eS (([([99#8]:Str)]:List (Str))++nS)) rfl (congrArg (eS) (List.append_nil _).symm) ?_
 refine TL_reE (j:=5) (A:=some (b1,3)) (cs:=[sl (some (b4,0)) 1 1]) (cs':=[sl (some (b4,0)) ((([([99#8]:Str)]:List (Str))).length) ((([([99#8]:Str)]:List (Str))++nS).length)]) rfl (congrArg (fun z=>[z]) (sl_row rfl)) ?_
 refine TL_nil (TX_next (TC.sub (m':=[(0,_)]) ⟨rfl,trivial⟩ ?_))
 refine TC.pull (is:=[2,2,17,2,15,2,13,2,2,1,1,1,1,1,0,0,0,0,0,0]) (L':=[_,_,_,_,_,_,_,_,_,_,_,_,_,_,_,_,_,_,_,_]) rfl ?_
 refine TC_ret ?_
 obtain rfl:=sj H
 exact TX_ret (rs:=[.cell 0 26]) (vs:=[aG [(1,[vb true]),(1,[sl (some (b2,0)) ((([4867,4865]:List (Int))).length) ((([4867,4865]:List (Int))++nI).length)]),(1,[sl (some (b3,0)) ((([23,29]:List (Int))).length) ((([23,29]:List (Int))++nI).length)]),(1,[sl (some (b4,0)) ((([([99#8]:Str)]:List (Str))).length) ((([([99#8]:Str)]:List (Str))++nS).length)]),(1,[vs (r_1++([107#8]:Str))]),(1,[sl An6 ((nS).length) ((nS++nS).length)]),(1,[vs ([]:Str)]),(1,[vi 0]),(1,[vs ([]:Str)]),(1,[sl An7 ((nP).length) ((nP++nP).length)]),(1,[vs ([]:Str)]),(1,[vi 1000]),(1,[vi 0]),(1,[vi 10]),(1,[vi 33290])]]) rfl ⟨(Res_lp (b:=b1) (o:=0) (n:=15) (ps:=[(1,_),(1,_),(1,_),(1,_),(1,_),(1,_),(1,_),(1,_),(1,_),(1,_),(1,_),(1,_),(1,_),(1,_),(1,_)]) ⟨.o 0, .o 1, .o 3, .o 5, .o 7, .o 8, .o 10, .o 11, .o 12, .o 13, .o 15, .o 16, .o 17, .o 18, .o 19,trivial⟩ isAgg26 inf26),trivial⟩ (fun w' hs'=>⟨(b2,b3,b4,An6,An7),rfl,Step.left (Step.pulled (is:=[2,3,4,6,10]) (A:=[⟨some (b2,0),eI (([4867,4865]:List (Int))++nI)⟩,⟨some (b3,0),eI (([23,29]:List (Int))++nI)⟩,⟨some (b4,0),eS (([([99#8]:Str)]:List (Str))++nS)⟩,⟨An6,eS (nS++nS)⟩,⟨An7,eF (fun p:Str × Str × Int × Int × Int × Int=>[vs p.1,vs p.2.1,vi p.2.2.1,vi p.2.2.2.1,vi p.2.2.2.2.1,vi p.2.2.2.2.2]) (nP++nP)⟩]) hs' rfl)⟩)
end Go.Proofs
end

section
namespace Go.Proofs
open Go Go.Kx
def nl (n:Nat):Str:=List.replicate n 0#8
theorem nl_length (n:Nat):(nl n).length=n:=by simp [nl]
def keyS:Str:=nl 31++[107#8]
theorem z24_eq (n:Nat) (h:n≤1000000):halberdlaw24_z (n:Int)=some (nl n):=by
 unfold halberdlaw24_z
 refine if_i (by omega) (if_i (by simp) (ltt_i fun z hz=>?_))
 rw [hz]; simp [nl]
theorem Server24:halberdlaw24_Server=some (keyS,[4867,4865],[23,29],[[99#8]],[],[]):=by
 unfold halberdlaw24_Server
 refine bind_i (z24_eq 31 (by decide)) (if_i (by decide) rfl)
set_option maxRecDepth 100000 in
theorem ScalS : ∃ v,pcurve_Scalar keyS=some (v,true):=by
 have h:(pcurve_Scalar keyS).map (·.2)=some true:=by kernel_rfl
 cases hx:pcurve_Scalar keyS with
 | none=>rw [hx] at h; cases h
 | some p=>rw [hx] at h; have h2:=Option.some.inj h; exact ⟨p.1,by rw [← h2]⟩
theorem hin_eq (x l m:Int):hello_in x l m=some (decide (l≤x∧x≤m)):=by
 unfold hello_in ltt
 by_cases h:l≤x
 ·rw [if_pos h]; simp [h]
 ·rw [if_neg h]; simp [h]
def inB (x l m:Int):Bool:=decide (l≤x∧x≤m)
theorem May_cut {s:Bool} {S G:List Int} {ch:List Str} {key:Str} {ro:List Str} {nm:Str} {tk:Int} {seal_:Str} {psk:List (Str × Str × Int × Int × Int × Int)} {tape:Str} {clock pad limit ring:Int} {b1 b2:Bool}
  (h1:hello_each_fn2_44 S 3=some b1) (h2:hello_each_fn2_45 G 2=some b2) :
  hello_May s S G ch key ro nm tk seal_ psk tape clock pad limit ring=if (b1 && b2 && inB clock 0 4294967295 && inB pad 0 16384 && inB limit 4 16777216 && inB ring 33290 262144 && decide (tape.length≤65536))=true then
   (if s=true then hello_server s S G ch key ro nm tk seal_ psk tape clock pad limit ring else hello_client s S G ch key ro nm tk seal_ psk tape clock pad limit ring) else some false:=by
 unfold hello_May
 rw [h1]
 have e (o:Option Bool):(o.bind fun r=>some r)=o:=by cases o <;> rfl
 have hb : ∀ (c:Bool) (X Y:Option Bool),(some (!c)).bind (fun j=>if j=true then X else Y)=if c=true then Y else X:=by intro c X Y; cases c <;> rfl
 have hkey:((if (!b1)=true then (some true) else ((hello_each_fn2_45 G 2).bind fun (r_4:Bool)=>(if (!r_4)=true then (some true) else ((hello_in clock 0 4294967295).bind fun (r_5:Bool)=>(if (!r_5)=true then (some true) else ((hello_in pad 0 16384).bind fun (r_6:Bool)=>(if (!r_6)=true then (some true) else ((hello_in limit 4 16777216).bind fun (r_7:Bool)=>(if (!r_7)=true then (some true) else ((hello_in ring 33290 262144).bind fun (r_8:Bool)=>(if (!r_8)=true then (some true) else (some (decide (65536<((tape).length:Int))))))))))))))))=some (!(b1 && b2 && inB clock 0 4294967295 && inB pad 0 16384 && inB limit 4 16777216 && inB ring 33290 262144 && decide (tape.length≤65536))):=by
  rw [h2]
  simp only [hin_eq,Option.bind_some]
  have ht:decide (65536<(tape.length:Int)) = !decide (tape.length≤65536):=by
   by_cases c:tape.length≤65536
   ·rw [decide_eq_true c,decide_eq_false (by omega)]; rfl
   ·rw [decide_eq_false c,decide_eq_true (by omega)]; rfl
  rw [ht]
  show _=some (!(b1 && b2 && inB clock 0 4294967295 && inB pad 0 16384 && inB limit 4 16777216 && inB ring 33290 262144 && decide (tape.length≤65536)))
  change (if (!b1)=true then some true else if (!b2)=true then some true else if (!inB clock 0 4294967295)=true then some true else if (!inB pad 0 16384)=true then some true else if (!inB limit 4 16777216)=true then some true else if (!inB ring 33290 262144)=true then some true else some (!decide (tape.length≤65536)))=_
  generalize inB clock 0 4294967295=x1
  generalize inB pad 0 16384=x2
  generalize inB limit 4 16777216=x3
  generalize inB ring 33290 262144=x4
  generalize decide (tape.length≤65536)=x5
  cases b1 <;> cases b2 <;> cases x1 <;> cases x2 <;> cases x3 <;> cases x4 <;> cases x5 <;> rfl
 rw [Option.bind_some,hkey,hb]
 simp only [e]
theorem e44S:hello_each_fn2_44 [4867,4865] 3=some true:=by kernel_rfl
theorem e45S:hello_each_fn2_45 [23,29] 2=some true:=by kernel_rfl
theorem ce1:hello_certs [[99#8]] 1=some true:=by kernel_rfl
theorem fi1:hello_fits [[99#8]]=some true:=by kernel_rfl
theorem srv_eq {s:Bool} {S G:List Int} {ch ro:List Str} {tk:Int} {sl:Str} {tape:Str} {clock pad limit ring:Int} {b1 b2:Bool} (h1:hello_certs ch 1=some b1) (h2:hello_fits ch=some b2) (hr:ro.length<1000) :
  hello_server s S G ch keyS ro [] tk sl [] tape clock pad limit ring=some (b1 && b2 && (decide (sl.length=32) || decide (sl=[]∧tk=0)) && inB tk 0 8 && decide (ro.length=0)):=by
 obtain ⟨v,hv⟩:=ScalS
 unfold hello_server
 refine bind_i hv (bind_i (v:=(decide (sl.length=32) || decide (sl=[]∧tk=0))) ?_ (if_i rfl ?_))
 ·by_cases c:sl.length=32
  ·refine if_i (by omega) ?_; simp [c]
  ·refine if_n (by omega) ?_
   by_cases c2:sl=[]
   ·refine if_i c2 ?_
    simp [c2,ltt]
   ·refine if_n c2 ?_
    simp [c,c2]
 ·generalize (decide (sl.length=32) || decide (sl=[]∧tk=0))=j
  refine bind_i h1 ?_
  cases b1 with
  | false=>rfl
  | true =>
   refine if_i rfl (bind_i h2 ?_)
   cases b2 with
   | false=>rfl
   | true =>
    refine if_i rfl ?_
    cases j with
    | false=>rfl
    | true =>
     refine if_i rfl (bind_i (hin_eq tk 0 8) ?_)
     show (if inB tk 0 8=true then _ else _)=_
     cases inB tk 0 8 with
     | false=>rfl
     | true =>
      refine if_i rfl ?_
      by_cases c:ro.length=0
      ·refine if_i (by rw [c]; decide) ?_
       simp [c,ltt]
      ·refine if_n ?_ ?_
       ·have:w64 ((ro.length:Int)+(([]:List (Str × Str × Int × Int × Int × Int)).length:Int))=(ro.length:Int):=w64_id (by simp <;> omega) (by simp; omega)
        rw [this]; omega
       ·simp [c]
theorem May_srv {S G:List Int} {ch ro:List Str} {tk:Int} {sl:Str} {tape:Str} {clock pad limit ring:Int} {b1 b2 b3 b4:Bool} (h1:hello_each_fn2_44 S 3=some b1) (h2:hello_each_fn2_45 G 2=some b2) (h3:hello_certs ch 1=some b3) (h4:hello_fits ch=some b4) (hr:ro.length<1000) :
  hello_May true S G ch keyS ro [] tk sl [] tape clock pad limit ring=some (b1 && b2 && inB clock 0 4294967295 && inB pad 0 16384 && inB limit 4 16777216 && inB ring 33290 262144 && decide (tape.length≤65536) && (b3 && b4 && (decide (sl.length=32) || decide (sl=[]∧tk=0)) && inB tk 0 8 && decide (ro.length=0))):=by
 rw [May_cut h1 h2,srv_eq h3 h4 hr]
 split
 ·rename_i h; rw [h]; simp
 ·rename_i h; rw [Bool.not_eq_true] at h; rw [h]; simp
end Go.Proofs
end

section
namespace Go.Kx
open Go
variable {P:Program} {t e:TypeId} {x y:Operand}
inductive Lk where | i | s | b
inductive Lf where | i (a:Int) | s (a:Str) | b (a:Bool)
def Lf.v:Lf → Value
 | .i a=>vi a
 | .s a=>vs a
 | .b a=>vb a
def Lf.kind:Lf → Lk
 | .i _ => .i
 | .s _ => .s
 | .b _ => .b
def Lf.eq:Lf → Lf → Bool
 | .i p, .i q=>decide (p=q)
 | .s p, .s q=>decide (p=q)
 | .b p, .b q=>p == q
 | _,_=>false
def Lf.all:List Lf → List Lf → Bool
 | x :: r,y :: q=>Lf.eq x y && Lf.all r q
 | _,_=>true
def lkOk:Option TypeDesc → Lk → Bool
 | some (.int .i64), .i=>true
 | some .string, .s=>true
 | some .bool, .b=>true
 | _,_=>false
def fsOk (P:Program):List Field → Nat → List Lk → Bool
 | [],_,[]=>true
 | f :: fs,k,q :: r=>f.name != "_" && (Nat.beq f.offset k && (lkOk (P.underlying f.type) q && fsOk P fs (k+1) r))
 | _,_,_=>false
theorem lk_i {u:Option TypeDesc} (h:lkOk u .i=true):u=some (.int .i64):=by
 unfold lkOk at h; split at h <;> simp_all
theorem lk_s {u:Option TypeDesc} (h:lkOk u .s=true):u=some .string:=by
 unfold lkOk at h; split at h <;> simp_all
theorem lk_b {u:Option TypeDesc} (h:lkOk u .b=true):u=some .bool:=by
 unfold lkOk at h; split at h <;> simp_all
theorem lf_part (w:World) {cs:List Value} {off:Nat} {a:Lf} (ht:lkOk (P.underlying t) a.kind=true) (hv:cs[off]? = some a.v):(part t cs.toArray off).run P w = .ok a.v w:=by
 have hv':cs.toArray[off]? = some a.v:=by simpa using hv
 cases a
 ·simp [part,isAgg,Sem.run_bind,run_underlying (lk_i ht),hv']
 ·simp [part,isAgg,Sem.run_bind,run_underlying (lk_s ht),hv']
 ·simp [part,isAgg,Sem.run_bind,run_underlying (lk_b ht),hv']
theorem bytes_eq (a b:Str):(bytes a == bytes b)=decide (a=b):=by
 show ((bytes a).data == (bytes b).data)=_
 rw [Bool.eq_iff_iff,beq_iff_eq,decide_eq_true_eq]
 constructor
 ·intro h
  have h1:=eqS a b
  have h2:bytes a=bytes b:=by
   cases ha:bytes a; cases hb:bytes b
   rw [ha,hb] at h
   simp only at h
   rw [h]
  rw [h2] at h1
  simpa using h1.symm
 ·rintro rfl; rfl
theorem lf_eq (w:World) (d:Nat) (a b:Lf) (ht:lkOk (P.underlying t) a.kind=true) (hk:b.kind=a.kind):(Op.equalIn (d+1) t a.v b.v).run P w = .ok (Lf.eq a b) w:=by
 cases a
 ·cases b with
  | i b=>simp [Lf.v,Lf.eq,vi,Op.equalIn,Sem.run_bind,run_underlying (lk_i ht)]; rfl
  | s b=>exact absurd hk (by simp [Lf.kind])
  | b b=>exact absurd hk (by simp [Lf.kind])
 ·cases b with
  | s b=>simp [Lf.v,Lf.eq,vs,Op.equalIn,Sem.run_bind,run_underlying (lk_s ht),bytes_eq]
  | i b=>exact absurd hk (by simp [Lf.kind])
  | b b=>exact absurd hk (by simp [Lf.kind])
 ·cases b with
  | b b=>simp [Lf.v,Lf.eq,vb,Op.equalIn,Sem.run_bind,run_underlying (lk_b ht)]
  | s b=>exact absurd hk (by simp [Lf.kind])
  | i b=>exact absurd hk (by simp [Lf.kind])
theorem st_loop (w:World) (d:Nat) (cs ds:List Value) :
  ∀ (fs:List Field) (k:Nat) (xs ys:List Lf),fsOk P fs k (xs.map Lf.kind)=true → ys.map Lf.kind=xs.map Lf.kind → (∀ i v,xs[i]? = some v → cs[k+i]? = some v.v) → (∀ i v,ys[i]? = some v → ds[k+i]? = some v.v) →
  (forIn (m:=Sem) fs (none,PUnit.unit) (fun f (_:Option Bool × PUnit)=>do
   if f.name ≠ "_" then
    if !(← Op.equalIn (d+1) f.type (← part f.type cs.toArray f.offset) (← part f.type ds.toArray f.offset)) then pure (ForInStep.done (some false,PUnit.unit))
    else pure (ForInStep.yield (none,PUnit.unit))
   else pure (ForInStep.yield (none,PUnit.unit)))).run P w = .ok (if Lf.all xs ys then none else some false,PUnit.unit) w
 | [],_,xs,ys,hf,hk,_,_=>by
  cases xs with
  | nil=>simp [Sem.run,Lf.all]
  | cons x r=>simp [fsOk] at hf
 | f :: fs,k,xs,ys,hf,hk,hx,hy=>by
  cases xs with
  | nil=>simp [fsOk] at hf
  | cons a r =>
   cases ys with
   | nil=>simp at hk
   | cons b q =>
    simp only [List.map_cons,fsOk,Bool.and_eq_true,bne_iff_ne] at hf
    obtain ⟨hn,ho,hl,hr⟩:=hf
    simp only [List.map_cons,List.cons.injEq] at hk
    have ho:=Nat.eq_of_beq_eq_true ho
    have h1:=lf_part (P:=P) w hl (off:=f.offset) (cs:=cs) (by rw [ho]; exact hx 0 a rfl)
    have h2:=lf_part (P:=P) w (by rw [hk.1]; exact hl) (off:=f.offset) (cs:=ds) (a:=b) (t:=f.type) (by rw [ho]; exact hy 0 b rfl)
    have h3:=lf_eq (P:=P) w d a b hl hk.1
    have ih:=st_loop w d cs ds fs (k+1) r q hr hk.2 (fun i v h=>by rw [Nat.add_assoc,Nat.add_comm 1 i]; exact hx (i+1) v h) (fun i v h=>by rw [Nat.add_assoc,Nat.add_comm 1 i]; exact hy (i+1) v h)
    rw [List.forIn_cons]
    simp only [hn,ne_eq,not_false_eq_true,if_true,Sem.run_bind,h1,h2,h3,Result.andThen_ok]
    cases hb:Lf.eq a b
    ·have e0:Lf.all (a :: r) (b :: q)=false:=by simp [Lf.all,hb]
     rw [e0]; rfl
    ·have e0:Lf.all (a :: r) (b :: q)=Lf.all r q:=by simp [Lf.all,hb]
     rw [e0]; exact ih
theorem eqSt0 (w:World) (d:Nat) {fs:List Field} (ht:P.underlying t=some (.struct fs.toArray)) (hs:P.stoodInHeld t=false) (xs ys:List Lf) (hf:fsOk P fs 0 (xs.map Lf.kind)=true) (hk:ys.map Lf.kind=xs.map Lf.kind) :
  (Op.equalIn (d+2) t (.agg (xs.map Lf.v).toArray) (.agg (ys.map Lf.v).toArray)).run P w = .ok (Lf.all xs ys) w:=by
 have hl:=st_loop (P:=P) w d (xs.map Lf.v) (ys.map Lf.v) fs 0 xs ys hf hk (fun i v h=>by simp [h]) (fun i v h=>by simp [h])
 unfold Op.equalIn
 simp only [Sem.run_bind,run_underlying ht,Result.andThen_ok,run_program,hs,Bool.false_eq_true,if_false,List.forIn_toArray]
 refine (congrArg (fun r=>Result.andThen r _) hl).trans ?_
 simp only [Result.andThen_ok]
 cases Lf.all xs ys <;> simp [Sem.run]
theorem eqlSt (w:World) {fs:List Field} (ht:P.underlying t=some (.struct fs.toArray)) (hs:P.stoodInHeld t=false) (hg:P.eqGuardType P.depth t=false) (xs ys:List Lf) (hf:fsOk P fs 0 (xs.map Lf.kind)=true) (hk:ys.map Lf.kind=xs.map Lf.kind)
  {vx vy:Value} (hx:vx = .agg (xs.map Lf.v).toArray) (hy:vy = .agg (ys.map Lf.v).toArray):(binG .eql t x y vx vy).run P w = .ok (vb (Lf.all xs ys)) w:=hx ▸ hy ▸ binG_of w (guard_agg w hg) (by
 have h:=eqSt0 w 9998 ht hs xs ys hf hk
 show ((Op.equalIn (9998+2) t _ _) >>= fun r=>pure (Value.bool r)).run P w=_
 rw [Sem.run_bind,h]; simp [vb])
end Go.Kx
end

section
namespace Go.Proofs
open Go Go.Kx
open TryzI Tryz
def slices_Clone___int_int_ (s_:List (Int)):Option (List (Int)) :=
 if 0=(([]:List (Int))).length then (if (([]:List (Int))).length+(s_).length≤17592186044416 then (ltt (([]:List (Int))++s_) fun (l1:List (Int))=>(some l1)) else none) else none
set_option maxHeartbeats 4000000 in
set_option maxRecDepth 20000 in
theorem F39_calls (As_:Adr) (cs_:Nat) (s_:List (Int)) (hcs_:(s_).length≤cs_) (r:List (Int)) (H:slices_Clone___int_int_ s_=some r) :
  Does Tryz.prog 39 [sl As_ ((s_).length) cs_] [] [⟨As_,eI s_⟩] (Γ:=Adr × List (Int)) (fun g=>sl g.1 ((r).length) ((r++g.2).length)) (fun g=>[⟨g.1,eI (r++g.2)⟩]):=by
 intro w hmem hro hd
 refine calls_of (N:=8) (m0:=[(0,sl As_ ((s_).length) cs_)]) func39 rfl ntmps39 (argM_ok [sl As_ ((s_).length) cs_]) rfl hmem hro hd ?_
 unfold slices_Clone___int_int_ at H
 refine TC_nil (A:=As_) (cs:=eI s_) (.ro (j:=0) rfl) (fun hA hcs=>?_) (fun hA=>?_)
 ·have hs0:s_=[]:=nil_of hcs
  subst hA hs0
  replace H:some nI=some r:=H
  refine TC_seq (TC_region (TLe (E_nilS rfl (z:=eI (nI++nI)) rfl) (fun A1=>?_)))
  refine TL_nil (TX_next (TC_seq (TC_seq (TC_region (TVm ?_)))))
  refine TLv (V_bin rfl rfl (fun w=>eqlSlnn w underlying22)) ?_
  refine TL_nil (TX_next (TC_cond_t rfl ?_))
  refine TC_seq (TC_region (TLe (E_nilS rfl (z:=eI (nI++nI)) rfl) (fun A2=>?_)))
  refine TL_nil (TX_next (TC_ret (TX_then_ret ?_)))
  obtain rfl:=sj H
  exact TX_ret (rs:=[.tmp 2]) (vs:=[sl A2 ((nI).length) ((nI++nI).length)]) rfl ⟨rfl,trivial⟩ (fun w' hs'=>⟨(A2,nI),rfl,Step.left (Step.pulled (is:=[0]) (A:=[⟨A2,eI (nI++nI)⟩]) hs' rfl)⟩)
 ·skip
  refine TC_seq (TC_region (TLe (E_nilS rfl (z:=eI (nI++nI)) rfl) (fun A1=>?_)))
  refine TL_nil (TX_next (TC_seq (TC_seq (TC_region (TVm ?_)))))
  refine TLv (V_bin rfl rfl (fun w=>eqlSln w underlying22 hA)) ?_
  refine TL_nil (TX_next (TC_cond_f rfl ?_))
  refine TC_skip (TX_next (TC_seq (TC_region (TLe (E_buildSlice0 (cs:=eI nI) underlying22 inf3 rfl) (fun b1=>?_)))))
  refine TVm ?_
  obtain ⟨h1,H⟩:=if_elim H
  refine TL_reE (j:=0) (A:=some (b1,0)) (cs:=eI nI) (cs':=eI (nI++nI)) rfl (congrArg (eI) (List.append_nil _).symm) ?_
  refine TL_re (d:=5) (v:=sl (some (b1,0)) 0 0) (v':=sl (some (b1,0)) ((nI).length) ((nI++nI).length)) rfl (sl_row h1) ?_
  obtain ⟨h2,H⟩:=if_elim H
  obtain ⟨l1,hl1,H⟩:=ltt_elim H
  refine TLe (E_app1 (f:=vi) (j:=0) (l:=([]:List (Int))) (sp:=([]:List (Int))) (ds:=s_) (0:Int) (.r 0) rfl rfl rfl (fun _=>rfl) underlying22 underlying22 inf3 rfl zer3 (B':=8) rfl (by have:=h2; omega) (by have:=h2; omega) hl1) (fun q1=>?_)
  refine TVa ?_
  refine TL_nil (TX_next (TC_ret ?_))
  obtain rfl:=sj H
  exact TX_ret (rs:=[.tmp 2]) (vs:=[sl q1.1 ((l1).length) ((l1++q1.2).length)]) rfl ⟨rfl,trivial⟩ (fun w' hs'=>⟨(q1.1,q1.2),rfl,Step.left (Step.pulled (is:=[0]) (A:=[⟨q1.1,eI (l1++q1.2)⟩]) hs' rfl)⟩)
end Go.Proofs
end

section
namespace Go.Proofs
open Go Go.Kx
open TryzI Tryz
def hello_Counts (c_Server:Bool) (c_Suites:List (Int)) (c_Groups:List (Int)) (c_Chain:List (Str)) (c_Key:Str) (c_Roots:List (Str)) (c_Name:Str) (c_Tickets:Int) (c_Seal:Str) (c_Psk:List (Str × Str × Int × Int × Int × Int)) (c_Tape:Str) (c_Clock:Int) (c_Pad:Int) (c_Limit:Int) (c_Ring:Int):Option (Str × Str × Int × Int × Int × Int × Bool) :=
 if ((c_Psk).length:Int)=0 then (some (([]:Str),([]:Str),0,0,0,0,false)) else (if 0≤(0:Int)∧(0:Int)<((c_Psk).length:Int) then (if c_Clock<((lg c_Psk 0).2.2.2.2.1) then (some (([]:Str),([]:Str),0,0,0,0,false)) else (if 0≤(0:Int)∧(0:Int)<((c_Psk).length:Int) then (if 0≤(0:Int)∧(0:Int)<((c_Psk).length:Int) then (if ((lg c_Psk 0).2.2.2.2.2)<(w64 (c_Clock - ((lg c_Psk 0).2.2.2.2.1))) then (some (([]:Str),([]:Str),0,0,0,0,false)) else (if 0≤(0:Int)∧(0:Int)<((c_Psk).length:Int) then (some ((lg c_Psk 0).1,(lg c_Psk 0).2.1,(lg c_Psk 0).2.2.1,(lg c_Psk 0).2.2.2.1,(lg c_Psk 0).2.2.2.2.1,(lg c_Psk 0).2.2.2.2.2,true)) else none)) else none) else none)) else none)
set_option maxHeartbeats 4000000 in
set_option maxRecDepth 20000 in
theorem F40_calls (bc:Nat) (obc:Nat) (Ac_Suites:Adr) (cc_Suites:Nat) (Ac_Groups:Adr) (cc_Groups:Nat) (Ac_Chain:Adr) (cc_Chain:Nat) (Ac_Roots:Adr) (cc_Roots:Nat) (Ac_Psk:Adr) (cc_Psk:Nat) (c_Server:Bool) (c_Suites:List (Int)) (c_Groups:List (Int)) (c_Chain:List (Str)) (c_Key:Str) (c_Roots:List (Str)) (c_Name:Str) (c_Tickets:Int) (c_Seal:Str) (c_Psk:List (Str × Str × Int × Int × Int × Int)) (c_Tape:Str) (c_Clock:Int) (c_Pad:Int) (c_Limit:Int) (c_Ring:Int) (hcc_Suites:(c_Suites).length≤cc_Suites) (hcc_Groups:(c_Groups).length≤cc_Groups) (hcc_Chain:(c_Chain).length≤cc_Chain) (hcc_Roots:(c_Roots).length≤cc_Roots) (hcc_Psk:(c_Psk).length≤cc_Psk) (r:Str × Str × Int × Int × Int × Int × Bool) (H:hello_Counts c_Server c_Suites c_Groups c_Chain c_Key c_Roots c_Name c_Tickets c_Seal c_Psk c_Tape c_Clock c_Pad c_Limit c_Ring=some r) :
  Does Tryz.prog 40 [ptr (some (bc,obc)) 0] [] [⟨some (bc,obc),[vb c_Server]⟩,⟨some (bc,obc+1),[sl Ac_Suites ((c_Suites).length) cc_Suites]⟩,⟨some (bc,obc+2),[sl Ac_Groups ((c_Groups).length) cc_Groups]⟩,⟨some (bc,obc+3),[sl Ac_Chain ((c_Chain).length) cc_Chain]⟩,⟨some (bc,obc+4),[vs c_Key]⟩,⟨some (bc,obc+5),[sl Ac_Roots ((c_Roots).length) cc_Roots]⟩,⟨some (bc,obc+6),[vs c_Name]⟩,⟨some (bc,obc+7),[vi c_Tickets]⟩,⟨some (bc,obc+8),[vs c_Seal]⟩,⟨some (bc,obc+9),[sl Ac_Psk ((c_Psk).length) cc_Psk]⟩,⟨some (bc,obc+10),[vs c_Tape]⟩,⟨some (bc,obc+11),[vi c_Clock]⟩,⟨some (bc,obc+12),[vi c_Pad]⟩,⟨some (bc,obc+13),[vi c_Limit]⟩,⟨some (bc,obc+14),[vi c_Ring]⟩,⟨Ac_Suites,eI c_Suites⟩,⟨Ac_Groups,eI c_Groups⟩,⟨Ac_Chain,eS c_Chain⟩,⟨Ac_Roots,eS c_Roots⟩,⟨Ac_Psk,eF (fun p:Str × Str × Int × Int × Int × Int=>[vs p.1,vs p.2.1,vi p.2.2.1,vi p.2.2.2.1,vi p.2.2.2.2.1,vi p.2.2.2.2.2]) c_Psk⟩] (Γ:=Unit) (fun g=>Value.tuple [aG [(1,[vs r.1]),(1,[vs r.2.1]),(1,[vi r.2.2.1]),(1,[vi r.2.2.2.1]),(1,[vi r.2.2.2.2.1]),(1,[vi r.2.2.2.2.2.1])],vb r.2.2.2.2.2.2].toArray) (fun g=>[]):=by
 intro w hmem hro hd
 refine calls_of (N:=53) (m0:=[(0,ptr (some (bc,obc)) 0)]) func40 rfl ntmps40 (argM_ok [ptr (some (bc,obc)) 0]) rfl hmem hro hd ?_
 unfold hello_Counts at H
 refine TC_seq (TC_region (TLe (E_ap inf57 zer57) (fun b1=>?_)))
 refine TVa ?_
 refine TL_nil (TX_next (TC_seq (TC_seq (TC_em (decide (((c_Psk).length:Int)=0)) (fun hg1_7=>?_) (fun hg1_7=>?_)))))
 ·replace H:=ite_t (of_decide_eq_true hg1_7) H
  refine TA_begin [⟨some (b1,0),[vs ([]:Str)]⟩,⟨some (b1,1),[vs ([]:Str)]⟩,⟨some (b1,2),[vi 0]⟩,⟨some (b1,3),[vi 0]⟩,⟨some (b1,4),[vi 0]⟩,⟨some (b1,5),[vi 0]⟩] 42 (by kernel_rfl) (N:=42) rfl ?_
  refine TA_tk 0 [0,0,0,0,0,0] (dn 42 1) rfl rfl (V_move rfl) ?_
  refine TA_tk 1 [0,0,0,0,0,0] (dn 42 3) rfl rfl (V_nilCheck rfl) ?_
  refine TA_tk 2 [0,0,0,0,0,0] (dn 42 7) rfl rfl (V_fieldE rfl underlying26 rfl rfl inf24 rfl (v:=ptr (some (bc,obc+9)) 0) rfl) ?_
  refine TA_tk 3 [0,0,0,0,0,0] (dn 42 15) rfl rfl (V_load rfl (.r 9) rfl isAgg24) ?_
  refine TA_tk 4 [0,0,0,0,0,0] (dn 42 31) rfl rfl (V_len_slice rfl underlying24) ?_
  refine TA_tk 5 [0,0,0,0,0,0] (dn 42 63) rfl rfl (V_bin rfl rfl (fun w=>eqlI w ((c_Psk).length:Int) 0)) ?_
  refine TA_tk 6 [0,0,0,0,0,0] (dn 42 127) rfl rfl (V_move rfl) ?_
  refine TA_re (d:=10) (v:=vb (decide (((c_Psk).length:Int)=0))) (v':=vb true) rfl (congrArg vb hg1_7) ?_
  refine TA_ts 7 [0,0,0,0,0,0] (dn 42 255) rfl rfl ?_
  refine TA_ts 8 [0,0,0,0,0,0] (dn 42 511) rfl rfl ?_
  refine TA_ts 9 [0,0,0,0,0,0] (dn 42 1023) rfl rfl ?_
  refine TA_ts 10 [0,0,0,0,0,0] (dn 42 2047) rfl rfl ?_
  refine TA_ts 11 [0,0,0,0,0,0] (dn 42 4095) rfl rfl ?_
  refine TA_ts 12 [0,0,0,0,0,0] (dn 42 8191) rfl rfl ?_
  refine TA_ts 13 [0,0,0,0,0,0] (dn 42 16383) rfl rfl ?_
  refine TA_ts 14 [0,0,0,0,0,0] (dn 42 32767) rfl rfl ?_
  refine TA_ts 15 [0,0,0,0,0,0] (dn 42 65535) rfl rfl ?_
  refine TA_ts 16 [0,0,0,0,0,0] (dn 42 131071) rfl rfl ?_
  refine TA_ts 17 [0,0,0,0,0,0] (dn 42 262143) rfl rfl ?_
  refine TA_ts 18 [0,0,0,0,0,0] (dn 42 524287) rfl rfl ?_
  refine TA_tk 19 [0,0,0,0,0,0] (dn 42 1048575) rfl rfl (V_pick (b:=true) rfl rfl) ?_
  refine TA_tk 20 [0,0,0,0,0,0] (dn 42 2097151) rfl rfl (V_move rfl) ?_
  refine TA_ts 21 [0,0,0,0,0,0] (dn 42 4194303) rfl rfl ?_
  refine TA_ts 22 [0,0,0,0,0,0] (dn 42 8388607) rfl rfl ?_
  refine TA_ts 23 [0,0,0,0,0,0] (dn 42 16777215) rfl rfl ?_
  refine TA_ts 24 [0,0,0,0,0,0] (dn 42 33554431) rfl rfl ?_
  refine TA_ts 25 [0,0,0,0,0,0] (dn 42 67108863) rfl rfl ?_
  refine TA_ts 26 [0,0,0,0,0,0] (dn 42 134217727) rfl rfl ?_
  refine TA_ts 27 [0,0,0,0,0,0] (dn 42 268435455) rfl rfl ?_
  refine TA_ts 28 [0,0,0,0,0,0] (dn 42 536870911) rfl rfl ?_
  refine TA_ts 29 [0,0,0,0,0,0] (dn 42 1073741823) rfl rfl ?_
  refine TA_ts 30 [0,0,0,0,0,0] (dn 42 2147483647) rfl rfl ?_
  refine TA_ts 31 [0,0,0,0,0,0] (dn 42 4294967295) rfl rfl ?_
  refine TA_ts 32 [0,0,0,0,0,0] (dn 42 8589934591) rfl rfl ?_
  refine TA_ts 33 [0,0,0,0,0,0] (dn 42 17179869183) rfl rfl ?_
  refine TA_ts 34 [0,0,0,0,0,0] (dn 42 34359738367) rfl rfl ?_
  refine TA_ts 35 [0,0,0,0,0,0] (dn 42 68719476735) rfl rfl ?_
  refine TA_ts 36 [0,0,0,0,0,0] (dn 42 137438953471) rfl rfl ?_
  refine TA_ts 37 [0,0,0,0,0,0] (dn 42 274877906943) rfl rfl ?_
  refine TA_ts 38 [0,0,0,0,0,0] (dn 42 549755813887) rfl rfl ?_
  refine TA_ts 39 [0,0,0,0,0,0] (dn 42 1099511627775) rfl rfl ?_
  refine TA_ts 40 [0,0,0,0,0,0] (dn 42 2199023255551) rfl rfl ?_
  refine TA_tk 41 [0,0,0,0,0,0] (dn 42 4398046511103) rfl rfl (V_pick (b:=true) rfl rfl) ?_
  refine TA_done (by kernel_rfl) ?_ 0
  refine TX_next (TC.sub (m':=[(0,_),(2,_),(45,_)]) ⟨rfl,rfl,rfl,trivial⟩ ?_)
  refine TC.pull (is:=[0,0,0,0,0,0]) (L':=[_,_,_,_,_,_]) rfl ?_
  refine TC_cond_t rfl ?_
  refine TC_seq (TC_region (TLv (V_buildStruct (pv:=[]) (pl:=[(0,1),(1,1),(2,1),(3,1),(4,1),(5,1)]) rfl rfl underlying57 inf57 places57 zer57 (cs:=flat [(1,[vs ([]:Str)]),(1,[vs ([]:Str)]),(1,[vi 0]),(1,[vi 0]),(1,[vi 0]),(1,[vi 0])]) (by kernel_rfl)) ?_))
  refine TLn (E_sq (b:=b1) (o:=0) [0,0,0,0,0,0] [(1,_),(1,_),(1,_),(1,_),(1,_),(1,_)] rfl inf57) (fun _=>?_)
  refine TVa ?_
  refine TL_nil (TX_next (TC_ret (TX_then_ret ?_)))
  obtain rfl:=sj H
  exact TXr (vs:=[_,_]) rfl ⟨(Res_lp (b:=b1) (o:=0) (n:=6) (ps:=[(1,_),(1,_),(1,_),(1,_),(1,_),(1,_)]) ⟨.o 0, .o 1, .o 2, .o 3, .o 4, .o 5,trivial⟩ isAgg57 inf57),rfl,trivial⟩
 ·replace H:=ite_f (of_decide_eq_false hg1_7) H
  obtain ⟨h1,H⟩:=if_elim H
  refine TC_em (decide (c_Clock<((lg c_Psk 0).2.2.2.2.1))) (fun hg1_21=>?_) (fun hg1_21=>?_)
  ·replace H:=ite_t (of_decide_eq_true hg1_21) H
   refine TA_begin [⟨some (b1,0),[vs ([]:Str)]⟩,⟨some (b1,1),[vs ([]:Str)]⟩,⟨some (b1,2),[vi 0]⟩,⟨some (b1,3),[vi 0]⟩,⟨some (b1,4),[vi 0]⟩,⟨some (b1,5),[vi 0]⟩] 42 (by kernel_rfl) (N:=42) rfl ?_
   refine TA_tk 0 [0,0,0,0,0,0] (dn 42 1) rfl rfl (V_move rfl) ?_
   refine TA_tk 1 [0,0,0,0,0,0] (dn 42 3) rfl rfl (V_nilCheck rfl) ?_
   refine TA_tk 2 [0,0,0,0,0,0] (dn 42 7) rfl rfl (V_fieldE rfl underlying26 rfl rfl inf24 rfl (v:=ptr (some (bc,obc+9)) 0) rfl) ?_
   refine TA_tk 3 [0,0,0,0,0,0] (dn 42 15) rfl rfl (V_load rfl (.r 9) rfl isAgg24) ?_
   refine TA_tk 4 [0,0,0,0,0,0] (dn 42 31) rfl rfl (V_len_slice rfl underlying24) ?_
   refine TA_tk 5 [0,0,0,0,0,0] (dn 42 63) rfl rfl (V_bin rfl rfl (fun w=>eqlI w ((c_Psk).length:Int) 0)) ?_
   refine TA_tk 6 [0,0,0,0,0,0] (dn 42 127) rfl rfl (V_move rfl) ?_
   refine TA_re (d:=10) (v:=vb (decide (((c_Psk).length:Int)=0))) (v':=vb false) rfl (congrArg vb hg1_7) ?_
   refine TA_tw 7 [0,0,0,0,0,0] (dn 42 255) rfl rfl (V_move rfl) ?_
   refine TA_tw 8 [0,0,0,0,0,0] (dn 42 511) rfl rfl (V_nilCheck rfl) ?_
   refine TA_tw 9 [0,0,0,0,0,0] (dn 42 1023) rfl rfl (V_fieldE rfl underlying26 rfl rfl inf24 rfl (v:=ptr (some (bc,obc+9)) 0) rfl) ?_
   refine TA_tw 10 [0,0,0,0,0,0] (dn 42 2047) rfl rfl (V_load rfl (.r 9) rfl isAgg24) ?_
   refine TA_tw 11 [0,0,0,0,0,0] (dn 42 4095) rfl rfl (V_idxSlS (i:=0) rfl rfl underlying24 inf57 rfl (.r 19) (eF_ne2 (s:=6) (fun _=>rfl) rfl (toNat_lt h1.1 h1.2)) h1.1 h1.2 (k:=0 * 6) rfl) ?_
   refine TA_tw 12 [0,0,0,0,0,0] (dn 42 8191) rfl rfl (V_field rfl underlying57 rfl (k:=4) rfl inf3 rfl) ?_
   refine TA_tw 13 [0,0,0,0,0,0] (dn 42 16383) rfl rfl (V_load rfl (.r 19) ((get_eF (g:=fun p:Str × Str × Int × Int × Int × Int=>[vs p.1,vs p.2.1,vi p.2.2.1,vi p.2.2.2.1,vi p.2.2.2.2.1,vi p.2.2.2.2.2]) (s:=6) (fun _=>rfl) c_Psk 0 4 (toNat_lt h1.1 h1.2) (by decide:4<6)).trans rfl) isAgg3) ?_
   refine TA_tw 14 [0,0,0,0,0,0] (dn 42 32767) rfl rfl (V_move rfl) ?_
   refine TA_tw 15 [0,0,0,0,0,0] (dn 42 65535) rfl rfl (V_nilCheck rfl) ?_
   refine TA_tw 16 [0,0,0,0,0,0] (dn 42 131071) rfl rfl (V_fieldE rfl underlying26 rfl rfl inf3 rfl (v:=ptr (some (bc,obc+11)) 0) rfl) ?_
   refine TA_tw 17 [0,0,0,0,0,0] (dn 42 262143) rfl rfl (V_load rfl (.r 11) rfl isAgg3) ?_
   refine TA_tw 18 [0,0,0,0,0,0] (dn 42 524287) rfl rfl (V_bin rfl rfl (fun w=>gtrI w ((lg c_Psk 0).2.2.2.2.1) c_Clock)) ?_
   refine TA_tk 19 [0,0,0,0,0,0] (dn 42 1048575) rfl rfl (V_pick (b:=false) rfl rfl) ?_
   refine TA_tk 20 [0,0,0,0,0,0] (dn 42 2097151) rfl rfl (V_move rfl) ?_
   refine TA_re (d:=24) (v:=vb (decide (c_Clock<((lg c_Psk 0).2.2.2.2.1)))) (v':=vb true) rfl (congrArg vb hg1_21) ?_
   refine TA_ts 21 [0,0,0,0,0,0] (dn 42 4194303) rfl rfl ?_
   refine TA_ts 22 [0,0,0,0,0,0] (dn 42 8388607) rfl rfl ?_
   refine TA_ts 23 [0,0,0,0,0,0] (dn 42 16777215) rfl rfl ?_
   refine TA_ts 24 [0,0,0,0,0,0] (dn 42 33554431) rfl rfl ?_
   refine TA_ts 25 [0,0,0,0,0,0] (dn 42 67108863) rfl rfl ?_
   refine TA_ts 26 [0,0,0,0,0,0] (dn 42 134217727) rfl rfl ?_
   refine TA_ts 27 [0,0,0,0,0,0] (dn 42 268435455) rfl rfl ?_
   refine TA_ts 28 [0,0,0,0,0,0] (dn 42 536870911) rfl rfl ?_
   refine TA_ts 29 [0,0,0,0,0,0] (dn 42 1073741823) rfl rfl ?_
   refine TA_ts 30 [0,0,0,0,0,0] (dn 42 2147483647) rfl rfl ?_
   refine TA_ts 31 [0,0,0,0,0,0] (dn 42 4294967295) rfl rfl ?_
   refine TA_ts 32 [0,0,0,0,0,0] (dn 42 8589934591) rfl rfl ?_
   refine TA_ts 33 [0,0,0,0,0,0] (dn 42 17179869183) rfl rfl ?_
   refine TA_ts 34 [0,0,0,0,0,0] (dn 42 34359738367) rfl rfl ?_
   refine TA_ts 35 [0,0,0,0,0,0] (dn 42 68719476735) rfl rfl ?_
   refine TA_ts 36 [0,0,0,0,0,0] (dn 42 137438953471) rfl rfl ?_
   refine TA_ts 37 [0,0,0,0,0,0] (dn 42 274877906943) rfl rfl ?_
   refine TA_ts 38 [0,0,0,0,0,0] (dn 42 549755813887) rfl rfl ?_
   refine TA_ts 39 [0,0,0,0,0,0] (dn 42 1099511627775) rfl rfl ?_
   refine TA_ts 40 [0,0,0,0,0,0] (dn 42 2199023255551) rfl rfl ?_
   refine TA_tk 41 [0,0,0,0,0,0] (dn 42 4398046511103) rfl rfl (V_pick (b:=true) rfl rfl) ?_
   refine TA_done (by kernel_rfl) ?_ 0
   refine TX_next (TC.sub (m':=[(0,_),(2,_),(45,_)]) ⟨rfl,rfl,rfl,trivial⟩ ?_)
   refine TC.pull (is:=[0,0,0,0,0,0]) (L':=[_,_,_,_,_,_]) rfl ?_
   refine TC_cond_t rfl ?_
   refine TC_seq (TC_region (TLv (V_buildStruct (pv:=[]) (pl:=[(0,1),(1,1),(2,1),(3,1),(4,1),(5,1)]) rfl rfl underlying57 inf57 places57 zer57 (cs:=flat [(1,[vs ([]:Str)]),(1,[vs ([]:Str)]),(1,[vi 0]),(1,[vi 0]),(1,[vi 0]),(1,[vi 0])]) (by kernel_rfl)) ?_))
   refine TLn (E_sq (b:=b1) (o:=0) [0,0,0,0,0,0] [(1,_),(1,_),(1,_),(1,_),(1,_),(1,_)] rfl inf57) (fun _=>?_)
   refine TVa ?_
   refine TL_nil (TX_next (TC_ret (TX_then_ret ?_)))
   obtain rfl:=sj H
   exact TXr (vs:=[_,_]) rfl ⟨(Res_lp (b:=b1) (o:=0) (n:=6) (ps:=[(1,_),(1,_),(1,_),(1,_),(1,_),(1,_)]) ⟨.o 0, .o 1, .o 2, .o 3, .o 4, .o 5,trivial⟩ isAgg57 inf57),rfl,trivial⟩
  ·replace H:=ite_f (of_decide_eq_false hg1_21) H
   obtain ⟨h2,H⟩:=if_elim H
   obtain ⟨h3,H⟩:=if_elim H
   refine TA_begin [⟨some (b1,0),[vs ([]:Str)]⟩,⟨some (b1,1),[vs ([]:Str)]⟩,⟨some (b1,2),[vi 0]⟩,⟨some (b1,3),[vi 0]⟩,⟨some (b1,4),[vi 0]⟩,⟨some (b1,5),[vi 0]⟩] 42 (by kernel_rfl) (N:=42) rfl ?_
   refine TA_tk 0 [0,0,0,0,0,0] (dn 42 1) rfl rfl (V_move rfl) ?_
   refine TA_tk 1 [0,0,0,0,0,0] (dn 42 3) rfl rfl (V_nilCheck rfl) ?_
   refine TA_tk 2 [0,0,0,0,0,0] (dn 42 7) rfl rfl (V_fieldE rfl underlying26 rfl rfl inf24 rfl (v:=ptr (some (bc,obc+9)) 0) rfl) ?_
   refine TA_tk 3 [0,0,0,0,0,0] (dn 42 15) rfl rfl (V_load rfl (.r 9) rfl isAgg24) ?_
   refine TA_tk 4 [0,0,0,0,0,0] (dn 42 31) rfl rfl (V_len_slice rfl underlying24) ?_
   refine TA_tk 5 [0,0,0,0,0,0] (dn 42 63) rfl rfl (V_bin rfl rfl (fun w=>eqlI w ((c_Psk).length:Int) 0)) ?_
   refine TA_tk 6 [0,0,0,0,0,0] (dn 42 127) rfl rfl (V_move rfl) ?_
   refine TA_re (d:=10) (v:=vb (decide (((c_Psk).length:Int)=0))) (v':=vb false) rfl (congrArg vb hg1_7) ?_
   refine TA_tw 7 [0,0,0,0,0,0] (dn 42 255) rfl rfl (V_move rfl) ?_
   refine TA_tw 8 [0,0,0,0,0,0] (dn 42 511) rfl rfl (V_nilCheck rfl) ?_
   refine TA_tw 9 [0,0,0,0,0,0] (dn 42 1023) rfl rfl (V_fieldE rfl underlying26 rfl rfl inf24 rfl (v:=ptr (some (bc,obc+9)) 0) rfl) ?_
   refine TA_tw 10 [0,0,0,0,0,0] (dn 42 2047) rfl rfl (V_load rfl (.r 9) rfl isAgg24) ?_
   refine TA_tw 11 [0,0,0,0,0,0] (dn 42 4095) rfl rfl (V_idxSlS (i:=0) rfl rfl underlying24 inf57 rfl (.r 19) (eF_ne2 (s:=6) (fun _=>rfl) rfl (toNat_lt h1.1 h1.2)) h1.1 h1.2 (k:=0 * 6) rfl) ?_
   refine TA_tw 12 [0,0,0,0,0,0] (dn 42 8191) rfl rfl (V_field rfl underlying57 rfl (k:=4) rfl inf3 rfl) ?_
   refine TA_tw 13 [0,0,0,0,0,0] (dn 42 16383) rfl rfl (V_load rfl (.r 19) ((get_eF (g:=fun p:Str × Str × Int × Int × Int × Int=>[vs p.1,vs p.2.1,vi p.2.2.1,vi p.2.2.2.1,vi p.2.2.2.2.1,vi p.2.2.2.2.2]) (s:=6) (fun _=>rfl) c_Psk 0 4 (toNat_lt h1.1 h1.2) (by decide:4<6)).trans rfl) isAgg3) ?_
   refine TA_tw 14 [0,0,0,0,0,0] (dn 42 32767) rfl rfl (V_move rfl) ?_
   refine TA_tw 15 [0,0,0,0,0,0] (dn 42 65535) rfl rfl (V_nilCheck rfl) ?_
   refine TA_tw 16 [0,0,0,0,0,0] (dn 42 131071) rfl rfl (V_fieldE rfl underlying26 rfl rfl inf3 rfl (v:=ptr (some (bc,obc+11)) 0) rfl) ?_
   refine TA_tw 17 [0,0,0,0,0,0] (dn 42 262143) rfl rfl (V_load rfl (.r 11) rfl isAgg3) ?_
   refine TA_tw 18 [0,0,0,0,0,0] (dn 42 524287) rfl rfl (V_bin rfl rfl (fun w=>gtrI w ((lg c_Psk 0).2.2.2.2.1) c_Clock)) ?_
   refine TA_tk 19 [0,0,0,0,0,0] (dn 42 1048575) rfl rfl (V_pick (b:=false) rfl rfl) ?_
   refine TA_tk 20 [0,0,0,0,0,0] (dn 42 2097151) rfl rfl (V_move rfl) ?_
   refine TA_re (d:=24) (v:=vb (decide (c_Clock<((lg c_Psk 0).2.2.2.2.1)))) (v':=vb false) rfl (congrArg vb hg1_21) ?_
   refine TA_tw 21 [0,0,0,0,0,0] (dn 42 4194303) rfl rfl (V_move rfl) ?_
   refine TA_tw 22 [0,0,0,0,0,0] (dn 42 8388607) rfl rfl (V_nilCheck rfl) ?_
   refine TA_tw 23 [0,0,0,0,0,0] (dn 42 16777215) rfl rfl (V_fieldE rfl underlying26 rfl rfl inf3 rfl (v:=ptr (some (bc,obc+11)) 0) rfl) ?_
   refine TA_tw 24 [0,0,0,0,0,0] (dn 42 33554431) rfl rfl (V_load rfl (.r 11) rfl isAgg3) ?_
   refine TA_tw 25 [0,0,0,0,0,0] (dn 42 67108863) rfl rfl (V_move rfl) ?_
   refine TA_tw 26 [0,0,0,0,0,0] (dn 42 134217727) rfl rfl (V_nilCheck rfl) ?_
   refine TA_tw 27 [0,0,0,0,0,0] (dn 42 268435455) rfl rfl (V_fieldE rfl underlying26 rfl rfl inf24 rfl (v:=ptr (some (bc,obc+9)) 0) rfl) ?_
   refine TA_tw 28 [0,0,0,0,0,0] (dn 42 536870911) rfl rfl (V_load rfl (.r 9) rfl isAgg24) ?_
   refine TA_tw 29 [0,0,0,0,0,0] (dn 42 1073741823) rfl rfl (V_idxSlS (i:=0) rfl rfl underlying24 inf57 rfl (.r 19) (eF_ne2 (s:=6) (fun _=>rfl) rfl (toNat_lt h2.1 h2.2)) h2.1 h2.2 (k:=0 * 6) rfl) ?_
   refine TA_tw 30 [0,0,0,0,0,0] (dn 42 2147483647) rfl rfl (V_field rfl underlying57 rfl (k:=4) rfl inf3 rfl) ?_
   refine TA_tw 31 [0,0,0,0,0,0] (dn 42 4294967295) rfl rfl (V_load rfl (.r 19) ((get_eF (g:=fun p:Str × Str × Int × Int × Int × Int=>[vs p.1,vs p.2.1,vi p.2.2.1,vi p.2.2.2.1,vi p.2.2.2.2.1,vi p.2.2.2.2.2]) (s:=6) (fun _=>rfl) c_Psk 0 4 (toNat_lt h2.1 h2.2) (by decide:4<6)).trans rfl) isAgg3) ?_
   refine TA_tw 32 [0,0,0,0,0,0] (dn 42 8589934591) rfl rfl (V_bin rfl rfl (fun w=>subI w c_Clock ((lg c_Psk 0).2.2.2.2.1))) ?_
   refine TA_tw 33 [0,0,0,0,0,0] (dn 42 17179869183) rfl rfl (V_move rfl) ?_
   refine TA_tw 34 [0,0,0,0,0,0] (dn 42 34359738367) rfl rfl (V_nilCheck rfl) ?_
   refine TA_tw 35 [0,0,0,0,0,0] (dn 42 68719476735) rfl rfl (V_fieldE rfl underlying26 rfl rfl inf24 rfl (v:=ptr (some (bc,obc+9)) 0) rfl) ?_
   refine TA_tw 36 [0,0,0,0,0,0] (dn 42 137438953471) rfl rfl (V_load rfl (.r 9) rfl isAgg24) ?_
   refine TA_tw 37 [0,0,0,0,0,0] (dn 42 274877906943) rfl rfl (V_idxSlS (i:=0) rfl rfl underlying24 inf57 rfl (.r 19) (eF_ne2 (s:=6) (fun _=>rfl) rfl (toNat_lt h3.1 h3.2)) h3.1 h3.2 (k:=0 * 6) rfl) ?_
   refine TA_tw 38 [0,0,0,0,0,0] (dn 42 549755813887) rfl rfl (V_field rfl underlying57 rfl (k:=5) rfl inf3 rfl) ?_
   refine TA_tw 39 [0,0,0,0,0,0] (dn 42 1099511627775) rfl rfl (V_load rfl (.r 19) ((get_eF (g:=fun p:Str × Str × Int × Int × Int × Int=>[vs p.1,vs p.2.1,vi p.2.2.1,vi p.2.2.2.1,vi p.2.2.2.2.1,vi p.2.2.2.2.2]) (s:=6) (fun _=>rfl) c_Psk 0 5 (toNat_lt h3.1 h3.2) (by decide:5<6)).trans rfl) isAgg3) ?_
   refine TA_tw 40 [0,0,0,0,0,0] (dn 42 2199023255551) rfl rfl (V_bin rfl rfl (fun w=>gtrI w (w64 (c_Clock - ((lg c_Psk 0).2.2.2.2.1))) ((lg c_Psk 0).2.2.2.2.2))) ?_
   refine TA_tk 41 [0,0,0,0,0,0] (dn 42 4398046511103) rfl rfl (V_pick (b:=false) rfl rfl) ?_
   refine TA_done (by kernel_rfl) ?_ 0
   refine TX_next (TC.sub (m':=[(0,_),(2,_),(45,_)]) ⟨rfl,rfl,rfl,trivial⟩ ?_)
   refine TC.pull (is:=[0,0,0,0,0,0]) (L':=[_,_,_,_,_,_]) rfl ?_
   refine TCd H (fun hc H=>?_) (fun hc H=>?_)
   ·refine TC_seq (TC_region (TLv (V_buildStruct (pv:=[]) (pl:=[(0,1),(1,1),(2,1),(3,1),(4,1),(5,1)]) rfl rfl underlying57 inf57 places57 zer57 (cs:=flat [(1,[vs ([]:Str)]),(1,[vs ([]:Str)]),(1,[vi 0]),(1,[vi 0]),(1,[vi 0]),(1,[vi 0])]) (by kernel_rfl)) ?_))
    refine TLn (E_sq (b:=b1) (o:=0) [0,0,0,0,0,0] [(1,_),(1,_),(1,_),(1,_),(1,_),(1,_)] rfl inf57) (fun _=>?_)
    refine TVa ?_
    refine TL_nil (TX_next (TC_ret (TX_then_ret ?_)))
    obtain rfl:=sj H
    exact TXr (vs:=[_,_]) rfl ⟨(Res_lp (b:=b1) (o:=0) (n:=6) (ps:=[(1,_),(1,_),(1,_),(1,_),(1,_),(1,_)]) ⟨.o 0, .o 1, .o 2, .o 3, .o 4, .o 5,trivial⟩ isAgg57 inf57),rfl,trivial⟩
   ·refine TC_skip (TX_next (TC_seq (TC_region (TVm ?_))))
    refine TLv (V_nilCheck rfl) ?_
    refine TLv (V_fieldE rfl underlying26 rfl rfl inf24 rfl (v:=ptr (some (bc,obc+9)) 0) rfl) ?_
    refine TLv (V_load rfl (.r 9) rfl isAgg24) ?_
    obtain ⟨h4,H⟩:=if_elim H
    refine TLv (V_idxSlS (i:=0) rfl rfl underlying24 inf57 rfl (.r 19) (eF_ne2 (s:=6) (fun _=>rfl) rfl (toNat_lt h4.1 h4.2)) h4.1 h4.2 (k:=0 * 6) rfl) ?_
    refine TLv (V_loadPart (n:=6) (ds:=[vs ((lg c_Psk 0).1),vs ((lg c_Psk 0).2.1),vi ((lg c_Psk 0).2.2.1),vi ((lg c_Psk 0).2.2.2.1),vi ((lg c_Psk 0).2.2.2.2.1),vi ((lg c_Psk 0).2.2.2.2.2)]) rfl (.r 19) (part_eF (g:=fun p:Str × Str × Int × Int × Int × Int=>[vs p.1,vs p.2.1,vi p.2.2.1,vi p.2.2.2.1,vi p.2.2.2.2.1,vi p.2.2.2.2.2]) (s:=6) (fun _=>rfl) c_Psk 0 (toNat_lt h4.1 h4.2)) rfl rfl isAgg57 inf57 rfl) ?_
    refine TLn (E_sq (b:=b1) (o:=0) (ns:=[(1,[vs ((lg c_Psk 0).1)]),(1,[vs ((lg c_Psk 0).2.1)]),(1,[vi ((lg c_Psk 0).2.2.1)]),(1,[vi ((lg c_Psk 0).2.2.2.1)]),(1,[vi ((lg c_Psk 0).2.2.2.2.1)]),(1,[vi ((lg c_Psk 0).2.2.2.2.2)])]) [0,0,0,0,0,0] [(1,_),(1,_),(1,_),(1,_),(1,_),(1,_)] rfl inf57) (fun _=>?_)
    refine TVa ?_
    refine TL_nil (TX_next (TC_ret ?_))
    obtain rfl:=sj H
    exact TXr (vs:=[_,_]) rfl ⟨(Res_lp (b:=b1) (o:=0) (n:=6) (ps:=[(1,_),(1,_),(1,_),(1,_),(1,_),(1,_)]) ⟨.o 0, .o 1, .o 2, .o 3, .o 4, .o 5,trivial⟩ isAgg57 inf57),rfl,trivial⟩
end Go.Proofs
end

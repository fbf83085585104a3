/-
  Part 34 of the proof of what several laws share.
-/
import Derived.Test.YtkgeoekcnlgfnaaGreatDoorKe1
import Derived.Test.YtkgeoekcnlgfnaaGreatDoorKe2
import Derived.Test.YtkgeoekcnlgfnaaGreatDoorKe3
import Derived.Test.YtkgeoekcnlgfnaaGreatDoorKe4
import Derived.Test.YtkgeoekcnlgfnaaGreatDoorKe5
import Derived.Test.YtkgeoekcnlgfnaaGreatDoorKe6
import Derived.Test.YtkgeoekcnlgfnaaGreatDoorKe7
import Derived.Test.YtkgeoekcnlgfnaaGreatDoorKe8
import Derived.Test.YtkgeoekcnlgfnaaGreatDoorKe9
import Derived.Test.YtkgeoekcnlgfnaaGreatDoorKe10
import Derived.Test.YtkgeoekcnlgfnaaGreatDoorKe11
import Derived.Test.YtkgeoekcnlgfnaaGreatDoorKe12
import Derived.Test.YtkgeoekcnlgfnaaGreatDoorKe13
import Derived.Test.YtkgeoekcnlgfnaaGreatDoorKe14
import Derived.Test.YtkgeoekcnlgfnaaGreatDoorKe15
import Derived.Test.YtkgeoekcnlgfnaaGreatDoorKe16
import Derived.Test.YtkgeoekcnlgfnaaGreatDoorKe17
import Derived.Test.YtkgeoekcnlgfnaaGreatDoorKe18
import Derived.Test.YtkgeoekcnlgfnaaGreatDoorKe19
import Derived.Test.YtkgeoekcnlgfnaaGreatDoorKe20
import Derived.Test.YtkgeoekcnlgfnaaGreatDoorKe21
import Derived.Test.YtkgeoekcnlgfnaaGreatDoorKe22
import Derived.Test.YtkgeoekcnlgfnaaGreatDoorKe23
import Derived.Test.YtkgeoekcnlgfnaaGreatDoorKe24
import Derived.Test.YtkgeoekcnlgfnaaGreatDoorKe25
import Derived.Test.YtkgeoekcnlgfnaaGreatDoorKe26
import Derived.Test.YtkgeoekcnlgfnaaGreatDoorKe27
import Derived.Test.YtkgeoekcnlgfnaaGreatDoorKe28
import Derived.Test.YtkgeoekcnlgfnaaGreatDoorKe29
import Derived.Test.YtkgeoekcnlgfnaaGreatDoorKe30
import Derived.Test.YtkgeoekcnlgfnaaGreatDoorKe31
import Derived.Test.YtkgeoekcnlgfnaaGreatDoorKe32
set_option linter.unusedVariables false
set_option linter.unusedSimpArgs false
section
namespace Go.Proofs
open Go Go.Kx
open TryzI Tryz
def halberdlaw24_HelloPsks (which:Int) (made:Int) (seed:Str):Option (Bool) :=
 (halberdlaw24_awake).bind fun (r_1:Bool)=>(if (!r_1)=true then (some false) else ((halberdlaw24_Server).bind fun (r_2:Str × List (Int) × List (Int) × List (Str) × List (Str) × (List (Str × Str × Int × Int × Int × Int)))=>((halberdlaw24_z 32).bind fun (r_3:Str)=>((halberdlaw24_z 32).bind fun (r_4:Str)=>((halberdlaw24_z 32).bind fun (r_5:Str)=>((halberdlaw24_z 32).bind fun (r_6:Str)=>(ltt (decide (((BitVec.ofInt 64 which) % 6#64)=1#64)) fun (x1:Bool)=>((if x1=true then (ltt (iop (· &&& ·) made 1048575) fun (x5:Int)=>(if x5≤700000 then (ltt (decide ((w64 (700000 - x5))≤604800)) fun (fine1:Bool)=>(some (fine1,109,r_3,([]:List (Int)),([0,1]:List (Int)),4865,x5))) else (some (false,109,r_3,([]:List (Int)),([0,1]:List (Int)),4865,x5)))) else (ltt (decide (((BitVec.ofInt 64 which) % 6#64)=2#64)) fun (x6:Bool)=>(if x6=true then (some (false,109,r_3,([]:List (Int)),([0,1]:List (Int)),4867,690000)) else (ltt (decide (((BitVec.ofInt 64 which) % 6#64)=3#64)) fun (x7:Bool)=>(if x7=true then (some (false,109,r_3,([]:List (Int)),([0]:List (Int)),4865,690000)) else (ltt (decide (((BitVec.ofInt 64 which) % 6#64)=4#64)) fun (x8:Bool)=>(if x8=true then (some (false,109,r_3,([]:List (Int)),([]:List (Int)),4865,690000)) else (ltt (decide (((BitVec.ofInt 64 which) % 6#64)=5#64)) fun (x9:Bool)=>(if x9=true then (some (false,(-1),([]:Str),([1027]:List (Int)),([0,1]:List (Int)),4865,690000)) else (some (true,109,r_3,([]:List (Int)),([0,1]:List (Int)),4865,690000))))))))))).bind fun (j1:Bool × Int × Str × List (Int) × List (Int) × Int × Int)=>((halberdlaw24_z 32).bind fun (r_7:Str)=>((halberdlaw24_z 11).bind fun (r_8:Str)=>(if (([110#8]:Str)).length+(r_8).length≤4611686018427387904 then ((halberdref19_SealTicket r_7 (([110#8]:Str)++r_8) j1.2.2.2.2.2.1 r_6 j1.2.2.2.2.2.2 0).bind fun (r_9:Str × Int)=>((hello_Choose true r_2.2.1 r_2.2.2.1 r_2.2.2.2.1 r_2.1 r_2.2.2.2.2.1 ([]:Str) 0 j1.2.2.1 r_2.2.2.2.2.2 ([]:Str) 700000 0 10 33290 1 r_4 ([]:Str) ([4865]:List (Int)) ([]:Str) ([772]:List (Int)) ([29]:List (Int)) j1.2.2.2.1 j1.2.2.2.2.1 ([(29,([107#8]:Str))]:List (Int × Str)) ([(r_9.1,((seed).length:Int))]:List (Str × Int)) ([r_5]:List (Str)) 0 ([]:List (Int)) ([]:List (Str)) 0 ([]:Str) 0 0 ([]:Str) 0 false 0).bind fun (r_10:Int × Int × Str × Bool × Bool × Int)=>(if j1.1=true then ((if r_9.2=0 then (ltt (Lf.all [Lf.i r_10.1,Lf.i r_10.2.1,Lf.s r_10.2.2.1,Lf.b r_10.2.2.2.1,Lf.b r_10.2.2.2.2.1,Lf.i r_10.2.2.2.2.2] [Lf.i 4865,Lf.i 29,Lf.s ([107#8]:Str),Lf.b false,Lf.b true,Lf.i (-1)]) fun (x2:Bool)=>(some x2)) else (some false)).bind fun (j2:Bool)=>(some j2)) else (if j1.2.1<0 then ((if r_9.2=0 then (ltt (Lf.all [Lf.i r_10.1,Lf.i r_10.2.1,Lf.s r_10.2.2.1,Lf.b r_10.2.2.2.1,Lf.b r_10.2.2.2.2.1,Lf.i r_10.2.2.2.2.2] [Lf.i 4865,Lf.i 29,Lf.s ([107#8]:Str),Lf.b false,Lf.b false,Lf.i (-1)]) fun (x3:Bool)=>(some x3)) else (some false)).bind fun (j3:Bool)=>(some j3)) else (if r_9.2=0 then (ltt (Lf.all [Lf.i r_10.1,Lf.i r_10.2.1,Lf.s r_10.2.2.1,Lf.b r_10.2.2.2.1,Lf.b r_10.2.2.2.2.1,Lf.i r_10.2.2.2.2.2] [Lf.i 0,Lf.i 0,Lf.s ([]:Str),Lf.b false,Lf.b false,Lf.i j1.2.1]) fun (x4:Bool)=>(some x4)) else (some false)))))) else none)))))))))))
set_option maxHeartbeats 4000000 in
set_option maxRecDepth 20000 in
theorem F9_calls (which:Int) (made:Int) (seed:Str) (r:Bool) (H:halberdlaw24_HelloPsks which made seed=some r) :
  Does Tryz.prog 9 [vi which,vi made,vs seed] [] [⟨some (0,0),[hdE]⟩] (Γ:=Unit) (fun g=>vb r) (fun g=>[]):=by
 intro w hmem hro hd
 refine calls_of (N:=107) (m0:=[(0,vi which),(1,vi made),(2,vs seed)]) func9 rfl ntmps9 (argM_ok [vi which,vi made,vs seed]) rfl hmem hro hd ?_
 unfold halberdlaw24_HelloPsks at H
 refine TC_seq (TC_region (TVa ?_))
 refine TL_nil (TX_next (TC_seq (TC_seq (TC_region ?_))))
 obtain ⟨r_1,hr_1,H⟩:=bind_elim H
 refine TLe (E_c0 (F22_calls r_1 hr_1) call22 ⟨.r 0,trivial⟩) (fun g_1=>?_)
 refine TLv (V_un rfl (fun w=>notB w r_1)) ?_
 refine TL_nil (TX_next (TCb H (fun hc H=>?_) (fun hc H=>?_)))
 ·refine TC_seq (TC_region (TVa ?_))
  refine TL_nil (TX_next (TC_ret (TX_then_ret ?_)))
  obtain rfl:=sj H
  exact TX1
 ·refine TC_skip (TX_next (TC_seq (TC_region ?_)))
  obtain ⟨r_2,hr_2,H⟩:=bind_elim H
  refine TLe (E_call (Γ:=Nat × Nat × Nat × Adr × Adr) (val:=fun g=>aG [(1,[vb true]),(1,[sl (some (g.1,0)) ((r_2.2.1).length) ((r_2.2.1++nI).length)]),(1,[sl (some (g.2.1,0)) ((r_2.2.2.1).length) ((r_2.2.2.1++nI).length)]),(1,[sl (some (g.2.2.1,0)) ((r_2.2.2.2.1).length) ((r_2.2.2.2.1++nS).length)]),(1,[vs r_2.1]),(1,[sl g.2.2.2.1 ((r_2.2.2.2.2.1).length) ((r_2.2.2.2.2.1++nS).length)]),(1,[vs ([]:Str)]),(1,[vi 0]),(1,[vs ([]:Str)]),(1,[sl g.2.2.2.2 ((r_2.2.2.2.2.2).length) ((r_2.2.2.2.2.2++nP).length)]),(1,[vs ([]:Str)]),(1,[vi 1000]),(1,[vi 0]),(1,[vi 10]),(1,[vi 33290])]) (mem:=fun g=>[⟨some (g.1,0),eI (r_2.2.1++nI)⟩,⟨some (g.2.1,0),eI (r_2.2.2.1++nI)⟩,⟨some (g.2.2.1,0),eS (r_2.2.2.2.1++nS)⟩,⟨g.2.2.2.1,eS (r_2.2.2.2.2.1++nS)⟩,⟨g.2.2.2.2,eF (fun p:Str × Str × Int × Int × Int × Int=>[vs p.1,vs p.2.1,vi p.2.2.1,vi p.2.2.2.1,vi p.2.2.2.2.1,vi p.2.2.2.2.2]) (r_2.2.2.2.2.2++nP)⟩]) (vs:=[]) (Lin:=[]) (Ro:=[]) (is:=[]) rfl call25 (F25_calls r_2 hr_2) rfl trivial) (fun g_2=>?_)
  refine TLe (E_ap inf26 zer26) (fun b1=>?_)
  refine TL_gen5 (Lf:=fun An1 An2 An3 An4 An5=>[⟨An5,eF (fun p:Str × Str × Int × Int × Int × Int=>[vs p.1,vs p.2.1,vi p.2.2.1,vi p.2.2.2.1,vi p.2.2.2.2.1,vi p.2.2.2.2.2]) (nP++nP)⟩,⟨An4,eS (nS++nS)⟩,⟨An3,eS (nS++nS)⟩,⟨An2,eI (nI++nI)⟩,⟨An1,eI (nI++nI)⟩,⟨some (b1,0),[vb false]⟩,⟨some (b1,1),[sl An1 ((nI).length) ((nI++nI).length)]⟩,⟨some (b1,2),[sl An2 ((nI).length) ((nI++nI).length)]⟩,⟨some (b1,3),[sl An3 ((nS).length) ((nS++nS).length)]⟩,⟨some (b1,4),[vs ([]:Str)]⟩,⟨some (b1,5),[sl An4 ((nS).length) ((nS++nS).length)]⟩,⟨some (b1,6),[vs ([]:Str)]⟩,⟨some (b1,7),[vi 0]⟩,⟨some (b1,8),[vs ([]:Str)]⟩,⟨some (b1,9),[sl An5 ((nP).length) ((nP++nP).length)]⟩,⟨some (b1,10),[vs ([]:Str)]⟩,⟨some (b1,11),[vi 0]⟩,⟨some (b1,12),[vi 0]⟩,⟨some (b1,13),[vi 0]⟩,⟨some (b1,14),[vi 0]⟩,⟨some (g_2.1,0),eI (r_2.2.1++nI)⟩,⟨some (g_2.2.1,0),eI (r_2.2.2.1++nI)⟩,⟨some (g_2.2.2.1,0),eS (r_2.2.2.2.1++nS)⟩,⟨g_2.2.2.2.1,eS (r_2.2.2.2.2.1++nS)⟩,⟨g_2.2.2.2.2,eF (fun p:Str × Str × Int × Int × Int × Int=>[vs p.1,vs p.2.1,vi p.2.2.1,vi p.2.2.2.1,vi p.2.2.2.2.1,vi p.2.2.2.2.2]) (r_2.2.2.2.2.2++nP)⟩]) rfl (fun An1 An2 An3 An4 An5=>?_)
  refine TLn (E_sq (b:=b1) (o:=0) (rp 15 5) [(1,_),(1,_),(1,_),(1,_),(1,_),(1,_),(1,_),(1,_),(1,_),(1,_),(1,_),(1,_),(1,_),(1,_),(1,_)] rfl inf26) (fun _=>?_)
  refine TL_nil (TX_next (TC.sub (m':=[(0,_),(1,_),(2,_),(7,_)]) ⟨rfl,rfl,rfl,rfl,trivial⟩ ?_))
  refine TC.pull (is:=[0,0,18,0,17,0,16,0,0,14,0,0,0,0,10,0,0,0,0,0]) (L':=[_,_,_,_,_,_,_,_,_,_,_,_,_,_,_,_,_,_,_,_]) rfl ?_
  refine TC_seq (TC_region ?_)
  obtain ⟨r_3,hr_3,H⟩:=bind_elim H
  refine TLe (E_c0 (F26_calls 32 r_3 hr_3) call26 .z) (fun g_3=>?_)
  refine TLv (V_fieldE rfl underlying26 rfl rfl inf9 rfl (v:=ptr (some (b1,8)) 0) rfl) ?_
  refine TLn (E_store (j:=12) rfl rfl inf9 rfl rfl rfl (Nat.lt_succ_self 0) (cs':=[vs r_3]) rfl) (fun _=>?_)
  refine TL_nil (TX_next (TC_seq (TC_region (TLv (V_fieldE rfl underlying26 rfl rfl inf3 rfl (v:=ptr (some (b1,11)) 0) rfl) ?_))))
  refine TLn (E_store (j:=16) rfl rfl inf3 rfl rfl rfl (Nat.lt_succ_self 0) (cs':=[vi 700000]) rfl) (fun _=>?_)
  refine TL_nil (TX_next (TC_seq (TC_region ?_)))
  obtain ⟨r_4,hr_4,H⟩:=bind_elim H
  refine TLe (E_c0 (F26_calls 32 r_4 hr_4) call26 .z) (fun g_4=>?_)
  refine TLe (E_buildSlice (pv:=[(0,vi 4865)]) rfl rfl underlying22 inf3 (s:=1) rfl zer3 rfl rfl rfl (cs:=eI ([4865]:List (Int))) (by kernel_rfl)) (fun b2=>?_)
  refine TLe (E_buildSlice (pv:=[(0,vi 772)]) rfl rfl underlying22 inf3 (s:=1) rfl zer3 rfl rfl rfl (cs:=eI ([772]:List (Int))) (by kernel_rfl)) (fun b3=>?_)
  refine TLe (E_buildSlice (pv:=[(0,vi 29)]) rfl rfl underlying22 inf3 (s:=1) rfl zer3 rfl rfl rfl (cs:=eI ([29]:List (Int))) (by kernel_rfl)) (fun b4=>?_)
  refine TLv (V_buildStruct (pv:=[(0,vi 29),(1,vs ([107#8]:Str))]) (pl:=[(0,1),(1,1)]) rfl rfl underlying50 inf50 places50 zer50 (cs:=flat [(1,[vi 29]),(1,[vs ([107#8]:Str)])]) (by kernel_rfl)) ?_
  refine TLe (E_buildSlice (pv:=[(0,aG [(1,[vi 29]),(1,[vs ([107#8]:Str)])])]) rfl rfl underlying27 inf50 (s:=2) rfl zer50 rfl rfl rfl (cs:=eF (fun p:Int × Str=>[vi p.1,vs p.2]) ([(29,([107#8]:Str))]:List (Int × Str))) (by kernel_rfl)) (fun b5=>?_)
  refine TLe (E_buildSlice (pv:=[(0,vi 0),(1,vi 1)]) rfl rfl underlying22 inf3 (s:=1) rfl zer3 rfl rfl rfl (cs:=eI ([0,1]:List (Int))) (by kernel_rfl)) (fun b6=>?_)
  obtain ⟨r_5,hr_5,H⟩:=bind_elim H
  refine TLe (E_c0 (F26_calls 32 r_5 hr_5) call26 .z) (fun g_5=>?_)
  refine TLe (E_buildSlice (pv:=[(0,vs r_5)]) rfl rfl underlying23 inf9 (s:=1) rfl zer9 rfl rfl rfl (cs:=eS ([r_5]:List (Str))) (by kernel_rfl)) (fun b7=>?_)
  refine TLv (V_buildStruct (pv:=[(0,vi 1),(1,vs r_4),(3,sl (some (b2,0)) 1 1),(5,sl (some (b3,0)) 1 1),(6,sl (some (b4,0)) 1 1),(9,sl (some (b5,0)) 1 1),(8,sl (some (b6,0)) 2 2),(11,sl (some (b7,0)) 1 1)]) (pl:=[(0,1),(1,1),(2,1),(3,1),(4,1),(5,1),(6,1),(7,1),(8,1),(9,1),(10,1),(11,1),(12,1),(13,1),(14,1),(15,1),(16,1),(17,1),(18,1),(19,1),(20,1)]) rfl rfl underlying30 inf30 places30 zer30 (cs:=flat [(1,[vi 1]),(1,[vs r_4]),(1,[vs ([]:Str)]),(1,[sl (some (b2,0)) 1 1]),(1,[vs ([]:Str)]),(1,[sl (some (b3,0)) 1 1]),(1,[sl (some (b4,0)) 1 1]),(1,[sl none 0 0]),(1,[sl (some (b6,0)) 2 2]),(1,[sl (some (b5,0)) 1 1]),(1,[sl none 0 0]),(1,[sl (some (b7,0)) 1 1]),(1,[vi 0]),(1,[sl none 0 0]),(1,[sl none 0 0]),(1,[vi 0]),(1,[vs ([]:Str)]),(1,[vi 0]),(1,[vi 0]),(1,[vs ([]:Str)]),(1,[vi 0])]) (by kernel_rfl)) ?_
  refine TLe (E_ap inf30 zer30) (fun b8=>?_)
  refine TL_gen10 (Lf:=fun An6 An7 An8 An9 An10 An11 An12 An13 An14 An15=>[⟨An15,eS (nS++nS)⟩,⟨An14,eI (nI++nI)⟩,⟨An13,eS (nS++nS)⟩,⟨An12,eF (fun p:Str × Int=>[vs p.1,vi p.2]) (nA++nA)⟩,⟨An11,eF (fun p:Int × Str=>[vi p.1,vs p.2]) (nB++nB)⟩,⟨An10,eI (nI++nI)⟩,⟨An9,eI (nI++nI)⟩,⟨An8,eI (nI++nI)⟩,⟨An7,eI (nI++nI)⟩,⟨An6,eI (nI++nI)⟩,⟨some (b8,0),[vi 0]⟩,⟨some (b8,1),[vs ([]:Str)]⟩,⟨some (b8,2),[vs ([]:Str)]⟩,⟨some (b8,3),[sl An6 ((nI).length) ((nI++nI).length)]⟩,⟨some (b8,4),[vs ([]:Str)]⟩,⟨some (b8,5),[sl An7 ((nI).length) ((nI++nI).length)]⟩,⟨some (b8,6),[sl An8 ((nI).length) ((nI++nI).length)]⟩,⟨some (b8,7),[sl An9 ((nI).length) ((nI++nI).length)]⟩,⟨some (b8,8),[sl An10 ((nI).length) ((nI++nI).length)]⟩,⟨some (b8,9),[sl An11 ((nB).length) ((nB++nB).length)]⟩,⟨some (b8,10),[sl An12 ((nA).length) ((nA++nA).length)]⟩,⟨some (b8,11),[sl An13 ((nS).length) ((nS++nS).length)]⟩,⟨some (b8,12),[vi 0]⟩,⟨some (b8,13),[sl An14 ((nI).length) ((nI++nI).length)]⟩,⟨some (b8,14),[sl An15 ((nS).length) ((nS++nS).length)]⟩,⟨some (b8,15),[vi 0]⟩,⟨some (b8,16),[vs ([]:Str)]⟩,⟨some (b8,17),[vi 0]⟩,⟨some (b8,18),[vi 0]⟩,⟨some (b8,19),[vs ([]:Str)]⟩,⟨some (b8,20),[vi 0]⟩,⟨some (b7,0),eS ([r_5]:List (Str))⟩,⟨some (b6,0),eI ([0,1]:List (Int))⟩,⟨some (b5,0),eF (fun p:Int × Str=>[vi p.1,vs p.2]) ([(29,([107#8]:Str))]:List (Int × Str))⟩,⟨some (b4,0),eI ([29]:List (Int))⟩,⟨some (b3,0),eI ([772]:List (Int))⟩,⟨some (b2,0),eI ([4865]:List (Int))⟩,⟨some (b1,0),[vb true]⟩,⟨some (b1,1),[sl (some (g_2.1,0)) ((r_2.2.1).length) ((r_2.2.1++nI).length)]⟩,⟨some (g_2.1,0),eI (r_2.2.1++nI)⟩,⟨some (b1,2),[sl (some (g_2.2.1,0)) ((r_2.2.2.1).length) ((r_2.2.2.1++nI).length)]⟩,⟨some (g_2.2.1,0),eI (r_2.2.2.1++nI)⟩,⟨some (b1,3),[sl (some (g_2.2.2.1,0)) ((r_2.2.2.2.1).length) ((r_2.2.2.2.1++nS).length)]⟩,⟨some (g_2.2.2.1,0),eS (r_2.2.2.2.1++nS)⟩,⟨some (b1,4),[vs r_2.1]⟩,⟨some (b1,5),[sl g_2.2.2.2.1 ((r_2.2.2.2.2.1).length) ((r_2.2.2.2.2.1++nS).length)]⟩,⟨g_2.2.2.2.1,eS (r_2.2.2.2.2.1++nS)⟩,⟨some (b1,6),[vs ([]:Str)]⟩,⟨some (b1,7),[vi 0]⟩,⟨some (b1,8),[vs r_3]⟩,⟨some (b1,9),[sl g_2.2.2.2.2 ((r_2.2.2.2.2.2).length) ((r_2.2.2.2.2.2++nP).length)]⟩,⟨g_2.2.2.2.2,eF (fun p:Str × Str × Int × Int × Int × Int=>[vs p.1,vs p.2.1,vi p.2.2.1,vi p.2.2.2.1,vi p.2.2.2.2.1,vi p.2.2.2.2.2]) (r_2.2.2.2.2.2++nP)⟩,⟨some (b1,10),[vs ([]:Str)]⟩,⟨some (b1,11),[vi 700000]⟩,⟨some (b1,12),[vi 0]⟩,⟨some (b1,13),[vi 10]⟩,⟨some (b1,14),[vi 33290]⟩]) rfl (fun An6 An7 An8 An9 An10 An11 An12 An13 An14 An15=>?_)
  refine TLn (E_sq (b:=b8) (o:=0) (rp 21 10) [(1,_),(1,_),(1,_),(1,_),(1,_),(1,_),(1,_),(1,_),(1,_),(1,_),(1,_),(1,_),(1,_),(1,_),(1,_),(1,_),(1,_),(1,_),(1,_),(1,_),(1,_)] rfl inf30) (fun _=>?_)
  refine TL_gen4 (Lf:=fun An16 An17 An18 An19=>[⟨An19,eS (nS++nS)⟩,⟨An18,eI (nI++nI)⟩,⟨An17,eF (fun p:Str × Int=>[vs p.1,vi p.2]) (nA++nA)⟩,⟨An16,eI (nI++nI)⟩,⟨some (b8,0),[vi 1]⟩,⟨some (b8,1),[vs r_4]⟩,⟨some (b8,2),[vs ([]:Str)]⟩,⟨some (b8,3),[sl (some (b2,0)) 1 1]⟩,⟨some (b8,4),[vs ([]:Str)]⟩,⟨some (b8,5),[sl (some (b3,0)) 1 1]⟩,⟨some (b8,6),[sl (some (b4,0)) 1 1]⟩,⟨some (b8,7),[sl An16 ((nI).length) ((nI++nI).length)]⟩,⟨some (b8,8),[sl (some (b6,0)) 2 2]⟩,⟨some (b8,9),[sl (some (b5,0)) 1 1]⟩,⟨some (b8,10),[sl An17 ((nA).length) ((nA++nA).length)]⟩,⟨some (b8,11),[sl (some (b7,0)) 1 1]⟩,⟨some (b8,12),[vi 0]⟩,⟨some (b8,13),[sl An18 ((nI).length) ((nI++nI).length)]⟩,⟨some (b8,14),[sl An19 ((nS).length) ((nS++nS).length)]⟩,⟨some (b8,15),[vi 0]⟩,⟨some (b8,16),[vs ([]:Str)]⟩,⟨some (b8,17),[vi 0]⟩,⟨some (b8,18),[vi 0]⟩,⟨some (b8,19),[vs ([]:Str)]⟩,⟨some (b8,20),[vi 0]⟩,⟨An15,eS (nS++nS)⟩,⟨An14,eI (nI++nI)⟩,⟨An13,eS (nS++nS)⟩,⟨An12,eF (fun p:Str × Int=>[vs p.1,vi p.2]) (nA++nA)⟩,⟨An11,eF (fun p:Int × Str=>[vi p.1,vs p.2]) (nB++nB)⟩,⟨An10,eI (nI++nI)⟩,⟨An9,eI (nI++nI)⟩,⟨An8,eI (nI++nI)⟩,⟨An7,eI (nI++nI)⟩,⟨An6,eI (nI++nI)⟩,⟨some (b7,0),eS ([r_5]:List (Str))⟩,⟨some (b6,0),eI ([0,1]:List (Int))⟩,⟨some (b5,0),eF (fun p:Int × Str=>[vi p.1,vs p.2]) ([(29,([107#8]:Str))]:List (Int × Str))⟩,⟨some (b4,0),eI ([29]:List (Int))⟩,⟨some (b3,0),eI ([772]:List (Int))⟩,⟨some (b2,0),eI ([4865]:List (Int))⟩,⟨some (b1,0),[vb true]⟩,⟨some (b1,1),[sl (some (g_2.1,0)) ((r_2.2.1).length) ((r_2.2.1++nI).length)]⟩,⟨some (g_2.1,0),eI (r_2.2.1++nI)⟩,⟨some (b1,2),[sl (some (g_2.2.1,0)) ((r_2.2.2.1).length) ((r_2.2.2.1++nI).length)]⟩,⟨some (g_2.2.1,0),eI (r_2.2.2.1++nI)⟩,⟨some (b1,3),[sl (some (g_2.2.2.1,0)) ((r_2.2.2.2.1).length) ((r_2.2.2.2.1++nS).length)]⟩,⟨some (g_2.2.2.1,0),eS (r_2.2.2.2.1++nS)⟩,⟨some (b1,4),[vs r_2.1]⟩,⟨some (b1,5),[sl g_2.2.2.2.1 ((r_2.2.2.2.2.1).length) ((r_2.2.2.2.2.1++nS).length)]⟩,⟨g_2.2.2.2.1,eS (r_2.2.2.2.2.1++nS)⟩,⟨some (b1,6),[vs ([]:Str)]⟩,⟨some (b1,7),[vi 0]⟩,⟨some (b1,8),[vs r_3]⟩,⟨some (b1,9),[sl g_2.2.2.2.2 ((r_2.2.2.2.2.2).length) ((r_2.2.2.2.2.2++nP).length)]⟩,⟨g_2.2.2.2.2,eF (fun p:Str × Str × Int × Int × Int × Int=>[vs p.1,vs p.2.1,vi p.2.2.1,vi p.2.2.2.1,vi p.2.2.2.2.1,vi p.2.2.2.2.2]) (r_2.2.2.2.2.2++nP)⟩,⟨some (b1,10),[vs ([]:Str)]⟩,⟨some (b1,11),[vi 700000]⟩,⟨some (b1,12),[vi 0]⟩,⟨some (b1,13),[vi 10]⟩,⟨some (b1,14),[vi 33290]⟩]) rfl (fun An16 An17 An18 An19=>?_)
  refine TL_reE (j:=40) (A:=some (b2,0)) (cs:=eI ([4865]:List (Int))) (cs':=eI (([4865]:List (Int))++nI)) rfl (congrArg (eI) (List.append_nil _).symm) ?_
  refine TL_reE (j:=7) (A:=some (b8,3)) (cs:=[sl (some (b2,0)) 1 1]) (cs':=[sl (some (b2,0)) ((([4865]:List (Int))).length) ((([4865]:List (Int))++nI).length)]) rfl (congrArg (fun z=>[z]) (sl_row rfl)) ?_
  refine TL_reE (j:=39) (A:=some (b3,0)) (cs:=eI ([772]:List (Int))) (cs':=eI (([772]:List (Int))++nI)) rfl (congrArg (eI) (List.append_nil _).symm) ?_
  refine TL_reE (j:=9) (A:=some (b8,5)) (cs:=[sl (some (b3,0)) 1 1]) (cs':=[sl (some (b3,0)) ((([772]:List (Int))).length) ((([772]:List (Int))++nI).length)]) rfl (congrArg (fun z=>[z]) (sl_row rfl)) ?_
  refine TL_reE (j:=38) (A:=some (b4,0)) (cs:=eI ([29]:List (Int))) (cs':=eI (([29]:List (Int))++nI)) rfl (congrArg (eI) (List.append_nil _).symm) ?_
  refine TL_reE (j:=10) (A:=some (b8,6)) (cs:=[sl (some (b4,0)) 1 1]) (cs':=[sl (some (b4,0)) ((([29]:List (Int))).length) ((([29]:List (Int))++nI).length)]) rfl (congrArg (fun z=>[z]) (sl_row rfl)) ?_
  refine TL_reE (j:=36) (A:=some (b6,0)) (cs:=eI ([0,1]:List (Int))) (cs':=eI (([0,1]:List (Int))++nI)) rfl (congrArg (eI) (List.append_nil _).symm) ?_
  refine TL_reE (j:=12) (A:=some (b8,8)) (cs:=[sl (some (b6,0)) 2 2]) (cs':=[sl (some (b6,0)) ((([0,1]:List (Int))).length) ((([0,1]:List (Int))++nI).length)]) rfl (congrArg (fun z=>[z]) (sl_row rfl)) ?_
  refine TL_reE (j:=37) (A:=some (b5,0)) (cs:=eF (fun p:Int × Str=>[vi p.1,vs p.2]) ([(29,([107#8]:Str))]:List (Int × Str))) (cs':=eF (fun p:Int × Str=>[vi p.1,vs p.2]) (([(29,([107#8]:Str))]:List (Int × Str))++nB)) rfl (congrArg (eF (fun p:Int × Str=>[vi p.1,vs p.2])) (List.append_nil _).symm) ?_
  refine TL_reE (j:=13) (A:=some (b8,9)) (cs:=[sl (some (b5,0)) 1 1]) (cs':=[sl (some (b5,0)) ((([(29,([107#8]:Str))]:List (Int × Str))).length) ((([(29,([107#8]:Str))]:List (Int × Str))++nB).length)]) rfl (congrArg (fun z=>[z]) (sl_row rfl)) ?_
  refine TL_reE (j:=35) (A:=some (b7,0)) (cs:=eS ([r_5]:List (Str))) (cs':=eS (([r_5]:List (Str))++nS)) rfl (congrArg (eS) (List.append_nil _).symm) ?_
  refine TL_reE (j:=15) (A:=some (b8,11)) (cs:=[sl (some (b7,0)) 1 1]) (cs':=[sl (some (b7,0)) ((([r_5]:List (Str))).length) ((([r_5]:List (Str))++nS).length)]) rfl (congrArg (fun z=>[z]) (sl_row rfl)) ?_
  refine TL_nil (TX_next (TC.sub (m':=[(0,_),(1,_),(2,_),(7,_),(8,_)]) ⟨rfl,rfl,rfl,rfl,rfl,trivial⟩ ?_))
  refine TC.pull (is:=(rp 20 41++rp 4 4++36 :: 4 :: 4 :: 33 :: 4 :: 31 :: 4 :: 3 :: 3 :: 26 :: 3 :: 25 :: 3 :: 2 :: 2 :: 21 :: 2 :: 2 :: 1 :: 1 :: rp 7 0)) (L':=[_,_,_,_,_,_,_,_,_,_,_,_,_,_,_,_,_,_,_,_,_,_,_,_,_,_,_,_,_,_,_,_,_,_,_,_,_,_,_,_,_,_,_,_,_,_,_,_,_,_,_]) rfl ?_
  refine TC_seq (TC_region ?_)
  obtain ⟨r_6,hr_6,H⟩:=bind_elim H
  refine TLe (E_c0 (F26_calls 32 r_6 hr_6) call26 .z) (fun g_6=>?_)
  refine TLv (V_buildStruct (pv:=[(0,vi 4865),(1,vs r_6),(2,vi 690000)]) (pl:=[(0,1),(1,1),(2,1),(3,1)]) rfl rfl underlying66 inf66 places66 zer66 (cs:=flat [(1,[vi 4865]),(1,[vs r_6]),(1,[vi 690000]),(1,[vi 0])]) (by kernel_rfl)) ?_
  refine TLe (E_ap inf66 zer66) (fun b9=>?_)
  refine TLn (E_sq (b:=b9) (o:=0) [0,0,0,0] [(1,_),(1,_),(1,_),(1,_)] rfl inf66) (fun _=>?_)
  refine TL_nil (TX_next (TC.sub (m':=[(0,_),(1,_),(2,_),(7,_),(8,_),(9,_)]) ⟨rfl,rfl,rfl,rfl,rfl,rfl,trivial⟩ ?_))
  refine TC.pull (is:=(rp 51 4++rp 4 0)) (L':=[_,_,_,_,_,_,_,_,_,_,_,_,_,_,_,_,_,_,_,_,_,_,_,_,_,_,_,_,_,_,_,_,_,_,_,_,_,_,_,_,_,_,_,_,_,_,_,_,_,_,_,_,_,_,_]) rfl ?_
  refine TC_seq (TC_region (TVa ?_))
  refine TL_nil (TX_next (TC_seq (TC_region (TVa ?_))))
  refine TL_nil (TX_next (TC_seq (TC_seq (TC_region (TVm ?_)))))
  refine TLv (V_conv rfl (fun w=>cvI64 w _ _ underlying53 (und3) .i64 which)) ?_
  refine TLv (V_bin rfl rfl (fun w=>rem64 w (BitVec.ofInt 64 which) 6#64 (by decide))) ?_
  refine TL_nil (TX_next (TC_block (TC_seq (TC_region (TLv (V_bin rfl rfl (fun w=>eql64 w ((BitVec.ofInt 64 which) % 6#64) 1#64)) ?_)))))
  refine TVa ?_
  obtain ⟨x1,hx1,H⟩:=ltt_elim H
  refine TLr 36 (congrArg vb hx1) ?_
  refine TL_nil (TX_next ?_)
  obtain ⟨j1,Hj,H⟩:=bind_elim H
  refine TC_join (Γ:=Adr × Adr) (fun gj1=>[(2,vs seed),(7,ptr (some (b1,0)) 0),(8,ptr (some (b8,0)) 0),(9,ptr (some (b9,0)) 0),(10,vb j1.1),(11,vi j1.2.1)]) (fun gj1=>[⟨some (b1,0),[vb true]⟩,⟨some (b1,1),[sl (some (g_2.1,0)) ((r_2.2.1).length) ((r_2.2.1++nI).length)]⟩,⟨some (g_2.1,0),eI (r_2.2.1++nI)⟩,⟨some (b1,2),[sl (some (g_2.2.1,0)) ((r_2.2.2.1).length) ((r_2.2.2.1++nI).length)]⟩,⟨some (g_2.2.1,0),eI (r_2.2.2.1++nI)⟩,⟨some (b1,3),[sl (some (g_2.2.2.1,0)) ((r_2.2.2.2.1).length) ((r_2.2.2.2.1++nS).length)]⟩,⟨some (g_2.2.2.1,0),eS (r_2.2.2.2.1++nS)⟩,⟨some (b1,4),[vs r_2.1]⟩,⟨some (b1,5),[sl g_2.2.2.2.1 ((r_2.2.2.2.2.1).length) ((r_2.2.2.2.2.1++nS).length)]⟩,⟨g_2.2.2.2.1,eS (r_2.2.2.2.2.1++nS)⟩,⟨some (b1,6),[vs ([]:Str)]⟩,⟨some (b1,7),[vi 0]⟩,⟨some (b1,8),[vs j1.2.2.1]⟩,⟨some (b1,9),[sl g_2.2.2.2.2 ((r_2.2.2.2.2.2).length) ((r_2.2.2.2.2.2++nP).length)]⟩,⟨g_2.2.2.2.2,eF (fun p:Str × Str × Int × Int × Int × Int=>[vs p.1,vs p.2.1,vi p.2.2.1,vi p.2.2.2.1,vi p.2.2.2.2.1,vi p.2.2.2.2.2]) (r_2.2.2.2.2.2++nP)⟩,⟨some (b1,10),[vs ([]:Str)]⟩,⟨some (b1,11),[vi 700000]⟩,⟨some (b1,12),[vi 0]⟩,⟨some (b1,13),[vi 10]⟩,⟨some (b1,14),[vi 33290]⟩,⟨some (b8,0),[vi 1]⟩,⟨some (b8,1),[vs r_4]⟩,⟨some (b8,2),[vs ([]:Str)]⟩,⟨some (b8,3),[sl (some (b2,0)) ((([4865]:List (Int))).length) ((([4865]:List (Int))++nI).length)]⟩,⟨some (b2,0),eI (([4865]:List (Int))++nI)⟩,⟨some (b8,4),[vs ([]:Str)]⟩,⟨some (b8,5),[sl (some (b3,0)) ((([772]:List (Int))).length) ((([772]:List (Int))++nI).length)]⟩,⟨some (b3,0),eI (([772]:List (Int))++nI)⟩,⟨some (b8,6),[sl (some (b4,0)) ((([29]:List (Int))).length) ((([29]:List (Int))++nI).length)]⟩,⟨some (b4,0),eI (([29]:List (Int))++nI)⟩,⟨some (b8,7),[sl gj1.1 ((j1.2.2.2.1).length) ((j1.2.2.2.1++nI).length)]⟩,⟨gj1.1,eI (j1.2.2.2.1++nI)⟩,⟨some (b8,8),[sl gj1.2 ((j1.2.2.2.2.1).length) ((j1.2.2.2.2.1++nI).length)]⟩,⟨gj1.2,eI (j1.2.2.2.2.1++nI)⟩,⟨some (b8,9),[sl (some (b5,0)) ((([(29,([107#8]:Str))]:List (Int × Str))).length) ((([(29,([107#8]:Str))]:List (Int × Str))++nB).length)]⟩,⟨some (b5,0),eF (fun p:Int × Str=>[vi p.1,vs p.2]) (([(29,([107#8]:Str))]:List (Int × Str))++nB)⟩,⟨some (b8,10),[sl An17 ((nA).length) ((nA++nA).length)]⟩,⟨An17,eF (fun p:Str × Int=>[vs p.1,vi p.2]) (nA++nA)⟩,⟨some (b8,11),[sl (some (b7,0)) ((([r_5]:List (Str))).length) ((([r_5]:List (Str))++nS).length)]⟩,⟨some (b7,0),eS (([r_5]:List (Str))++nS)⟩,⟨some (b8,12),[vi 0]⟩,⟨some (b8,13),[sl An18 ((nI).length) ((nI++nI).length)]⟩,⟨An18,eI (nI++nI)⟩,⟨some (b8,14),[sl An19 ((nS).length) ((nS++nS).length)]⟩,⟨An19,eS (nS++nS)⟩,⟨some (b8,15),[vi 0]⟩,⟨some (b8,16),[vs ([]:Str)]⟩,⟨some (b8,17),[vi 0]⟩,⟨some (b8,18),[vi 0]⟩,⟨some (b8,19),[vs ([]:Str)]⟩,⟨some (b8,20),[vi 0]⟩,⟨some (b9,0),[vi j1.2.2.2.2.2.1]⟩,⟨some (b9,1),[vs r_6]⟩,⟨some (b9,2),[vi j1.2.2.2.2.2.2]⟩,⟨some (b9,3),[vi 0]⟩]) ?_ ?_
  ·intro gj1
   refine TX_block_normal (TX_next (TC_seq ?_))
   obtain ⟨r_7,hr_7,H⟩:=bind_elim H
   obtain ⟨r_8,hr_8,H⟩:=bind_elim H
   obtain ⟨h1,H⟩:=if_elim H
   obtain ⟨r_9,hr_9,H⟩:=bind_elim H
   refine TA_begin [] 10 (by kernel_rfl) (N:=10) rfl ?_
   refine TA_mix (is:=[]) (done':=dn 10 1023) [itV 0 66 (vs r_7) [],itV 1 67 (vs r_8) [],itV 2 68 (vs (([110#8]:Str)++r_8)) [1],itV 3 69 (aG [(1,[vi j1.2.2.2.2.2.1]),(1,[vs r_6]),(1,[vi j1.2.2.2.2.2.2]),(1,[vi 0])]) [],itV 4 70 (Value.tuple [vs r_9.1,vi r_9.2].toArray) [0,2,3],itV 5 65 (Value.tuple [vs r_9.1,vi r_9.2].toArray) [4],itV 6 71 (vs r_9.1) [5],itV 7 72 (vi r_9.2) [5],itV 8 12 (vs r_9.1) [6],itV 9 13 (vi r_9.2) [7]] [] 0 (by kernel_rfl) (QP.then QP.body) (by kernel_rfl) rfl (.e rfl (E_cu (F26_calls 32 r_7 hr_7) call26 .z) (.e rfl (E_cu (F26_calls 11 r_8 hr_8) call26 .z) (.v rfl (V_bin rfl rfl (fun w=>addS w ([110#8]:Str) r_8 h1)) (.v rfl (V_lp (b:=b9) (o:=0) (n:=4) (ps:=[(1,_),(1,_),(1,_),(1,_)]) ⟨.o 51, .o 52, .o 53, .o 54,trivial⟩ isAgg66 inf66) (.e rfl (E_cu (F29_calls r_7 (([110#8]:Str)++r_8) j1.2.2.2.2.2.1 r_6 j1.2.2.2.2.2.2 0 r_9 hr_9) call29 .z) (.v rfl (V_move rfl) (.v rfl V_ex (.v rfl V_ex (.v rfl (V_assign rfl) (.v rfl (V_assign rfl) .nil)))))))))) .nil (by kernel_rfl) rfl (fun γ=>?_)
   refine TA_cut [(13,vi r_9.2),(12,vs r_9.1),(2,vs seed),(7,ptr (some (b1,0)) 0),(8,ptr (some (b8,0)) 0),(10,vb j1.1),(11,vi j1.2.1)] [⟨some (b1,0),[vb true]⟩,⟨some (b1,1),[sl (some (g_2.1,0)) ((r_2.2.1).length) ((r_2.2.1++nI).length)]⟩,⟨some (g_2.1,0),eI (r_2.2.1++nI)⟩,⟨some (b1,2),[sl (some (g_2.2.1,0)) ((r_2.2.2.1).length) ((r_2.2.2.1++nI).length)]⟩,⟨some (g_2.2.1,0),eI (r_2.2.2.1++nI)⟩,⟨some (b1,3),[sl (some (g_2.2.2.1,0)) ((r_2.2.2.2.1).length) ((r_2.2.2.2.1++nS).length)]⟩,⟨some (g_2.2.2.1,0),eS (r_2.2.2.2.1++nS)⟩,⟨some (b1,4),[vs r_2.1]⟩,⟨some (b1,5),[sl g_2.2.2.2.1 ((r_2.2.2.2.2.1).length) ((r_2.2.2.2.2.1++nS).length)]⟩,⟨g_2.2.2.2.1,eS (r_2.2.2.2.2.1++nS)⟩,⟨some (b1,6),[vs ([]:Str)]⟩,⟨some (b1,7),[vi 0]⟩,⟨some (b1,8),[vs j1.2.2.1]⟩,⟨some (b1,9),[sl g_2.2.2.2.2 ((r_2.2.2.2.2.2).length) ((r_2.2.2.2.2.2++nP).length)]⟩,⟨g_2.2.2.2.2,eF (fun p:Str × Str × Int × Int × Int × Int=>[vs p.1,vs p.2.1,vi p.2.2.1,vi p.2.2.2.1,vi p.2.2.2.2.1,vi p.2.2.2.2.2]) (r_2.2.2.2.2.2++nP)⟩,⟨some (b1,10),[vs ([]:Str)]⟩,⟨some (b1,11),[vi 700000]⟩,⟨some (b1,12),[vi 0]⟩,⟨some (b1,13),[vi 10]⟩,⟨some (b1,14),[vi 33290]⟩,⟨some (b8,0),[vi 1]⟩,⟨some (b8,1),[vs r_4]⟩,⟨some (b8,2),[vs ([]:Str)]⟩,⟨some (b8,3),[sl (some (b2,0)) ((([4865]:List (Int))).length) ((([4865]:List (Int))++nI).length)]⟩,⟨some (b2,0),eI (([4865]:List (Int))++nI)⟩,⟨some (b8,4),[vs ([]:Str)]⟩,⟨some (b8,5),[sl (some (b3,0)) ((([772]:List (Int))).length) ((([772]:List (Int))++nI).length)]⟩,⟨some (b3,0),eI (([772]:List (Int))++nI)⟩,⟨some (b8,6),[sl (some (b4,0)) ((([29]:List (Int))).length) ((([29]:List (Int))++nI).length)]⟩,⟨some (b4,0),eI (([29]:List (Int))++nI)⟩,⟨some (b8,7),[sl gj1.1 ((j1.2.2.2.1).length) ((j1.2.2.2.1++nI).length)]⟩,⟨gj1.1,eI (j1.2.2.2.1++nI)⟩,⟨some (b8,8),[sl gj1.2 ((j1.2.2.2.2.1).length) ((j1.2.2.2.2.1++nI).length)]⟩,⟨gj1.2,eI (j1.2.2.2.2.1++nI)⟩,⟨some (b8,9),[sl (some (b5,0)) ((([(29,([107#8]:Str))]:List (Int × Str))).length) ((([(29,([107#8]:Str))]:List (Int × Str))++nB).length)]⟩,⟨some (b5,0),eF (fun p:Int × Str=>[vi p.1,vs p.2]) (([(29,([107#8]:Str))]:List (Int × Str))++nB)⟩,⟨some (b8,10),[sl An17 ((nA).length) ((nA++nA).length)]⟩,⟨An17,eF (fun p:Str × Int=>[vs p.1,vi p.2]) (nA++nA)⟩,⟨some (b8,11),[sl (some (b7,0)) ((([r_5]:List (Str))).length) ((([r_5]:List (Str))++nS).length)]⟩,⟨some (b7,0),eS (([r_5]:List (Str))++nS)⟩,⟨some (b8,12),[vi 0]⟩,⟨some (b8,13),[sl An18 ((nI).length) ((nI++nI).length)]⟩,⟨An18,eI (nI++nI)⟩,⟨some (b8,14),[sl An19 ((nS).length) ((nS++nS).length)]⟩,⟨An19,eS (nS++nS)⟩,⟨some (b8,15),[vi 0]⟩,⟨some (b8,16),[vs ([]:Str)]⟩,⟨some (b8,17),[vi 0]⟩,⟨some (b8,18),[vi 0]⟩,⟨some (b8,19),[vs ([]:Str)]⟩,⟨some (b8,20),[vi 0]⟩,⟨some (b9,0),[vi j1.2.2.2.2.2.1]⟩,⟨some (b9,1),[vs r_6]⟩,⟨some (b9,2),[vi j1.2.2.2.2.2.2]⟩,⟨some (b9,3),[vi 0]⟩] ⟨rfl,rfl,rfl,rfl,rfl,rfl,rfl,trivial⟩ rfl ?_
   refine TA_done (by kernel_rfl) ?_ 0
   refine TX_next (TC_seq (TC_region (TVm ?_)))
   refine TVm ?_
   refine TLv (V_len_str rfl underlying9) ?_
   refine TLv (V_buildStruct (pv:=[(0,vs r_9.1),(1,vi ((seed).length:Int))]) (pl:=[(0,1),(1,1)]) rfl rfl underlying60 inf60 places60 zer60 (cs:=flat [(1,[vs r_9.1]),(1,[vi ((seed).length:Int)])]) (by kernel_rfl)) ?_
   refine TLe (E_buildSlice (pv:=[(0,aG [(1,[vs r_9.1]),(1,[vi ((seed).length:Int)])])]) rfl rfl underlying28 inf60 (s:=2) rfl zer60 rfl rfl rfl (cs:=eF (fun p:Str × Int=>[vs p.1,vi p.2]) ([(r_9.1,((seed).length:Int))]:List (Str × Int))) (by kernel_rfl)) (fun b10=>?_)
   refine TLv (V_fieldE rfl underlying30 rfl rfl inf28 rfl (v:=ptr (some (b8,10)) 0) rfl) ?_
   refine TLn (E_store (j:=37) rfl rfl inf28 rfl rfl rfl (Nat.lt_succ_self 0) (cs':=[sl (some (b10,0)) 1 1]) rfl) (fun _=>?_)
   refine TL_reE (j:=0) (A:=some (b10,0)) (cs:=eF (fun p:Str × Int=>[vs p.1,vi p.2]) ([(r_9.1,((seed).length:Int))]:List (Str × Int))) (cs':=eF (fun p:Str × Int=>[vs p.1,vi p.2]) (([(r_9.1,((seed).length:Int))]:List (Str × Int))++nA)) rfl (congrArg (eF (fun p:Str × Int=>[vs p.1,vi p.2])) (List.append_nil _).symm) ?_
   refine TL_reE (j:=37) (A:=some (b8,10)) (cs:=[sl (some (b10,0)) 1 1]) (cs':=[sl (some (b10,0)) ((([(r_9.1,((seed).length:Int))]:List (Str × Int))).length) ((([(r_9.1,((seed).length:Int))]:List (Str × Int))++nA).length)]) rfl (congrArg (fun z=>[z]) (sl_row rfl)) ?_
   refine TL_nil (TX_next (TC.sub (m':=[(7,_),(8,_),(10,_),(11,_),(13,_)]) ⟨rfl,rfl,rfl,rfl,rfl,trivial⟩ ?_))
   refine TC.pull (is:=(rp 37 1++0 :: rp 13 1)) (L':=[_,_,_,_,_,_,_,_,_,_,_,_,_,_,_,_,_,_,_,_,_,_,_,_,_,_,_,_,_,_,_,_,_,_,_,_,_,_,_,_,_,_,_,_,_,_,_,_,_,_,_]) rfl ?_
   refine TC_seq (TC_region (TLv (V_lp (b:=b1) (o:=0) (n:=15) (ps:=[(1,_),(1,_),(1,_),(1,_),(1,_),(1,_),(1,_),(1,_),(1,_),(1,_),(1,_),(1,_),(1,_),(1,_),(1,_)]) ⟨.o 0, .o 1, .o 3, .o 5, .o 7, .o 8, .o 10, .o 11, .o 12, .o 13, .o 15, .o 16, .o 17, .o 18, .o 19,trivial⟩ isAgg26 inf26) ?_))
   refine TLv (V_lp (b:=b8) (o:=0) (n:=21) (ps:=[(1,_),(1,_),(1,_),(1,_),(1,_),(1,_),(1,_),(1,_),(1,_),(1,_),(1,_),(1,_),(1,_),(1,_),(1,_),(1,_),(1,_),(1,_),(1,_),(1,_),(1,_)]) ⟨.o 20, .o 21, .o 22, .o 23, .o 25, .o 26, .o 28, .o 30, .o 32, .o 34, .o 36, .o 38, .o 40, .o 41, .o 43, .o 45, .o 46, .o 47, .o 48, .o 49, .o 50,trivial⟩ isAgg30 inf30) ?_
   obtain ⟨r_10,hr_10,H⟩:=bind_elim H
   refine TLe (E_c0 (F12_calls (some (g_2.1,0)) ((r_2.2.1++nI).length) (some (g_2.2.1,0)) ((r_2.2.2.1++nI).length) (some (g_2.2.2.1,0)) ((r_2.2.2.2.1++nS).length) g_2.2.2.2.1 ((r_2.2.2.2.2.1++nS).length) g_2.2.2.2.2 ((r_2.2.2.2.2.2++nP).length) (some (b2,0)) ((([4865]:List (Int))++nI).length) (some (b3,0)) ((([772]:List (Int))++nI).length) (some (b4,0)) ((([29]:List (Int))++nI).length) gj1.1 ((j1.2.2.2.1++nI).length) gj1.2 ((j1.2.2.2.2.1++nI).length) (some (b5,0)) ((([(29,([107#8]:Str))]:List (Int × Str))++nB).length) (some (b10,0)) ((([(r_9.1,((seed).length:Int))]:List (Str × Int))++nA).length) (some (b7,0)) ((([r_5]:List (Str))++nS).length) An18 ((nI++nI).length) An19 ((nS++nS).length) true r_2.2.1 r_2.2.2.1 r_2.2.2.2.1 r_2.1 r_2.2.2.2.2.1 ([]:Str) 0 j1.2.2.1 r_2.2.2.2.2.2 ([]:Str) 700000 0 10 33290 1 r_4 ([]:Str) ([4865]:List (Int)) ([]:Str) ([772]:List (Int)) ([29]:List (Int)) j1.2.2.2.1 j1.2.2.2.2.1 ([(29,([107#8]:Str))]:List (Int × Str)) ([(r_9.1,((seed).length:Int))]:List (Str × Int)) ([r_5]:List (Str)) 0 nI nS 0 ([]:Str) 0 0 ([]:Str) 0 false 0 (row_le _ _) (row_le _ _) (row_le _ _) (row_le _ _) (row_le _ _) (row_le _ _) (row_le _ _) (row_le _ _) (row_le _ _) (row_le _ _) (row_le _ _) (row_le _ _) (row_le _ _) (row_le _ _) (row_le _ _) r_10 hr_10) call12 ⟨(srcdRow (.o 2)),(srcdRow (.o 4)),(srcdRow (.o 6)),(srcdRow (.o 9)),(srcdRowF (s:=6) (fun _=>rfl) (.o 14)),(srcdRow (.o 24)),(srcdRow (.o 27)),(srcdRow (.o 29)),(srcdRow (.o 31)),(srcdRow (.o 33)),(srcdRowF (s:=2) (fun _=>rfl) (.o 35)),(srcdRowF (s:=2) (fun _=>rfl) (.o 37)),(srcdRow (.o 39)),(srcdRow (.o 42)),(srcdRow (.o 44)), .r 0,trivial⟩) (fun g_10=>?_)
   refine TLe (E_ap inf34 zer34) (fun b11=>?_)
   refine TLn (E_sq (b:=b11) (o:=0) [0,0,0,0,0,0] [(1,_),(1,_),(1,_),(1,_),(1,_),(1,_)] rfl inf34) (fun _=>?_)
   refine TL_nil (TX_next (TC.sub (m':=[(10,_),(11,_),(13,_),(14,_)]) ⟨rfl,rfl,rfl,rfl,trivial⟩ ?_))
   refine TC.pull (is:=[0,0,0,0,0,0]) (L':=[_,_,_,_,_,_]) rfl ?_
   refine TC_seq (TC_seq (TC_region (TVm ?_)))
   refine TL_nil (TX_next (TCb H (fun hc H=>?_) (fun hc H=>?_)))
   ·refine TC_seq (TC_region (TVm ?_))
    refine TLv (V_bin rfl rfl (fun w=>eqlI w r_9.2 0)) ?_
    refine TVm ?_
    obtain ⟨j2,Hj,H⟩:=bind_elim H
    refine TL_join (Γ:=Unit) (fun gj2=>[(6,vb j2)]) (fun gj2=>[]) ?_ ?_
    ·intro gj2
     refine TX_next (TC_ret (TX_then_ret ?_))
     obtain rfl:=sj H
     exact TX1
    ·intro hJ
     replace H:=Hj
     refine TFd (d:=85) H (fun hc H=>?_) (fun hc H=>?_)
     ·refine TLw (V_lp (b:=b11) (o:=0) (n:=6) (ps:=[(1,_),(1,_),(1,_),(1,_),(1,_),(1,_)]) ⟨.o 0, .o 1, .o 2, .o 3, .o 4, .o 5,trivial⟩ isAgg34 inf34) ?_
      refine TLw (V_buildStruct (pv:=[(0,vi 4865),(1,vi 29),(2,vs ([107#8]:Str)),(4,vb true),(5,vi (-1))]) (pl:=[(0,1),(1,1),(2,1),(3,1),(4,1),(5,1)]) rfl rfl underlying34 inf34 places34 zer34 (cs:=flat [(1,[vi 4865]),(1,[vi 29]),(1,[vs ([107#8]:Str)]),(1,[vb false]),(1,[vb true]),(1,[vi (-1)])]) (by kernel_rfl)) ?_
      refine TLw (V_bin rfl rfl (fun w=>eqlSt w underlying34 (by kernel_rfl) (by kernel_rfl) [Lf.i r_10.1,Lf.i r_10.2.1,Lf.s r_10.2.2.1,Lf.b r_10.2.2.2.1,Lf.b r_10.2.2.2.2.1,Lf.i r_10.2.2.2.2.2] [Lf.i 4865,Lf.i 29,Lf.s ([107#8]:Str),Lf.b false,Lf.b true,Lf.i (-1)] (by kernel_rfl) (by kernel_rfl) (by kernel_rfl) (by kernel_rfl))) ?_
      refine TVt ?_
      refine TVa ?_
      obtain ⟨x2,hx2,H⟩:=ltt_elim H
      refine TLr 6 (congrArg vb hx2) ?_
      refine TL_nil ?_
      obtain rfl:=sj H
      exact TXj [] (hJ ())
     ·refine TLs ?_
      refine TLs ?_
      refine TLs ?_
      refine TVf ?_
      refine TVa ?_
      refine TL_nil ?_
      obtain rfl:=sj H
      exact TXj [] (hJ ())
   ·refine TC_skip (TX_next (TC_seq (TC_seq (TC_region (TVm ?_)))))
    refine TLv (V_bin rfl rfl (fun w=>lssI w j1.2.1 0)) ?_
    refine TL_nil (TX_next (TCd H (fun hc H=>?_) (fun hc H=>?_)))
    ·refine TC_seq (TC_region (TVm ?_))
     refine TLv (V_bin rfl rfl (fun w=>eqlI w r_9.2 0)) ?_
     refine TVm ?_
     obtain ⟨j3,Hj,H⟩:=bind_elim H
     refine TL_join (Γ:=Unit) (fun gj3=>[(6,vb j3)]) (fun gj3=>[]) ?_ ?_
     ·intro gj3
      refine TX_next (TC_ret (TX_then_ret ?_))
      obtain rfl:=sj H
      exact TX1
     ·intro hJ
      replace H:=Hj
      refine TFd (d:=94) H (fun hc H=>?_) (fun hc H=>?_)
      ·refine TLw (V_lp (b:=b11) (o:=0) (n:=6) (ps:=[(1,_),(1,_),(1,_),(1,_),(1,_),(1,_)]) ⟨.o 0, .o 1, .o 2, .o 3, .o 4, .o 5,trivial⟩ isAgg34 inf34) ?_
       refine TLw (V_buildStruct (pv:=[(0,vi 4865),(1,vi 29),(2,vs ([107#8]:Str)),(5,vi (-1))]) (pl:=[(0,1),(1,1),(2,1),(3,1),(4,1),(5,1)]) rfl rfl underlying34 inf34 places34 zer34 (cs:=flat [(1,[vi 4865]),(1,[vi 29]),(1,[vs ([107#8]:Str)]),(1,[vb false]),(1,[vb false]),(1,[vi (-1)])]) (by kernel_rfl)) ?_
       refine TLw (V_bin rfl rfl (fun w=>eqlSt w underlying34 (by kernel_rfl) (by kernel_rfl) [Lf.i r_10.1,Lf.i r_10.2.1,Lf.s r_10.2.2.1,Lf.b r_10.2.2.2.1,Lf.b r_10.2.2.2.2.1,Lf.i r_10.2.2.2.2.2] [Lf.i 4865,Lf.i 29,Lf.s ([107#8]:Str),Lf.b false,Lf.b false,Lf.i (-1)] (by kernel_rfl) (by kernel_rfl) (by kernel_rfl) (by kernel_rfl))) ?_
       refine TVt ?_
       refine TVa ?_
       obtain ⟨x3,hx3,H⟩:=ltt_elim H
       refine TLr 6 (congrArg vb hx3) ?_
       refine TL_nil ?_
       obtain rfl:=sj H
       exact TXj [] (hJ ())
      ·refine TLs ?_
       refine TLs ?_
       refine TLs ?_
       refine TVf ?_
       refine TVa ?_
       refine TL_nil ?_
       obtain rfl:=sj H
       exact TXj [] (hJ ())
    ·refine TC_skip (TX_next (TC_seq (TC_region (TVm ?_))))
     refine TLv (V_bin rfl rfl (fun w=>eqlI w r_9.2 0)) ?_
     refine TVm ?_
     refine TFd (d:=101) H (fun hc H=>?_) (fun hc H=>?_)
     ·refine TLw (V_lp (b:=b11) (o:=0) (n:=6) (ps:=[(1,_),(1,_),(1,_),(1,_),(1,_),(1,_)]) ⟨.o 0, .o 1, .o 2, .o 3, .o 4, .o 5,trivial⟩ isAgg34 inf34) ?_
      refine TLw (V_move rfl) ?_
      refine TLw (V_buildStruct (pv:=[(5,vi j1.2.1)]) (pl:=[(0,1),(1,1),(2,1),(3,1),(4,1),(5,1)]) rfl rfl underlying34 inf34 places34 zer34 (cs:=flat [(1,[vi 0]),(1,[vi 0]),(1,[vs ([]:Str)]),(1,[vb false]),(1,[vb false]),(1,[vi j1.2.1])]) (by kernel_rfl)) ?_
      refine TLw (V_bin rfl rfl (fun w=>eqlSt w underlying34 (by kernel_rfl) (by kernel_rfl) [Lf.i r_10.1,Lf.i r_10.2.1,Lf.s r_10.2.2.1,Lf.b r_10.2.2.2.1,Lf.b r_10.2.2.2.2.1,Lf.i r_10.2.2.2.2.2] [Lf.i 0,Lf.i 0,Lf.s ([]:Str),Lf.b false,Lf.b false,Lf.i j1.2.1] (by kernel_rfl) (by kernel_rfl) (by kernel_rfl) (by kernel_rfl))) ?_
      refine TVt ?_
      refine TVa ?_
      obtain ⟨x4,hx4,H⟩:=ltt_elim H
      refine TLr 6 (congrArg vb hx4) ?_
      refine TL_nil (TX_next (TC_ret ?_))
      obtain rfl:=sj H
      exact TX1
     ·refine TLs ?_
      refine TLs ?_
      refine TLs ?_
      refine TLs ?_
      refine TVf ?_
      refine TVa ?_
      refine TL_nil (TX_next (TC_ret ?_))
      obtain rfl:=sj H
      exact TX1
  ·intro hJ
   replace H:=Hj
   refine TCb H (fun hc H=>?_) (fun hc H=>?_)
   ·refine TC_seq (TC_region (TVm ?_))
    refine TLv (V_bin rfl rfl (fun w=>andI w made 1048575)) ?_
    obtain ⟨x5,hx5,H⟩:=ltt_elim H
    refine TLr 39 (congrArg vi hx5) ?_
    refine TLv (V_fieldE rfl underlying66 rfl rfl inf3 rfl (v:=ptr (some (b9,2)) 0) rfl) ?_
    refine TLn (E_store (j:=53) rfl rfl inf3 rfl rfl rfl (Nat.lt_succ_self 0) (cs':=[vi x5]) rfl) (fun _=>?_)
    refine TL_nil (TX_next (TC_region (TLv (V_fieldE rfl underlying66 rfl rfl inf3 rfl (v:=ptr (some (b9,2)) 0) rfl) ?_)))
    refine TLv (V_load rfl (.o 53) rfl isAgg3) ?_
    refine TLv (V_bin rfl rfl (fun w=>leqI w x5 700000)) ?_
    refine TVm ?_
    refine TFd (d:=44) H (fun hc H=>?_) (fun hc H=>?_)
    ·refine TLw (V_fieldE rfl underlying66 rfl rfl inf3 rfl (v:=ptr (some (b9,2)) 0) rfl) ?_
     refine TLw (V_load rfl (.o 53) rfl isAgg3) ?_
     refine TLw (V_bin rfl rfl (fun w=>subI w 700000 x5)) ?_
     refine TLw (V_bin rfl rfl (fun w=>leqI w (w64 (700000 - x5)) 604800)) ?_
     refine TVt ?_
     refine TVa ?_
     obtain ⟨fine1,hfine1,H⟩:=ltt_elim H
     refine TLr 10 (congrArg vb hfine1) ?_
     refine TL_nil ?_
     obtain rfl:=sj H
     exact TXj (rp 55 0) (hJ (An16,some (b6,0)))
    ·refine TLs ?_
     refine TLs ?_
     refine TLs ?_
     refine TLs ?_
     refine TVf ?_
     refine TVa ?_
     refine TL_nil ?_
     obtain rfl:=sj H
     exact TXj (rp 55 0) (hJ (An16,some (b6,0)))
   ·refine TC_seq (TC_region (TLv (V_bin rfl rfl (fun w=>eql64 w ((BitVec.ofInt 64 which) % 6#64) 2#64)) ?_))
    refine TVa ?_
    obtain ⟨x6,hx6,H⟩:=ltt_elim H
    refine TLr 50 (congrArg vb hx6) ?_
    refine TL_nil (TX_next (TCb H (fun hc H=>?_) (fun hc H=>?_)))
    ·refine TC_seq (TC_region (TLv (V_fieldE rfl underlying66 rfl rfl inf3 rfl (v:=ptr (some (b9,0)) 0) rfl) ?_))
     refine TLn (E_store (j:=51) rfl rfl inf3 rfl rfl rfl (Nat.lt_succ_self 0) (cs':=[vi 4867]) rfl) (fun _=>?_)
     refine TL_nil (TX_next (TC_region (TVa ?_)))
     refine TL_nil ?_
     obtain rfl:=sj H
     exact TXj (rp 55 0) (hJ (An16,some (b6,0)))
    ·refine TC_seq (TC_region (TLv (V_bin rfl rfl (fun w=>eql64 w ((BitVec.ofInt 64 which) % 6#64) 3#64)) ?_))
     refine TVa ?_
     obtain ⟨x7,hx7,H⟩:=ltt_elim H
     refine TLr 53 (congrArg vb hx7) ?_
     refine TL_nil (TX_next (TCb H (fun hc H=>?_) (fun hc H=>?_)))
     ·refine TC_seq (TC_region (TLe (E_buildSlice (pv:=[(0,vi 0)]) rfl rfl underlying22 inf3 (s:=1) rfl zer3 rfl rfl rfl (cs:=eI ([0]:List (Int))) (by kernel_rfl)) (fun b12=>?_)))
      refine TLv (V_fieldE rfl underlying30 rfl rfl inf22 rfl (v:=ptr (some (b8,8)) 0) rfl) ?_
      refine TLn (E_store (j:=33) rfl rfl inf22 rfl rfl rfl (Nat.lt_succ_self 0) (cs':=[sl (some (b12,0)) 1 1]) rfl) (fun _=>?_)
      refine TL_reE (j:=0) (A:=some (b12,0)) (cs:=eI ([0]:List (Int))) (cs':=eI (([0]:List (Int))++nI)) rfl (congrArg (eI) (List.append_nil _).symm) ?_
      refine TL_reE (j:=33) (A:=some (b8,8)) (cs:=[sl (some (b12,0)) 1 1]) (cs':=[sl (some (b12,0)) ((([0]:List (Int))).length) ((([0]:List (Int))++nI).length)]) rfl (congrArg (fun z=>[z]) (sl_row rfl)) ?_
      refine TL_nil (TX_next (TC.sub (m':=[(2,_),(7,_),(8,_),(9,_),(11,_)]) ⟨rfl,rfl,rfl,rfl,rfl,trivial⟩ ?_))
      refine TC.pull (is:=(rp 33 1++0 :: rp 21 1)) (L':=[_,_,_,_,_,_,_,_,_,_,_,_,_,_,_,_,_,_,_,_,_,_,_,_,_,_,_,_,_,_,_,_,_,_,_,_,_,_,_,_,_,_,_,_,_,_,_,_,_,_,_,_,_,_,_]) rfl ?_
      refine TC_region (TVa ?_)
      refine TL_nil ?_
      obtain rfl:=sj H
      exact TXj (rp 55 0) (hJ (An16,some (b12,0)))
     ·refine TC_seq (TC_region (TLv (V_bin rfl rfl (fun w=>eql64 w ((BitVec.ofInt 64 which) % 6#64) 4#64)) ?_))
      refine TVa ?_
      obtain ⟨x8,hx8,H⟩:=ltt_elim H
      refine TLr 57 (congrArg vb hx8) ?_
      refine TL_nil (TX_next (TCb H (fun hc H=>?_) (fun hc H=>?_)))
      ·refine TC_seq (TC_region (TLv (V_fieldE rfl underlying30 rfl rfl inf22 rfl (v:=ptr (some (b8,8)) 0) rfl) ?_))
       refine TLn (E_store (j:=32) rfl rfl inf22 rfl rfl rfl (Nat.lt_succ_self 0) (cs':=[sl none 0 0]) rfl) (fun _=>?_)
       refine TL_gen (Lf:=fun An20=>[⟨some (b1,0),[vb true]⟩,⟨some (b1,1),[sl (some (g_2.1,0)) ((r_2.2.1).length) ((r_2.2.1++nI).length)]⟩,⟨some (g_2.1,0),eI (r_2.2.1++nI)⟩,⟨some (b1,2),[sl (some (g_2.2.1,0)) ((r_2.2.2.1).length) ((r_2.2.2.1++nI).length)]⟩,⟨some (g_2.2.1,0),eI (r_2.2.2.1++nI)⟩,⟨some (b1,3),[sl (some (g_2.2.2.1,0)) ((r_2.2.2.2.1).length) ((r_2.2.2.2.1++nS).length)]⟩,⟨some (g_2.2.2.1,0),eS (r_2.2.2.2.1++nS)⟩,⟨some (b1,4),[vs r_2.1]⟩,⟨some (b1,5),[sl g_2.2.2.2.1 ((r_2.2.2.2.2.1).length) ((r_2.2.2.2.2.1++nS).length)]⟩,⟨g_2.2.2.2.1,eS (r_2.2.2.2.2.1++nS)⟩,⟨some (b1,6),[vs ([]:Str)]⟩,⟨some (b1,7),[vi 0]⟩,⟨some (b1,8),[vs r_3]⟩,⟨some (b1,9),[sl g_2.2.2.2.2 ((r_2.2.2.2.2.2).length) ((r_2.2.2.2.2.2++nP).length)]⟩,⟨g_2.2.2.2.2,eF (fun p:Str × Str × Int × Int × Int × Int=>[vs p.1,vs p.2.1,vi p.2.2.1,vi p.2.2.2.1,vi p.2.2.2.2.1,vi p.2.2.2.2.2]) (r_2.2.2.2.2.2++nP)⟩,⟨some (b1,10),[vs ([]:Str)]⟩,⟨some (b1,11),[vi 700000]⟩,⟨some (b1,12),[vi 0]⟩,⟨some (b1,13),[vi 10]⟩,⟨some (b1,14),[vi 33290]⟩,⟨some (b8,0),[vi 1]⟩,⟨some (b8,1),[vs r_4]⟩,⟨some (b8,2),[vs ([]:Str)]⟩,⟨some (b8,3),[sl (some (b2,0)) ((([4865]:List (Int))).length) ((([4865]:List (Int))++nI).length)]⟩,⟨some (b2,0),eI (([4865]:List (Int))++nI)⟩,⟨some (b8,4),[vs ([]:Str)]⟩,⟨some (b8,5),[sl (some (b3,0)) ((([772]:List (Int))).length) ((([772]:List (Int))++nI).length)]⟩,⟨some (b3,0),eI (([772]:List (Int))++nI)⟩,⟨some (b8,6),[sl (some (b4,0)) ((([29]:List (Int))).length) ((([29]:List (Int))++nI).length)]⟩,⟨some (b4,0),eI (([29]:List (Int))++nI)⟩,⟨some (b8,7),[sl An16 ((nI).length) ((nI++nI).length)]⟩,⟨An16,eI (nI++nI)⟩,⟨some (b8,8),[sl An20 ((nI).length) ((nI++nI).length)]⟩,⟨some (b6,0),eI (([0,1]:List (Int))++nI)⟩,⟨some (b8,9),[sl (some (b5,0)) ((([(29,([107#8]:Str))]:List (Int × Str))).length) ((([(29,([107#8]:Str))]:List (Int × Str))++nB).length)]⟩,⟨some (b5,0),eF (fun p:Int × Str=>[vi p.1,vs p.2]) (([(29,([107#8]:Str))]:List (Int × Str))++nB)⟩,⟨some (b8,10),[sl An17 ((nA).length) ((nA++nA).length)]⟩,⟨An17,eF (fun p:Str × Int=>[vs p.1,vi p.2]) (nA++nA)⟩,⟨some (b8,11),[sl (some (b7,0)) ((([r_5]:List (Str))).length) ((([r_5]:List (Str))++nS).length)]⟩,⟨some (b7,0),eS (([r_5]:List (Str))++nS)⟩,⟨some (b8,12),[vi 0]⟩,⟨some (b8,13),[sl An18 ((nI).length) ((nI++nI).length)]⟩,⟨An18,eI (nI++nI)⟩,⟨some (b8,14),[sl An19 ((nS).length) ((nS++nS).length)]⟩,⟨An19,eS (nS++nS)⟩,⟨some (b8,15),[vi 0]⟩,⟨some (b8,16),[vs ([]:Str)]⟩,⟨some (b8,17),[vi 0]⟩,⟨some (b8,18),[vi 0]⟩,⟨some (b8,19),[vs ([]:Str)]⟩,⟨some (b8,20),[vi 0]⟩,⟨some (b9,0),[vi 4865]⟩,⟨some (b9,1),[vs r_6]⟩,⟨some (b9,2),[vi 690000]⟩,⟨some (b9,3),[vi 0]⟩]) (z:=eI (nI++nI)) rfl rfl (fun An20=>?_)
       refine TL_nil (TX_next (TC_region (TVa ?_)))
       refine TL_nil ?_
       obtain rfl:=sj H
       exact TXj (rp 33 1++0 :: rp 21 1) (hJ (An16,An20))
      ·refine TC_seq (TC_region (TLv (V_bin rfl rfl (fun w=>eql64 w ((BitVec.ofInt 64 which) % 6#64) 5#64)) ?_))
       refine TVa ?_
       obtain ⟨x9,hx9,H⟩:=ltt_elim H
       refine TLr 60 (congrArg vb hx9) ?_
       refine TL_nil (TX_next (TCb H (fun hc H=>?_) (fun hc H=>?_)))
       ·refine TC_seq (TC_region (TLe (E_buildSlice (pv:=[(0,vi 1027)]) rfl rfl underlying22 inf3 (s:=1) rfl zer3 rfl rfl rfl (cs:=eI ([1027]:List (Int))) (by kernel_rfl)) (fun b13=>?_)))
        refine TLv (V_fieldE rfl underlying30 rfl rfl inf22 rfl (v:=ptr (some (b8,7)) 0) rfl) ?_
        refine TLn (E_store (j:=31) rfl rfl inf22 rfl rfl rfl (Nat.lt_succ_self 0) (cs':=[sl (some (b13,0)) 1 1]) rfl) (fun _=>?_)
        refine TL_reE (j:=0) (A:=some (b13,0)) (cs:=eI ([1027]:List (Int))) (cs':=eI (([1027]:List (Int))++nI)) rfl (congrArg (eI) (List.append_nil _).symm) ?_
        refine TL_reE (j:=31) (A:=some (b8,7)) (cs:=[sl (some (b13,0)) 1 1]) (cs':=[sl (some (b13,0)) ((([1027]:List (Int))).length) ((([1027]:List (Int))++nI).length)]) rfl (congrArg (fun z=>[z]) (sl_row rfl)) ?_
        refine TL_nil (TX_next (TC.sub (m':=[(2,_),(7,_),(8,_),(9,_)]) ⟨rfl,rfl,rfl,rfl,trivial⟩ ?_))
        refine TC.pull (is:=(rp 31 1++0 :: rp 23 1)) (L':=[_,_,_,_,_,_,_,_,_,_,_,_,_,_,_,_,_,_,_,_,_,_,_,_,_,_,_,_,_,_,_,_,_,_,_,_,_,_,_,_,_,_,_,_,_,_,_,_,_,_,_,_,_,_,_]) rfl ?_
        refine TC_seq (TC_region (TLv (V_fieldE rfl underlying26 rfl rfl inf9 rfl (v:=ptr (some (b1,8)) 0) rfl) ?_))
        refine TLn (E_store (j:=12) rfl rfl inf9 rfl rfl rfl (Nat.lt_succ_self 0) (cs':=[vs ([]:Str)]) rfl) (fun _=>?_)
        refine TL_nil (TX_next (TC_seq (TC_region (TVa ?_))))
        refine TL_nil (TX_next (TC_region (TVa ?_)))
        refine TL_nil ?_
        obtain rfl:=sj H
        exact TXj (rp 55 0) (hJ (some (b13,0),some (b6,0)))
       ·refine TC_skip ?_
        obtain rfl:=sj H
        exact TXj (rp 55 0) (hJ (An16,some (b6,0)))
end Go.Proofs
end

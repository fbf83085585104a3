/-
  Part 29 of the proof of what several laws share.
-/
import Derived.Test.YtkgeoekcnlgfnaaGreatDoorKc1
import Derived.Test.YtkgeoekcnlgfnaaGreatDoorKc2
import Derived.Test.YtkgeoekcnlgfnaaGreatDoorKc3
import Derived.Test.YtkgeoekcnlgfnaaGreatDoorKc4
import Derived.Test.YtkgeoekcnlgfnaaGreatDoorKc5
import Derived.Test.YtkgeoekcnlgfnaaGreatDoorKc6
import Derived.Test.YtkgeoekcnlgfnaaGreatDoorKc7
import Derived.Test.YtkgeoekcnlgfnaaGreatDoorKc8
import Derived.Test.YtkgeoekcnlgfnaaGreatDoorKc9
import Derived.Test.YtkgeoekcnlgfnaaGreatDoorKc10
import Derived.Test.YtkgeoekcnlgfnaaGreatDoorKc11
import Derived.Test.YtkgeoekcnlgfnaaGreatDoorKc12
import Derived.Test.YtkgeoekcnlgfnaaGreatDoorKc13
import Derived.Test.YtkgeoekcnlgfnaaGreatDoorKc14
import Derived.Test.YtkgeoekcnlgfnaaGreatDoorKc15
import Derived.Test.YtkgeoekcnlgfnaaGreatDoorKc16
import Derived.Test.YtkgeoekcnlgfnaaGreatDoorKc17
import Derived.Test.YtkgeoekcnlgfnaaGreatDoorKc18
import Derived.Test.YtkgeoekcnlgfnaaGreatDoorKc19
import Derived.Test.YtkgeoekcnlgfnaaGreatDoorKc20
import Derived.Test.YtkgeoekcnlgfnaaGreatDoorKc21
import Derived.Test.YtkgeoekcnlgfnaaGreatDoorKc22
import Derived.Test.YtkgeoekcnlgfnaaGreatDoorKc23
import Derived.Test.YtkgeoekcnlgfnaaGreatDoorKc27
import Derived.Test.YtkgeoekcnlgfnaaGreatDoorKc28
set_option linter.unusedVariables false
set_option linter.unusedSimpArgs false
section
namespace Go.Proofs
open Go Go.Kx
open TryzI Tryz
def halberdlaw0_Num (e:Int):Option (Int) :=
 some e
set_option maxHeartbeats 4000000 in
set_option maxRecDepth 20000 in
theorem F19_calls (e:Int) (r:Int) (H:halberdlaw0_Num e=some r) :
  Does Tryz.prog 19 [vi e] [] [] (Γ:=Unit) (fun g=>vi r) (fun g=>[]):=by
 intro w hmem hro hd
 refine calls_of (N:=4) (m0:=[(0,vi e)]) func19 rfl ntmps19 (argM_ok [vi e]) rfl hmem hro hd ?_
 unfold halberdlaw0_Num at H
 refine TC_seq (TC_region (TVa ?_))
 refine TL_nil (TX_next (TC_seq (TC_region (TVm ?_))))
 refine TVa ?_
 refine TL_nil (TX_next (TC_ret ?_))
 obtain rfl:=sj H
 exact TX1
end Go.Proofs
end

section
namespace Go.Proofs
open Go Go.Kx
open TryzI Tryz
def halberdlaw24_awake:Option (Bool) :=
 if (List.replicate 32 0#8).length=32 then (ltt (List.replicate 32 0#8) fun (z1:Str)=>((hello_First false ([4865]:List (Int)) ([29]:List (Int)) ([]:List (Str)) ([]:Str) ([]:List (Str)) ([]:Str) 0 ([]:Str) ([]:List (Str × Str × Int × Int × Int × Int)) ([]:Str) 0 0 4 33290 z1 z1 ([107#8]:Str)).bind fun (r_1:Int × Str × Str × Str × Int × List (Int) × List (Int) × List (Int) × List (Int) × List (Int) × (List (Int × Str)) × (List (Str × Int)) × List (Str) × List (Int) × List (Str))=>((hello_First false ([]:List (Int)) ([]:List (Int)) ([]:List (Str)) ([]:Str) ([]:List (Str)) ([]:Str) 0 ([]:Str) ([]:List (Str × Str × Int × Int × Int × Int)) ([]:Str) 0 0 0 0 z1 z1 ([107#8]:Str)).bind fun (r_2:Int × Str × Str × Str × Int × List (Int) × List (Int) × List (Int) × List (Int) × List (Int) × (List (Int × Str)) × (List (Str × Int)) × List (Str) × List (Int) × List (Str))=>((hello_Choose false ([4865]:List (Int)) ([29]:List (Int)) ([]:List (Str)) ([]:Str) ([]:List (Str)) ([]:Str) 0 ([]:Str) ([]:List (Str × Str × Int × Int × Int × Int)) ([]:Str) 0 0 4 33290 r_1.1 r_1.2.1 r_1.2.2.1 r_1.2.2.2.2.2.1 r_1.2.2.2.1 r_1.2.2.2.2.2.2.1 r_1.2.2.2.2.2.2.2.1 r_1.2.2.2.2.2.2.2.2.1 r_1.2.2.2.2.2.2.2.2.2.1 r_1.2.2.2.2.2.2.2.2.2.2.1 r_1.2.2.2.2.2.2.2.2.2.2.2.1 r_1.2.2.2.2.2.2.2.2.2.2.2.2.1 0 r_1.2.2.2.2.2.2.2.2.2.2.2.2.2.1 r_1.2.2.2.2.2.2.2.2.2.2.2.2.2.2 0 ([]:Str) 0 0 ([]:Str) 0 false 0).bind fun (r_3:Int × Int × Str × Bool × Bool × Int)=>((hello_May false ([4865]:List (Int)) ([29]:List (Int)) ([]:List (Str)) ([]:Str) ([]:List (Str)) ([]:Str) 0 ([]:Str) ([]:List (Str × Str × Int × Int × Int × Int)) ([]:Str) 0 0 4 33290).bind fun (r_4:Bool)=>(if r_4=true then ((hello_May false ([]:List (Int)) ([]:List (Int)) ([]:List (Str)) ([]:Str) ([]:List (Str)) ([]:Str) 0 ([]:Str) ([]:List (Str × Str × Int × Int × Int × Int)) ([]:Str) 0 0 0 0).bind fun (r_5:Bool)=>(if (!r_5)=true then ((halberdlaw0_Num r_1.2.2.2.2.1).bind fun (r_6:Int)=>(if r_6=0 then (if r_1.1=1 then (if ((r_1.2.2.2.2.2.2.2.2.2.2.1).length:Int)=1 then ((halberdlaw0_Num r_2.2.2.2.2.1).bind fun (r_7:Int)=>(if r_7=2400 then (ltt (Lf.all [Lf.i r_3.1,Lf.i r_3.2.1,Lf.s r_3.2.2.1,Lf.b r_3.2.2.2.1,Lf.b r_3.2.2.2.2.1,Lf.i r_3.2.2.2.2.2] [Lf.i 0,Lf.i 0,Lf.s ([]:Str),Lf.b false,Lf.b false,Lf.i 40]) fun (x1:Bool)=>(some x1)) else (some false))) else (some false)) else (some false)) else (some false))) else (some false))) else (some false))))))) else none
set_option maxHeartbeats 4000000 in
set_option maxRecDepth 20000 in
theorem F22_calls (r:Bool) (H:halberdlaw24_awake=some r) :
  Does Tryz.prog 22 [] [] [⟨some (0,0),[hdE]⟩] (Γ:=Unit) (fun g=>vb r) (fun g=>[]):=by
 intro w hmem hro hd
 refine calls_of (N:=63) (m0:=[]) func22 rfl ntmps22 (argM_ok []) rfl hmem hro hd ?_
 unfold halberdlaw24_awake at H
 refine TC_seq (TC_region (TVa ?_))
 refine TL_nil (TX_next (TC_seq (TC_region (TLe (E_buildSlice (pv:=[(0,vi 4865)]) rfl rfl underlying22 inf3 (s:=1) rfl zer3 rfl rfl rfl (cs:=eI ([4865]:List (Int))) (by kernel_rfl)) (fun b1=>?_)))))
 refine TLe (E_buildSlice (pv:=[(0,vi 29)]) rfl rfl underlying22 inf3 (s:=1) rfl zer3 rfl rfl rfl (cs:=eI ([29]:List (Int))) (by kernel_rfl)) (fun b2=>?_)
 refine TLv (V_buildStruct (pv:=[(1,sl (some (b1,0)) 1 1),(2,sl (some (b2,0)) 1 1),(13,vi 4),(14,vi 33290)]) (pl:=[(0,1),(1,1),(2,1),(3,1),(4,1),(5,1),(6,1),(7,1),(8,1),(9,1),(10,1),(11,1),(12,1),(13,1),(14,1)]) rfl rfl underlying26 inf26 places26 zer26 (cs:=flat [(1,[vb false]),(1,[sl (some (b1,0)) 1 1]),(1,[sl (some (b2,0)) 1 1]),(1,[sl none 0 0]),(1,[vs ([]:Str)]),(1,[sl none 0 0]),(1,[vs ([]:Str)]),(1,[vi 0]),(1,[vs ([]:Str)]),(1,[sl none 0 0]),(1,[vs ([]:Str)]),(1,[vi 0]),(1,[vi 0]),(1,[vi 4]),(1,[vi 33290])]) (by kernel_rfl)) ?_
 refine TLe (E_ap inf26 zer26) (fun b3=>?_)
 refine TL_gen5 (Lf:=fun An1 An2 An3 An4 An5=>[⟨An5,eF (fun p:Str × Str × Int × Int × Int × Int=>[vs p.1,vs p.2.1,vi p.2.2.1,vi p.2.2.2.1,vi p.2.2.2.2.1,vi p.2.2.2.2.2]) (nP++nP)⟩,⟨An4,eS (nS++nS)⟩,⟨An3,eS (nS++nS)⟩,⟨An2,eI (nI++nI)⟩,⟨An1,eI (nI++nI)⟩,⟨some (b3,0),[vb false]⟩,⟨some (b3,1),[sl An1 ((nI).length) ((nI++nI).length)]⟩,⟨some (b3,2),[sl An2 ((nI).length) ((nI++nI).length)]⟩,⟨some (b3,3),[sl An3 ((nS).length) ((nS++nS).length)]⟩,⟨some (b3,4),[vs ([]:Str)]⟩,⟨some (b3,5),[sl An4 ((nS).length) ((nS++nS).length)]⟩,⟨some (b3,6),[vs ([]:Str)]⟩,⟨some (b3,7),[vi 0]⟩,⟨some (b3,8),[vs ([]:Str)]⟩,⟨some (b3,9),[sl An5 ((nP).length) ((nP++nP).length)]⟩,⟨some (b3,10),[vs ([]:Str)]⟩,⟨some (b3,11),[vi 0]⟩,⟨some (b3,12),[vi 0]⟩,⟨some (b3,13),[vi 0]⟩,⟨some (b3,14),[vi 0]⟩,⟨some (b2,0),eI ([29]:List (Int))⟩,⟨some (b1,0),eI ([4865]:List (Int))⟩]) rfl (fun An1 An2 An3 An4 An5=>?_)
 refine TLn (E_sq (b:=b3) (o:=0) (rp 15 5) [(1,_),(1,_),(1,_),(1,_),(1,_),(1,_),(1,_),(1,_),(1,_),(1,_),(1,_),(1,_),(1,_),(1,_),(1,_)] rfl inf26) (fun _=>?_)
 refine TL_gen3 (Lf:=fun An6 An7 An8=>[⟨An8,eF (fun p:Str × Str × Int × Int × Int × Int=>[vs p.1,vs p.2.1,vi p.2.2.1,vi p.2.2.2.1,vi p.2.2.2.2.1,vi p.2.2.2.2.2]) (nP++nP)⟩,⟨An7,eS (nS++nS)⟩,⟨An6,eS (nS++nS)⟩,⟨some (b3,0),[vb false]⟩,⟨some (b3,1),[sl (some (b1,0)) 1 1]⟩,⟨some (b3,2),[sl (some (b2,0)) 1 1]⟩,⟨some (b3,3),[sl An6 ((nS).length) ((nS++nS).length)]⟩,⟨some (b3,4),[vs ([]:Str)]⟩,⟨some (b3,5),[sl An7 ((nS).length) ((nS++nS).length)]⟩,⟨some (b3,6),[vs ([]:Str)]⟩,⟨some (b3,7),[vi 0]⟩,⟨some (b3,8),[vs ([]:Str)]⟩,⟨some (b3,9),[sl An8 ((nP).length) ((nP++nP).length)]⟩,⟨some (b3,10),[vs ([]:Str)]⟩,⟨some (b3,11),[vi 0]⟩,⟨some (b3,12),[vi 0]⟩,⟨some (b3,13),[vi 4]⟩,⟨some (b3,14),[vi 33290]⟩,⟨An5,eF (fun p:Str × Str × Int × Int × Int × Int=>[vs p.1,vs p.2.1,vi p.2.2.1,vi p.2.2.2.1,vi p.2.2.2.2.1,vi p.2.2.2.2.2]) (nP++nP)⟩,⟨An4,eS (nS++nS)⟩,⟨An3,eS (nS++nS)⟩,⟨An2,eI (nI++nI)⟩,⟨An1,eI (nI++nI)⟩,⟨some (b2,0),eI ([29]:List (Int))⟩,⟨some (b1,0),eI ([4865]:List (Int))⟩]) rfl (fun An6 An7 An8=>?_)
 refine TL_reE (j:=24) (A:=some (b1,0)) (cs:=eI ([4865]:List (Int))) (cs':=eI (([4865]:List (Int))++nI)) rfl (congrArg (eI) (List.append_nil _).symm) ?_
 refine TL_reE (j:=4) (A:=some (b3,1)) (cs:=[sl (some (b1,0)) 1 1]) (cs':=[sl (some (b1,0)) ((([4865]:List (Int))).length) ((([4865]:List (Int))++nI).length)]) rfl (congrArg (fun z=>[z]) (sl_row rfl)) ?_
 refine TL_reE (j:=23) (A:=some (b2,0)) (cs:=eI ([29]:List (Int))) (cs':=eI (([29]:List (Int))++nI)) rfl (congrArg (eI) (List.append_nil _).symm) ?_
 refine TL_reE (j:=5) (A:=some (b3,2)) (cs:=[sl (some (b2,0)) 1 1]) (cs':=[sl (some (b2,0)) ((([29]:List (Int))).length) ((([29]:List (Int))++nI).length)]) rfl (congrArg (fun z=>[z]) (sl_row rfl)) ?_
 refine TL_nil (TX_next (TC.sub (m':=[(1,_)]) ⟨rfl,trivial⟩ ?_))
 refine TC.pull (is:=[3,3,22,3,20,3,2,2,2,1,1,1,1,1,0,0,0,0,0,0]) (L':=[_,_,_,_,_,_,_,_,_,_,_,_,_,_,_,_,_,_,_,_]) rfl ?_
 refine TC_seq (TC_region (TLe (E_mk1 rfl rfl underlying86 inf5 (z:=v8 0#8) rfl rfl rfl (B:=1) rfl (by decide) (Int.le_refl _) (by decide) (by decide) (n':=32) (c':=32) rfl rfl (cs:=e8 (List.replicate 32 0#8)) (rep_map (f:=v8))) (fun b4=>?_)))
 obtain ⟨h1,H⟩:=if_elim H
 refine TLv (V_b2s rfl underlying86 underlying5 underlying9 (.o 0) h1) ?_
 refine TVa ?_
 obtain ⟨z1,hz1,H⟩:=ltt_elim H
 refine TLr 2 (congrArg vs hz1) ?_
 refine TL_nil (TX_next (TC_seq (TC_region (TLv (V_lp (b:=b3) (o:=0) (n:=15) (ps:=[(1,_),(1,_),(1,_),(1,_),(1,_),(1,_),(1,_),(1,_),(1,_),(1,_),(1,_),(1,_),(1,_),(1,_),(1,_)]) ⟨.o 1, .o 2, .o 4, .o 6, .o 8, .o 9, .o 11, .o 12, .o 13, .o 14, .o 16, .o 17, .o 18, .o 19, .o 20,trivial⟩ isAgg26 inf26) ?_))))
 refine TVm ?_
 refine TVm ?_
 obtain ⟨r_1,hr_1,H⟩:=bind_elim H
 refine TLe (E_call (Γ:=Adr × Adr × Adr × Adr × Adr × Adr × Adr × Adr × Adr × Adr × List (Int) × List (Int)) (val:=fun g=>Value.tuple [aG [(1,[vi r_1.1]),(1,[vs r_1.2.1]),(1,[vs r_1.2.2.1]),(1,[sl g.1 ((r_1.2.2.2.2.2.1).length) ((r_1.2.2.2.2.2.1++g.2.2.2.2.2.2.2.2.2.2.1).length)]),(1,[vs r_1.2.2.2.1]),(1,[sl g.2.1 ((r_1.2.2.2.2.2.2.1).length) ((r_1.2.2.2.2.2.2.1++nI).length)]),(1,[sl g.2.2.1 ((r_1.2.2.2.2.2.2.2.1).length) ((r_1.2.2.2.2.2.2.2.1++g.2.2.2.2.2.2.2.2.2.2.2).length)]),(1,[sl g.2.2.2.1 ((r_1.2.2.2.2.2.2.2.2.1).length) ((r_1.2.2.2.2.2.2.2.2.1++nI).length)]),(1,[sl g.2.2.2.2.1 ((r_1.2.2.2.2.2.2.2.2.2.1).length) ((r_1.2.2.2.2.2.2.2.2.2.1++nI).length)]),(1,[sl g.2.2.2.2.2.1 ((r_1.2.2.2.2.2.2.2.2.2.2.1).length) ((r_1.2.2.2.2.2.2.2.2.2.2.1++nB).length)]),(1,[sl g.2.2.2.2.2.2.1 ((r_1.2.2.2.2.2.2.2.2.2.2.2.1).length) ((r_1.2.2.2.2.2.2.2.2.2.2.2.1++nA).length)]),(1,[sl g.2.2.2.2.2.2.2.1 ((r_1.2.2.2.2.2.2.2.2.2.2.2.2.1).length) ((r_1.2.2.2.2.2.2.2.2.2.2.2.2.1++nS).length)]),(1,[vi 0]),(1,[sl g.2.2.2.2.2.2.2.2.1 ((r_1.2.2.2.2.2.2.2.2.2.2.2.2.2.1).length) ((r_1.2.2.2.2.2.2.2.2.2.2.2.2.2.1++nI).length)]),(1,[sl g.2.2.2.2.2.2.2.2.2.1 ((r_1.2.2.2.2.2.2.2.2.2.2.2.2.2.2).length) ((r_1.2.2.2.2.2.2.2.2.2.2.2.2.2.2++nS).length)]),(1,[vi 0]),(1,[vs ([]:Str)]),(1,[vi 0]),(1,[vi 0]),(1,[vs ([]:Str)]),(1,[vi 0])],vi r_1.2.2.2.2.1].toArray) (mem:=fun g=>[⟨g.1,eI (r_1.2.2.2.2.2.1++g.2.2.2.2.2.2.2.2.2.2.1)⟩,⟨g.2.1,eI (r_1.2.2.2.2.2.2.1++nI)⟩,⟨g.2.2.1,eI (r_1.2.2.2.2.2.2.2.1++g.2.2.2.2.2.2.2.2.2.2.2)⟩,⟨g.2.2.2.1,eI (r_1.2.2.2.2.2.2.2.2.1++nI)⟩,⟨g.2.2.2.2.1,eI (r_1.2.2.2.2.2.2.2.2.2.1++nI)⟩,⟨g.2.2.2.2.2.1,eF (fun p:Int × Str=>[vi p.1,vs p.2]) (r_1.2.2.2.2.2.2.2.2.2.2.1++nB)⟩,⟨g.2.2.2.2.2.2.1,eF (fun p:Str × Int=>[vs p.1,vi p.2]) (r_1.2.2.2.2.2.2.2.2.2.2.2.1++nA)⟩,⟨g.2.2.2.2.2.2.2.1,eS (r_1.2.2.2.2.2.2.2.2.2.2.2.2.1++nS)⟩,⟨g.2.2.2.2.2.2.2.2.1,eI (r_1.2.2.2.2.2.2.2.2.2.2.2.2.2.1++nI)⟩,⟨g.2.2.2.2.2.2.2.2.2.1,eS (r_1.2.2.2.2.2.2.2.2.2.2.2.2.2.2++nS)⟩]) (vs:=[aG [(1,[vb false]),(1,[sl (some (b1,0)) ((([4865]:List (Int))).length) ((([4865]:List (Int))++nI).length)]),(1,[sl (some (b2,0)) ((([29]:List (Int))).length) ((([29]:List (Int))++nI).length)]),(1,[sl An6 ((nS).length) ((nS++nS).length)]),(1,[vs ([]:Str)]),(1,[sl An7 ((nS).length) ((nS++nS).length)]),(1,[vs ([]:Str)]),(1,[vi 0]),(1,[vs ([]:Str)]),(1,[sl An8 ((nP).length) ((nP++nP).length)]),(1,[vs ([]:Str)]),(1,[vi 0]),(1,[vi 0]),(1,[vi 4]),(1,[vi 33290])],vs z1,vs z1,vs ([107#8]:Str)]) (Lin:=[]) (Ro:=[⟨some (b1,0),eI ([4865]:List (Int))⟩,⟨some (b2,0),eI ([29]:List (Int))⟩,⟨An6,eS nS⟩,⟨An7,eS nS⟩,⟨An8,eF (fun p:Str × Str × Int × Int × Int × Int=>[vs p.1,vs p.2.1,vi p.2.2.1,vi p.2.2.2.1,vi p.2.2.2.2.1,vi p.2.2.2.2.2]) nP⟩]) (is:=[]) rfl call14 (F14_calls (some (b1,0)) ((([4865]:List (Int))++nI).length) (some (b2,0)) ((([29]:List (Int))++nI).length) An6 ((nS++nS).length) An7 ((nS++nS).length) An8 ((nP++nP).length) false ([4865]:List (Int)) ([29]:List (Int)) nS ([]:Str) nS ([]:Str) 0 ([]:Str) nP ([]:Str) 0 0 4 33290 z1 z1 ([107#8]:Str) (row_le _ _) (row_le _ _) (row_le _ _) (row_le _ _) (row_le _ _) r_1 hr_1) rfl ⟨(srcdRow (.o 3)),(srcdRow (.o 5)),(srcdRow (.o 7)),(srcdRow (.o 10)),(srcdRowF (s:=6) (fun _=>rfl) (.o 15)),trivial⟩) (fun g_1=>?_)
 refine TVm ?_
 refine TLv V_ex ?_
 refine TLv V_ex ?_
 refine TLe (E_ap inf30 zer30) (fun b5=>?_)
 refine TL_gen10 (Lf:=fun An9 An10 An11 An12 An13 An14 An15 An16 An17 An18=>[⟨An18,eS (nS++nS)⟩,⟨An17,eI (nI++nI)⟩,⟨An16,eS (nS++nS)⟩,⟨An15,eF (fun p:Str × Int=>[vs p.1,vi p.2]) (nA++nA)⟩,⟨An14,eF (fun p:Int × Str=>[vi p.1,vs p.2]) (nB++nB)⟩,⟨An13,eI (nI++nI)⟩,⟨An12,eI (nI++nI)⟩,⟨An11,eI (nI++nI)⟩,⟨An10,eI (nI++nI)⟩,⟨An9,eI (nI++nI)⟩,⟨some (b5,0),[vi 0]⟩,⟨some (b5,1),[vs ([]:Str)]⟩,⟨some (b5,2),[vs ([]:Str)]⟩,⟨some (b5,3),[sl An9 ((nI).length) ((nI++nI).length)]⟩,⟨some (b5,4),[vs ([]:Str)]⟩,⟨some (b5,5),[sl An10 ((nI).length) ((nI++nI).length)]⟩,⟨some (b5,6),[sl An11 ((nI).length) ((nI++nI).length)]⟩,⟨some (b5,7),[sl An12 ((nI).length) ((nI++nI).length)]⟩,⟨some (b5,8),[sl An13 ((nI).length) ((nI++nI).length)]⟩,⟨some (b5,9),[sl An14 ((nB).length) ((nB++nB).length)]⟩,⟨some (b5,10),[sl An15 ((nA).length) ((nA++nA).length)]⟩,⟨some (b5,11),[sl An16 ((nS).length) ((nS++nS).length)]⟩,⟨some (b5,12),[vi 0]⟩,⟨some (b5,13),[sl An17 ((nI).length) ((nI++nI).length)]⟩,⟨some (b5,14),[sl An18 ((nS).length) ((nS++nS).length)]⟩,⟨some (b5,15),[vi 0]⟩,⟨some (b5,16),[vs ([]:Str)]⟩,⟨some (b5,17),[vi 0]⟩,⟨some (b5,18),[vi 0]⟩,⟨some (b5,19),[vs ([]:Str)]⟩,⟨some (b5,20),[vi 0]⟩,⟨g_1.1,eI (r_1.2.2.2.2.2.1++g_1.2.2.2.2.2.2.2.2.2.2.1)⟩,⟨g_1.2.1,eI (r_1.2.2.2.2.2.2.1++nI)⟩,⟨g_1.2.2.1,eI (r_1.2.2.2.2.2.2.2.1++g_1.2.2.2.2.2.2.2.2.2.2.2)⟩,⟨g_1.2.2.2.1,eI (r_1.2.2.2.2.2.2.2.2.1++nI)⟩,⟨g_1.2.2.2.2.1,eI (r_1.2.2.2.2.2.2.2.2.2.1++nI)⟩,⟨g_1.2.2.2.2.2.1,eF (fun p:Int × Str=>[vi p.1,vs p.2]) (r_1.2.2.2.2.2.2.2.2.2.2.1++nB)⟩,⟨g_1.2.2.2.2.2.2.1,eF (fun p:Str × Int=>[vs p.1,vi p.2]) (r_1.2.2.2.2.2.2.2.2.2.2.2.1++nA)⟩,⟨g_1.2.2.2.2.2.2.2.1,eS (r_1.2.2.2.2.2.2.2.2.2.2.2.2.1++nS)⟩,⟨g_1.2.2.2.2.2.2.2.2.1,eI (r_1.2.2.2.2.2.2.2.2.2.2.2.2.2.1++nI)⟩,⟨g_1.2.2.2.2.2.2.2.2.2.1,eS (r_1.2.2.2.2.2.2.2.2.2.2.2.2.2.2++nS)⟩,⟨some (b4,0),e8 (List.replicate 32 0#8)⟩,⟨some (b3,0),[vb false]⟩,⟨some (b3,1),[sl (some (b1,0)) ((([4865]:List (Int))).length) ((([4865]:List (Int))++nI).length)]⟩,⟨some (b1,0),eI (([4865]:List (Int))++nI)⟩,⟨some (b3,2),[sl (some (b2,0)) ((([29]:List (Int))).length) ((([29]:List (Int))++nI).length)]⟩,⟨some (b2,0),eI (([29]:List (Int))++nI)⟩,⟨some (b3,3),[sl An6 ((nS).length) ((nS++nS).length)]⟩,⟨An6,eS (nS++nS)⟩,⟨some (b3,4),[vs ([]:Str)]⟩,⟨some (b3,5),[sl An7 ((nS).length) ((nS++nS).length)]⟩,⟨An7,eS (nS++nS)⟩,⟨some (b3,6),[vs ([]:Str)]⟩,⟨some (b3,7),[vi 0]⟩,⟨some (b3,8),[vs ([]:Str)]⟩,⟨some (b3,9),[sl An8 ((nP).length) ((nP++nP).length)]⟩,⟨An8,eF (fun p:Str × Str × Int × Int × Int × Int=>[vs p.1,vs p.2.1,vi p.2.2.1,vi p.2.2.2.1,vi p.2.2.2.2.1,vi p.2.2.2.2.2]) (nP++nP)⟩,⟨some (b3,10),[vs ([]:Str)]⟩,⟨some (b3,11),[vi 0]⟩,⟨some (b3,12),[vi 0]⟩,⟨some (b3,13),[vi 4]⟩,⟨some (b3,14),[vi 33290]⟩]) rfl (fun An9 An10 An11 An12 An13 An14 An15 An16 An17 An18=>?_)
 refine TLn (E_sq (b:=b5) (o:=0) (rp 21 10) [(1,_),(1,_),(1,_),(1,_),(1,_),(1,_),(1,_),(1,_),(1,_),(1,_),(1,_),(1,_),(1,_),(1,_),(1,_),(1,_),(1,_),(1,_),(1,_),(1,_),(1,_)] rfl inf30) (fun _=>?_)
 refine TVa ?_
 refine TL_nil (TX_next (TC.sub (m':=[(1,_),(2,_),(3,_),(4,_)]) ⟨rfl,rfl,rfl,rfl,trivial⟩ ?_))
 refine TC.pull (is:=(rp 20 42++rp 4 0++27 :: 0 :: 0 :: 25 :: 0 :: 24 :: 0 :: 23 :: 0 :: 22 :: 0 :: 21 :: 0 :: 20 :: 0 :: 19 :: 0 :: 0 :: 17 :: 0 :: 16 :: rp 6 0)) (L':=[_,_,_,_,_,_,_,_,_,_,_,_,_,_,_,_,_,_,_,_,_,_,_,_,_,_,_,_,_,_,_,_,_,_,_,_,_,_,_,_,_,_,_,_,_,_,_,_,_,_,_]) rfl ?_
 refine TC_seq (TC_region (TLv (V_buildStruct (pv:=[]) (pl:=[(0,1),(1,1),(2,1),(3,1),(4,1),(5,1),(6,1),(7,1),(8,1),(9,1),(10,1),(11,1),(12,1),(13,1),(14,1)]) rfl rfl underlying26 inf26 places26 zer26 (cs:=flat [(1,[vb false]),(1,[sl none 0 0]),(1,[sl none 0 0]),(1,[sl none 0 0]),(1,[vs ([]:Str)]),(1,[sl none 0 0]),(1,[vs ([]:Str)]),(1,[vi 0]),(1,[vs ([]:Str)]),(1,[sl none 0 0]),(1,[vs ([]:Str)]),(1,[vi 0]),(1,[vi 0]),(1,[vi 0]),(1,[vi 0])]) (by kernel_rfl)) ?_))
 refine TVm ?_
 refine TVm ?_
 refine TL_none (TL_none (TL_none ?_))
 obtain ⟨r_2,hr_2,H⟩:=bind_elim H
 refine TLe (E_call (Γ:=Adr × Adr × Adr × Adr × Adr × Adr × Adr × Adr × Adr × Adr × List (Int) × List (Int)) (val:=fun g=>Value.tuple [aG [(1,[vi r_2.1]),(1,[vs r_2.2.1]),(1,[vs r_2.2.2.1]),(1,[sl g.1 ((r_2.2.2.2.2.2.1).length) ((r_2.2.2.2.2.2.1++g.2.2.2.2.2.2.2.2.2.2.1).length)]),(1,[vs r_2.2.2.2.1]),(1,[sl g.2.1 ((r_2.2.2.2.2.2.2.1).length) ((r_2.2.2.2.2.2.2.1++nI).length)]),(1,[sl g.2.2.1 ((r_2.2.2.2.2.2.2.2.1).length) ((r_2.2.2.2.2.2.2.2.1++g.2.2.2.2.2.2.2.2.2.2.2).length)]),(1,[sl g.2.2.2.1 ((r_2.2.2.2.2.2.2.2.2.1).length) ((r_2.2.2.2.2.2.2.2.2.1++nI).length)]),(1,[sl g.2.2.2.2.1 ((r_2.2.2.2.2.2.2.2.2.2.1).length) ((r_2.2.2.2.2.2.2.2.2.2.1++nI).length)]),(1,[sl g.2.2.2.2.2.1 ((r_2.2.2.2.2.2.2.2.2.2.2.1).length) ((r_2.2.2.2.2.2.2.2.2.2.2.1++nB).length)]),(1,[sl g.2.2.2.2.2.2.1 ((r_2.2.2.2.2.2.2.2.2.2.2.2.1).length) ((r_2.2.2.2.2.2.2.2.2.2.2.2.1++nA).length)]),(1,[sl g.2.2.2.2.2.2.2.1 ((r_2.2.2.2.2.2.2.2.2.2.2.2.2.1).length) ((r_2.2.2.2.2.2.2.2.2.2.2.2.2.1++nS).length)]),(1,[vi 0]),(1,[sl g.2.2.2.2.2.2.2.2.1 ((r_2.2.2.2.2.2.2.2.2.2.2.2.2.2.1).length) ((r_2.2.2.2.2.2.2.2.2.2.2.2.2.2.1++nI).length)]),(1,[sl g.2.2.2.2.2.2.2.2.2.1 ((r_2.2.2.2.2.2.2.2.2.2.2.2.2.2.2).length) ((r_2.2.2.2.2.2.2.2.2.2.2.2.2.2.2++nS).length)]),(1,[vi 0]),(1,[vs ([]:Str)]),(1,[vi 0]),(1,[vi 0]),(1,[vs ([]:Str)]),(1,[vi 0])],vi r_2.2.2.2.2.1].toArray) (mem:=fun g=>[⟨g.1,eI (r_2.2.2.2.2.2.1++g.2.2.2.2.2.2.2.2.2.2.1)⟩,⟨g.2.1,eI (r_2.2.2.2.2.2.2.1++nI)⟩,⟨g.2.2.1,eI (r_2.2.2.2.2.2.2.2.1++g.2.2.2.2.2.2.2.2.2.2.2)⟩,⟨g.2.2.2.1,eI (r_2.2.2.2.2.2.2.2.2.1++nI)⟩,⟨g.2.2.2.2.1,eI (r_2.2.2.2.2.2.2.2.2.2.1++nI)⟩,⟨g.2.2.2.2.2.1,eF (fun p:Int × Str=>[vi p.1,vs p.2]) (r_2.2.2.2.2.2.2.2.2.2.2.1++nB)⟩,⟨g.2.2.2.2.2.2.1,eF (fun p:Str × Int=>[vs p.1,vi p.2]) (r_2.2.2.2.2.2.2.2.2.2.2.2.1++nA)⟩,⟨g.2.2.2.2.2.2.2.1,eS (r_2.2.2.2.2.2.2.2.2.2.2.2.2.1++nS)⟩,⟨g.2.2.2.2.2.2.2.2.1,eI (r_2.2.2.2.2.2.2.2.2.2.2.2.2.2.1++nI)⟩,⟨g.2.2.2.2.2.2.2.2.2.1,eS (r_2.2.2.2.2.2.2.2.2.2.2.2.2.2.2++nS)⟩]) (vs:=[aG [(1,[vb false]),(1,[sl none 0 0]),(1,[sl none 0 0]),(1,[sl none 0 0]),(1,[vs ([]:Str)]),(1,[sl none 0 0]),(1,[vs ([]:Str)]),(1,[vi 0]),(1,[vs ([]:Str)]),(1,[sl none 0 0]),(1,[vs ([]:Str)]),(1,[vi 0]),(1,[vi 0]),(1,[vi 0]),(1,[vi 0])],vs z1,vs z1,vs ([107#8]:Str)]) (Lin:=[]) (Ro:=[⟨none,eI nI⟩,⟨none,eI nI⟩,⟨none,eS nS⟩,⟨none,eS nS⟩,⟨none,eF (fun p:Str × Str × Int × Int × Int × Int=>[vs p.1,vs p.2.1,vi p.2.2.1,vi p.2.2.2.1,vi p.2.2.2.2.1,vi p.2.2.2.2.2]) nP⟩]) (is:=[]) rfl call14 (F14_calls none 0 none 0 none 0 none 0 none 0 false nI nI nS ([]:Str) nS ([]:Str) 0 ([]:Str) nP ([]:Str) 0 0 0 0 z1 z1 ([107#8]:Str) (by first | exact Nat.le_refl _ | simp) (by first | exact Nat.le_refl _ | simp) (by first | exact Nat.le_refl _ | simp) (by first | exact Nat.le_refl _ | simp) (by first | exact Nat.le_refl _ | simp) r_2 hr_2) rfl ⟨(srcdE rfl),(srcdE rfl),(srcdE rfl),(srcdE rfl),(srcdE rfl),trivial⟩) (fun g_2=>?_)
 refine TVm ?_
 refine TLv V_ex ?_
 refine TLv V_ex ?_
 refine TLe (E_ap inf30 zer30) (fun b6=>?_)
 refine TL_gen10 (Lf:=fun An19 An20 An21 An22 An23 An24 An25 An26 An27 An28=>[⟨An28,eS (nS++nS)⟩,⟨An27,eI (nI++nI)⟩,⟨An26,eS (nS++nS)⟩,⟨An25,eF (fun p:Str × Int=>[vs p.1,vi p.2]) (nA++nA)⟩,⟨An24,eF (fun p:Int × Str=>[vi p.1,vs p.2]) (nB++nB)⟩,⟨An23,eI (nI++nI)⟩,⟨An22,eI (nI++nI)⟩,⟨An21,eI (nI++nI)⟩,⟨An20,eI (nI++nI)⟩,⟨An19,eI (nI++nI)⟩,⟨some (b6,0),[vi 0]⟩,⟨some (b6,1),[vs ([]:Str)]⟩,⟨some (b6,2),[vs ([]:Str)]⟩,⟨some (b6,3),[sl An19 ((nI).length) ((nI++nI).length)]⟩,⟨some (b6,4),[vs ([]:Str)]⟩,⟨some (b6,5),[sl An20 ((nI).length) ((nI++nI).length)]⟩,⟨some (b6,6),[sl An21 ((nI).length) ((nI++nI).length)]⟩,⟨some (b6,7),[sl An22 ((nI).length) ((nI++nI).length)]⟩,⟨some (b6,8),[sl An23 ((nI).length) ((nI++nI).length)]⟩,⟨some (b6,9),[sl An24 ((nB).length) ((nB++nB).length)]⟩,⟨some (b6,10),[sl An25 ((nA).length) ((nA++nA).length)]⟩,⟨some (b6,11),[sl An26 ((nS).length) ((nS++nS).length)]⟩,⟨some (b6,12),[vi 0]⟩,⟨some (b6,13),[sl An27 ((nI).length) ((nI++nI).length)]⟩,⟨some (b6,14),[sl An28 ((nS).length) ((nS++nS).length)]⟩,⟨some (b6,15),[vi 0]⟩,⟨some (b6,16),[vs ([]:Str)]⟩,⟨some (b6,17),[vi 0]⟩,⟨some (b6,18),[vi 0]⟩,⟨some (b6,19),[vs ([]:Str)]⟩,⟨some (b6,20),[vi 0]⟩,⟨g_2.1,eI (r_2.2.2.2.2.2.1++g_2.2.2.2.2.2.2.2.2.2.2.1)⟩,⟨g_2.2.1,eI (r_2.2.2.2.2.2.2.1++nI)⟩,⟨g_2.2.2.1,eI (r_2.2.2.2.2.2.2.2.1++g_2.2.2.2.2.2.2.2.2.2.2.2)⟩,⟨g_2.2.2.2.1,eI (r_2.2.2.2.2.2.2.2.2.1++nI)⟩,⟨g_2.2.2.2.2.1,eI (r_2.2.2.2.2.2.2.2.2.2.1++nI)⟩,⟨g_2.2.2.2.2.2.1,eF (fun p:Int × Str=>[vi p.1,vs p.2]) (r_2.2.2.2.2.2.2.2.2.2.2.1++nB)⟩,⟨g_2.2.2.2.2.2.2.1,eF (fun p:Str × Int=>[vs p.1,vi p.2]) (r_2.2.2.2.2.2.2.2.2.2.2.2.1++nA)⟩,⟨g_2.2.2.2.2.2.2.2.1,eS (r_2.2.2.2.2.2.2.2.2.2.2.2.2.1++nS)⟩,⟨g_2.2.2.2.2.2.2.2.2.1,eI (r_2.2.2.2.2.2.2.2.2.2.2.2.2.2.1++nI)⟩,⟨g_2.2.2.2.2.2.2.2.2.2.1,eS (r_2.2.2.2.2.2.2.2.2.2.2.2.2.2.2++nS)⟩,⟨none,eF (fun p:Str × Str × Int × Int × Int × Int=>[vs p.1,vs p.2.1,vi p.2.2.1,vi p.2.2.2.1,vi p.2.2.2.2.1,vi p.2.2.2.2.2]) (nP++nP)⟩,⟨none,eS (nS++nS)⟩,⟨none,eI (nI++nI)⟩,⟨some (b3,0),[vb false]⟩,⟨some (b3,1),[sl (some (b1,0)) ((([4865]:List (Int))).length) ((([4865]:List (Int))++nI).length)]⟩,⟨some (b1,0),eI (([4865]:List (Int))++nI)⟩,⟨some (b3,2),[sl (some (b2,0)) ((([29]:List (Int))).length) ((([29]:List (Int))++nI).length)]⟩,⟨some (b2,0),eI (([29]:List (Int))++nI)⟩,⟨some (b3,3),[sl An6 ((nS).length) ((nS++nS).length)]⟩,⟨An6,eS (nS++nS)⟩,⟨some (b3,4),[vs ([]:Str)]⟩,⟨some (b3,5),[sl An7 ((nS).length) ((nS++nS).length)]⟩,⟨An7,eS (nS++nS)⟩,⟨some (b3,6),[vs ([]:Str)]⟩,⟨some (b3,7),[vi 0]⟩,⟨some (b3,8),[vs ([]:Str)]⟩,⟨some (b3,9),[sl An8 ((nP).length) ((nP++nP).length)]⟩,⟨An8,eF (fun p:Str × Str × Int × Int × Int × Int=>[vs p.1,vs p.2.1,vi p.2.2.1,vi p.2.2.2.1,vi p.2.2.2.2.1,vi p.2.2.2.2.2]) (nP++nP)⟩,⟨some (b3,10),[vs ([]:Str)]⟩,⟨some (b3,11),[vi 0]⟩,⟨some (b3,12),[vi 0]⟩,⟨some (b3,13),[vi 4]⟩,⟨some (b3,14),[vi 33290]⟩,⟨some (b5,0),[vi r_1.1]⟩,⟨some (b5,1),[vs r_1.2.1]⟩,⟨some (b5,2),[vs r_1.2.2.1]⟩,⟨some (b5,3),[sl g_1.1 ((r_1.2.2.2.2.2.1).length) ((r_1.2.2.2.2.2.1++g_1.2.2.2.2.2.2.2.2.2.2.1).length)]⟩,⟨g_1.1,eI (r_1.2.2.2.2.2.1++g_1.2.2.2.2.2.2.2.2.2.2.1)⟩,⟨some (b5,4),[vs r_1.2.2.2.1]⟩,⟨some (b5,5),[sl g_1.2.1 ((r_1.2.2.2.2.2.2.1).length) ((r_1.2.2.2.2.2.2.1++nI).length)]⟩,⟨g_1.2.1,eI (r_1.2.2.2.2.2.2.1++nI)⟩,⟨some (b5,6),[sl g_1.2.2.1 ((r_1.2.2.2.2.2.2.2.1).length) ((r_1.2.2.2.2.2.2.2.1++g_1.2.2.2.2.2.2.2.2.2.2.2).length)]⟩,⟨g_1.2.2.1,eI (r_1.2.2.2.2.2.2.2.1++g_1.2.2.2.2.2.2.2.2.2.2.2)⟩,⟨some (b5,7),[sl g_1.2.2.2.1 ((r_1.2.2.2.2.2.2.2.2.1).length) ((r_1.2.2.2.2.2.2.2.2.1++nI).length)]⟩,⟨g_1.2.2.2.1,eI (r_1.2.2.2.2.2.2.2.2.1++nI)⟩,⟨some (b5,8),[sl g_1.2.2.2.2.1 ((r_1.2.2.2.2.2.2.2.2.2.1).length) ((r_1.2.2.2.2.2.2.2.2.2.1++nI).length)]⟩,⟨g_1.2.2.2.2.1,eI (r_1.2.2.2.2.2.2.2.2.2.1++nI)⟩,⟨some (b5,9),[sl g_1.2.2.2.2.2.1 ((r_1.2.2.2.2.2.2.2.2.2.2.1).length) ((r_1.2.2.2.2.2.2.2.2.2.2.1++nB).length)]⟩,⟨g_1.2.2.2.2.2.1,eF (fun p:Int × Str=>[vi p.1,vs p.2]) (r_1.2.2.2.2.2.2.2.2.2.2.1++nB)⟩,⟨some (b5,10),[sl g_1.2.2.2.2.2.2.1 ((r_1.2.2.2.2.2.2.2.2.2.2.2.1).length) ((r_1.2.2.2.2.2.2.2.2.2.2.2.1++nA).length)]⟩,⟨g_1.2.2.2.2.2.2.1,eF (fun p:Str × Int=>[vs p.1,vi p.2]) (r_1.2.2.2.2.2.2.2.2.2.2.2.1++nA)⟩,⟨some (b5,11),[sl g_1.2.2.2.2.2.2.2.1 ((r_1.2.2.2.2.2.2.2.2.2.2.2.2.1).length) ((r_1.2.2.2.2.2.2.2.2.2.2.2.2.1++nS).length)]⟩,⟨g_1.2.2.2.2.2.2.2.1,eS (r_1.2.2.2.2.2.2.2.2.2.2.2.2.1++nS)⟩,⟨some (b5,12),[vi 0]⟩,⟨some (b5,13),[sl g_1.2.2.2.2.2.2.2.2.1 ((r_1.2.2.2.2.2.2.2.2.2.2.2.2.2.1).length) ((r_1.2.2.2.2.2.2.2.2.2.2.2.2.2.1++nI).length)]⟩,⟨g_1.2.2.2.2.2.2.2.2.1,eI (r_1.2.2.2.2.2.2.2.2.2.2.2.2.2.1++nI)⟩,⟨some (b5,14),[sl g_1.2.2.2.2.2.2.2.2.2.1 ((r_1.2.2.2.2.2.2.2.2.2.2.2.2.2.2).length) ((r_1.2.2.2.2.2.2.2.2.2.2.2.2.2.2++nS).length)]⟩,⟨g_1.2.2.2.2.2.2.2.2.2.1,eS (r_1.2.2.2.2.2.2.2.2.2.2.2.2.2.2++nS)⟩,⟨some (b5,15),[vi 0]⟩,⟨some (b5,16),[vs ([]:Str)]⟩,⟨some (b5,17),[vi 0]⟩,⟨some (b5,18),[vi 0]⟩,⟨some (b5,19),[vs ([]:Str)]⟩,⟨some (b5,20),[vi 0]⟩]) rfl (fun An19 An20 An21 An22 An23 An24 An25 An26 An27 An28=>?_)
 refine TLn (E_sq (b:=b6) (o:=0) (rp 21 10) [(1,_),(1,_),(1,_),(1,_),(1,_),(1,_),(1,_),(1,_),(1,_),(1,_),(1,_),(1,_),(1,_),(1,_),(1,_),(1,_),(1,_),(1,_),(1,_),(1,_),(1,_)] rfl inf30) (fun _=>?_)
 refine TVa ?_
 refine TL_nil (TX_next (TC.sub (m':=[(1,_),(3,_),(4,_),(6,_)]) ⟨rfl,rfl,rfl,rfl,trivial⟩ ?_))
 refine TC.pull (is:=(rp 51 44)) (L':=[_,_,_,_,_,_,_,_,_,_,_,_,_,_,_,_,_,_,_,_,_,_,_,_,_,_,_,_,_,_,_,_,_,_,_,_,_,_,_,_,_,_,_,_,_,_,_,_,_,_,_]) rfl ?_
 refine TC_seq (TC_region (TLv (V_lp (b:=b3) (o:=0) (n:=15) (ps:=[(1,_),(1,_),(1,_),(1,_),(1,_),(1,_),(1,_),(1,_),(1,_),(1,_),(1,_),(1,_),(1,_),(1,_),(1,_)]) ⟨.o 0, .o 1, .o 3, .o 5, .o 7, .o 8, .o 10, .o 11, .o 12, .o 13, .o 15, .o 16, .o 17, .o 18, .o 19,trivial⟩ isAgg26 inf26) ?_))
 refine TLv (V_lp (b:=b5) (o:=0) (n:=21) (ps:=[(1,_),(1,_),(1,_),(1,_),(1,_),(1,_),(1,_),(1,_),(1,_),(1,_),(1,_),(1,_),(1,_),(1,_),(1,_),(1,_),(1,_),(1,_),(1,_),(1,_),(1,_)]) ⟨.o 20, .o 21, .o 22, .o 23, .o 25, .o 26, .o 28, .o 30, .o 32, .o 34, .o 36, .o 38, .o 40, .o 41, .o 43, .o 45, .o 46, .o 47, .o 48, .o 49, .o 50,trivial⟩ isAgg30 inf30) ?_
 obtain ⟨r_3,hr_3,H⟩:=bind_elim H
 refine TLe (E_c0 (F12_calls (some (b1,0)) ((([4865]:List (Int))++nI).length) (some (b2,0)) ((([29]:List (Int))++nI).length) An6 ((nS++nS).length) An7 ((nS++nS).length) An8 ((nP++nP).length) g_1.1 ((r_1.2.2.2.2.2.1++g_1.2.2.2.2.2.2.2.2.2.2.1).length) g_1.2.1 ((r_1.2.2.2.2.2.2.1++nI).length) g_1.2.2.1 ((r_1.2.2.2.2.2.2.2.1++g_1.2.2.2.2.2.2.2.2.2.2.2).length) g_1.2.2.2.1 ((r_1.2.2.2.2.2.2.2.2.1++nI).length) g_1.2.2.2.2.1 ((r_1.2.2.2.2.2.2.2.2.2.1++nI).length) g_1.2.2.2.2.2.1 ((r_1.2.2.2.2.2.2.2.2.2.2.1++nB).length) g_1.2.2.2.2.2.2.1 ((r_1.2.2.2.2.2.2.2.2.2.2.2.1++nA).length) g_1.2.2.2.2.2.2.2.1 ((r_1.2.2.2.2.2.2.2.2.2.2.2.2.1++nS).length) g_1.2.2.2.2.2.2.2.2.1 ((r_1.2.2.2.2.2.2.2.2.2.2.2.2.2.1++nI).length) g_1.2.2.2.2.2.2.2.2.2.1 ((r_1.2.2.2.2.2.2.2.2.2.2.2.2.2.2++nS).length) false ([4865]:List (Int)) ([29]:List (Int)) nS ([]:Str) nS ([]:Str) 0 ([]:Str) nP ([]:Str) 0 0 4 33290 r_1.1 r_1.2.1 r_1.2.2.1 r_1.2.2.2.2.2.1 r_1.2.2.2.1 r_1.2.2.2.2.2.2.1 r_1.2.2.2.2.2.2.2.1 r_1.2.2.2.2.2.2.2.2.1 r_1.2.2.2.2.2.2.2.2.2.1 r_1.2.2.2.2.2.2.2.2.2.2.1 r_1.2.2.2.2.2.2.2.2.2.2.2.1 r_1.2.2.2.2.2.2.2.2.2.2.2.2.1 0 r_1.2.2.2.2.2.2.2.2.2.2.2.2.2.1 r_1.2.2.2.2.2.2.2.2.2.2.2.2.2.2 0 ([]:Str) 0 0 ([]:Str) 0 false 0 (row_le _ _) (row_le _ _) (row_le _ _) (row_le _ _) (row_le _ _) (row_le _ _) (row_le _ _) (row_le _ _) (row_le _ _) (row_le _ _) (row_le _ _) (row_le _ _) (row_le _ _) (row_le _ _) (row_le _ _) r_3 hr_3) call12 ⟨(srcdRow (.o 2)),(srcdRow (.o 4)),(srcdRow (.o 6)),(srcdRow (.o 9)),(srcdRowF (s:=6) (fun _=>rfl) (.o 14)),(srcdRow (.o 24)),(srcdRow (.o 27)),(srcdRow (.o 29)),(srcdRow (.o 31)),(srcdRow (.o 33)),(srcdRowF (s:=2) (fun _=>rfl) (.o 35)),(srcdRowF (s:=2) (fun _=>rfl) (.o 37)),(srcdRow (.o 39)),(srcdRow (.o 42)),(srcdRow (.o 44)), .r 0,trivial⟩) (fun g_3=>?_)
 refine TLe (E_ap inf34 zer34) (fun b7=>?_)
 refine TLn (E_sq (b:=b7) (o:=0) [0,0,0,0,0,0] [(1,_),(1,_),(1,_),(1,_),(1,_),(1,_)] rfl inf34) (fun _=>?_)
 refine TL_nil (TX_next (TC.sub (m':=[(1,_),(3,_),(4,_),(6,_),(7,_)]) ⟨rfl,rfl,rfl,rfl,rfl,trivial⟩ ?_))
 refine TC.pull (is:=(rp 51 6++rp 6 0)) (L':=[_,_,_,_,_,_,_,_,_,_,_,_,_,_,_,_,_,_,_,_,_,_,_,_,_,_,_,_,_,_,_,_,_,_,_,_,_,_,_,_,_,_,_,_,_,_,_,_,_,_,_,_,_,_,_,_,_]) rfl ?_
 refine TC_seq (TC_region (TLv (V_lp (b:=b3) (o:=0) (n:=15) (ps:=[(1,_),(1,_),(1,_),(1,_),(1,_),(1,_),(1,_),(1,_),(1,_),(1,_),(1,_),(1,_),(1,_),(1,_),(1,_)]) ⟨.o 0, .o 1, .o 3, .o 5, .o 7, .o 8, .o 10, .o 11, .o 12, .o 13, .o 15, .o 16, .o 17, .o 18, .o 19,trivial⟩ isAgg26 inf26) ?_))
 obtain ⟨r_4,hr_4,H⟩:=bind_elim H
 refine TLe (E_c0 (F16_calls (some (b1,0)) ((([4865]:List (Int))++nI).length) (some (b2,0)) ((([29]:List (Int))++nI).length) An6 ((nS++nS).length) An7 ((nS++nS).length) An8 ((nP++nP).length) false ([4865]:List (Int)) ([29]:List (Int)) nS ([]:Str) nS ([]:Str) 0 ([]:Str) nP ([]:Str) 0 0 4 33290 (row_le _ _) (row_le _ _) (row_le _ _) (row_le _ _) (row_le _ _) r_4 hr_4) call16 ⟨(srcdRow (.o 2)),(srcdRow (.o 4)),(srcdRow (.o 6)),(srcdRow (.o 9)),(srcdRowF (s:=6) (fun _=>rfl) (.o 14)),trivial⟩) (fun g_4=>?_)
 refine TVm ?_
 refine TFb (d:=32) H (fun hc H=>?_) (fun hc H=>?_)
 ·refine TLw (V_buildStruct (pv:=[]) (pl:=[(0,1),(1,1),(2,1),(3,1),(4,1),(5,1),(6,1),(7,1),(8,1),(9,1),(10,1),(11,1),(12,1),(13,1),(14,1)]) rfl rfl underlying26 inf26 places26 zer26 (cs:=flat [(1,[vb false]),(1,[sl none 0 0]),(1,[sl none 0 0]),(1,[sl none 0 0]),(1,[vs ([]:Str)]),(1,[sl none 0 0]),(1,[vs ([]:Str)]),(1,[vi 0]),(1,[vs ([]:Str)]),(1,[sl none 0 0]),(1,[vs ([]:Str)]),(1,[vi 0]),(1,[vi 0]),(1,[vi 0]),(1,[vi 0])]) (by kernel_rfl)) ?_
  refine TL_none (TL_none (TL_none ?_))
  obtain ⟨r_5,hr_5,H⟩:=bind_elim H
  refine TLu (E_c0 (F16_calls none 0 none 0 none 0 none 0 none 0 false nI nI nS ([]:Str) nS ([]:Str) 0 ([]:Str) nP ([]:Str) 0 0 0 0 (by first | exact Nat.le_refl _ | simp) (by first | exact Nat.le_refl _ | simp) (by first | exact Nat.le_refl _ | simp) (by first | exact Nat.le_refl _ | simp) (by first | exact Nat.le_refl _ | simp) r_5 hr_5) call16 ⟨(srcdE rfl),(srcdE rfl),(srcdE rfl),(srcdE rfl),(srcdE rfl),trivial⟩) (fun g_5=>?_)
  refine TLw (V_un rfl (fun w=>notB w r_5)) ?_
  refine TVt ?_
  refine TVm ?_
  refine TFb (d:=37) H (fun hc H=>?_) (fun hc H=>?_)
  ·refine TLw (V_move rfl) ?_
   obtain ⟨r_6,hr_6,H⟩:=bind_elim H
   refine TLu (E_c0 (F19_calls r_1.2.2.2.2.1 r_6 hr_6) call19 .z) (fun g_6=>?_)
   refine TLw (V_bin rfl rfl (fun w=>eqlI w r_6 0)) ?_
   refine TVt ?_
   refine TVm ?_
   refine TFd (d:=42) H (fun hc H=>?_) (fun hc H=>?_)
   ·refine TLw (V_fieldE rfl underlying30 rfl rfl inf3 rfl (v:=ptr (some (b5,0)) 0) rfl) ?_
    refine TLw (V_load rfl (.o 23) rfl isAgg3) ?_
    refine TLw (V_bin rfl rfl (fun w=>eqlI w r_1.1 1)) ?_
    refine TVt ?_
    refine TVm ?_
    refine TFd (d:=47) H (fun hc H=>?_) (fun hc H=>?_)
    ·refine TLw (V_fieldE rfl underlying30 rfl rfl inf27 rfl (v:=ptr (some (b5,9)) 0) rfl) ?_
     refine TLw (V_load rfl (.o 37) rfl isAgg27) ?_
     refine TLw (V_len_slice rfl underlying27) ?_
     refine TLw (V_bin rfl rfl (fun w=>eqlI w ((r_1.2.2.2.2.2.2.2.2.2.2.1).length:Int) 1)) ?_
     refine TVt ?_
     refine TVm ?_
     refine TFd (d:=53) H (fun hc H=>?_) (fun hc H=>?_)
     ·refine TLw (V_move rfl) ?_
      obtain ⟨r_7,hr_7,H⟩:=bind_elim H
      refine TLu (E_c0 (F19_calls r_2.2.2.2.2.1 r_7 hr_7) call19 .z) (fun g_7=>?_)
      refine TLw (V_bin rfl rfl (fun w=>eqlI w r_7 2400)) ?_
      refine TVt ?_
      refine TVm ?_
      refine TFd (d:=58) H (fun hc H=>?_) (fun hc H=>?_)
      ·refine TLw (V_lp (b:=b7) (o:=0) (n:=6) (ps:=[(1,_),(1,_),(1,_),(1,_),(1,_),(1,_)]) ⟨.o 54, .o 55, .o 56, .o 57, .o 58, .o 59,trivial⟩ isAgg34 inf34) ?_
       refine TLw (V_buildStruct (pv:=[(5,vi 40)]) (pl:=[(0,1),(1,1),(2,1),(3,1),(4,1),(5,1)]) rfl rfl underlying34 inf34 places34 zer34 (cs:=flat [(1,[vi 0]),(1,[vi 0]),(1,[vs ([]:Str)]),(1,[vb false]),(1,[vb false]),(1,[vi 40])]) (by kernel_rfl)) ?_
       refine TLw (V_bin rfl rfl (fun w=>eqlSt w underlying34 (by kernel_rfl) (by kernel_rfl) [Lf.i r_3.1,Lf.i r_3.2.1,Lf.s r_3.2.2.1,Lf.b r_3.2.2.2.1,Lf.b r_3.2.2.2.2.1,Lf.i r_3.2.2.2.2.2] [Lf.i 0,Lf.i 0,Lf.s ([]:Str),Lf.b false,Lf.b false,Lf.i 40] (by kernel_rfl) (by kernel_rfl) (by kernel_rfl) (by kernel_rfl))) ?_
       refine TVt ?_
       refine TVa ?_
       obtain ⟨x1,hx1,H⟩:=ltt_elim H
       refine TLr 0 (congrArg vb hx1) ?_
       refine TL_nil (TX_next (TC.sub (m':=[(0,_)]) ⟨rfl,trivial⟩ ?_))
       refine TC.pull (is:=[]) (L':=[]) rfl ?_
       refine TC_ret ?_
       obtain rfl:=sj H
       exact TX1
      ·refine TLs ?_
       refine TLs ?_
       refine TLs ?_
       refine TVf ?_
       refine TVa ?_
       refine TL_nil (TX_next (TC.sub (m':=[(0,_)]) ⟨rfl,trivial⟩ ?_))
       refine TC.pull (is:=[]) (L':=[]) rfl ?_
       refine TC_ret ?_
       obtain rfl:=sj H
       exact TX1
     ·refine TLs ?_
      refine TLs ?_
      refine TLs ?_
      refine TVf ?_
      refine TVm ?_
      refine TLs ?_
      refine TLs ?_
      refine TLs ?_
      refine TVf ?_
      refine TVa ?_
      refine TL_nil (TX_next (TC.sub (m':=[(0,_)]) ⟨rfl,trivial⟩ ?_))
      refine TC.pull (is:=[]) (L':=[]) rfl ?_
      refine TC_ret ?_
      obtain rfl:=sj H
      exact TX1
    ·refine TLs ?_
     refine TLs ?_
     refine TLs ?_
     refine TLs ?_
     refine TVf ?_
     refine TVm ?_
     refine TLs ?_
     refine TLs ?_
     refine TLs ?_
     refine TVf ?_
     refine TVm ?_
     refine TLs ?_
     refine TLs ?_
     refine TLs ?_
     refine TVf ?_
     refine TVa ?_
     refine TL_nil (TX_next (TC.sub (m':=[(0,_)]) ⟨rfl,trivial⟩ ?_))
     refine TC.pull (is:=[]) (L':=[]) rfl ?_
     refine TC_ret ?_
     obtain rfl:=sj H
     exact TX1
   ·refine TLs ?_
    refine TLs ?_
    refine TLs ?_
    refine TVf ?_
    refine TVm ?_
    refine TLs ?_
    refine TLs ?_
    refine TLs ?_
    refine TLs ?_
    refine TVf ?_
    refine TVm ?_
    refine TLs ?_
    refine TLs ?_
    refine TLs ?_
    refine TVf ?_
    refine TVm ?_
    refine TLs ?_
    refine TLs ?_
    refine TLs ?_
    refine TVf ?_
    refine TVa ?_
    refine TL_nil (TX_next (TC.sub (m':=[(0,_)]) ⟨rfl,trivial⟩ ?_))
    refine TC.pull (is:=[]) (L':=[]) rfl ?_
    refine TC_ret ?_
    obtain rfl:=sj H
    exact TX1
  ·refine TLs ?_
   refine TLs ?_
   refine TLs ?_
   refine TVf ?_
   refine TVm ?_
   refine TLs ?_
   refine TLs ?_
   refine TLs ?_
   refine TVf ?_
   refine TVm ?_
   refine TLs ?_
   refine TLs ?_
   refine TLs ?_
   refine TLs ?_
   refine TVf ?_
   refine TVm ?_
   refine TLs ?_
   refine TLs ?_
   refine TLs ?_
   refine TVf ?_
   refine TVm ?_
   refine TLs ?_
   refine TLs ?_
   refine TLs ?_
   refine TVf ?_
   refine TVa ?_
   refine TL_nil (TX_next (TC.sub (m':=[(0,_)]) ⟨rfl,trivial⟩ ?_))
   refine TC.pull (is:=[]) (L':=[]) rfl ?_
   refine TC_ret ?_
   obtain rfl:=sj H
   exact TX1
 ·refine TLs ?_
  refine TLs ?_
  refine TLs ?_
  refine TVf ?_
  refine TVm ?_
  refine TLs ?_
  refine TLs ?_
  refine TLs ?_
  refine TVf ?_
  refine TVm ?_
  refine TLs ?_
  refine TLs ?_
  refine TLs ?_
  refine TVf ?_
  refine TVm ?_
  refine TLs ?_
  refine TLs ?_
  refine TLs ?_
  refine TLs ?_
  refine TVf ?_
  refine TVm ?_
  refine TLs ?_
  refine TLs ?_
  refine TLs ?_
  refine TVf ?_
  refine TVm ?_
  refine TLs ?_
  refine TLs ?_
  refine TLs ?_
  refine TVf ?_
  refine TVa ?_
  refine TL_nil (TX_next (TC.sub (m':=[(0,_)]) ⟨rfl,trivial⟩ ?_))
  refine TC.pull (is:=[]) (L':=[]) rfl ?_
  refine TC_ret ?_
  obtain rfl:=sj H
  exact TX1
end Go.Proofs
end

section
namespace Go.Proofs
open Go Go.Kx
set_option maxRecDepth 100000 in
theorem awake24:halberdlaw24_awake=some true:=by kernel_rfl
end Go.Proofs
end

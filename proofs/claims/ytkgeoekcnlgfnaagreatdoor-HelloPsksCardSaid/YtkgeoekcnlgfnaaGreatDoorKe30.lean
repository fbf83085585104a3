/-
  Part 30 of the proof of what several laws share.
-/
import Derived.Test.YtkgeoekcnlgfnaaGreatDoorKe1
import Derived.Test.YtkgeoekcnlgfnaaGreatDoorKe2
import Derived.Test.YtkgeoekcnlgfnaaGreatDoorKe3
import Derived.Test.YtkgeoekcnlgfnaaGreatDoorKe4
import Derived.Test.YtkgeoekcnlgfnaaGreatDoorKe5
import Derived.Test.YtkgeoekcnlgfnaaGreatDoorKe6
import Derived.Test.YtkgeoekcnlgfnaaGreatDoorKe14
import Derived.Test.YtkgeoekcnlgfnaaGreatDoorKe15
import Derived.Test.YtkgeoekcnlgfnaaGreatDoorKe16
import Derived.Test.YtkgeoekcnlgfnaaGreatDoorKe17
import Derived.Test.YtkgeoekcnlgfnaaGreatDoorKe27
import Derived.Test.YtkgeoekcnlgfnaaGreatDoorKe28
set_option linter.unusedVariables false
set_option linter.unusedSimpArgs false
section
namespace Go.Proofs
open Go Go.Kx
open Vector (replicate)
open TryzI Tryz
def halberdref4_schedule.k1:Str:=([99#8,124#8,119#8,123#8,242#8,107#8,111#8,197#8,48#8,1#8,103#8,43#8,254#8,215#8,171#8,118#8,202#8,130#8,201#8,125#8,250#8,89#8,71#8,240#8,173#8,212#8,162#8,175#8,156#8,164#8,114#8,192#8,183#8,253#8,147#8,38#8,54#8,63#8,247#8,204#8,52#8,165#8,229#8,241#8,113#8,216#8,49#8,21#8,4#8,199#8,35#8,195#8,24#8,150#8,5#8,154#8,7#8,18#8,128#8,226#8,235#8,39#8,178#8,117#8,9#8,131#8,44#8,26#8,27#8,110#8,90#8,160#8,82#8,59#8,214#8,179#8,41#8,227#8,47#8,132#8,83#8,209#8,0#8,237#8,32#8,252#8,177#8,91#8,106#8,203#8,190#8,57#8,74#8,76#8,88#8,207#8,208#8,239#8,170#8,251#8,67#8,77#8,51#8,133#8,69#8,249#8,2#8,127#8,80#8,60#8,159#8,168#8,81#8,163#8,64#8,143#8,146#8,157#8,56#8,245#8,188#8,182#8,218#8,33#8,16#8,255#8,243#8,210#8,205#8,12#8,19#8,236#8,95#8,151#8,68#8,23#8,196#8,167#8,126#8,61#8,100#8,93#8,25#8,115#8,96#8,129#8,79#8,220#8,34#8,42#8,144#8,136#8,70#8,238#8,184#8,20#8,222#8,94#8,11#8,219#8,224#8,50#8,58#8,10#8,73#8,6#8,36#8,92#8,194#8,211#8,172#8,98#8,145#8,149#8,228#8,121#8,231#8,200#8,55#8,109#8,141#8,213#8,78#8,169#8,108#8,86#8,244#8,234#8,101#8,122#8,174#8,8#8,186#8,120#8,37#8,46#8,28#8,166#8,180#8,198#8,232#8,221#8,116#8,31#8,75#8,189#8,139#8,138#8,112#8,62#8,181#8,102#8,72#8,3#8,246#8,14#8,97#8,53#8,87#8,185#8,134#8,193#8,29#8,158#8,225#8,248#8,152#8,17#8,105#8,217#8,142#8,148#8,155#8,30#8,135#8,233#8,206#8,85#8,40#8,223#8,140#8,161#8,137#8,13#8,191#8,230#8,66#8,104#8,65#8,153#8,45#8,15#8,176#8,84#8,187#8,22#8]:Str)
def halberdref4_schedule.b0 (key:Str) (k_1:Int) (s0:Int × List (Vx 8 4)):Option ((Int × List (Vx 8 4)) ⊕ (List (Vx 8 4))) :=
 if s0.1<k_1 then (if 0≤w64 (4 * s0.1)∧w64 (4 * s0.1)<((key).length:Int) then (if 0≤w64 ((w64 (4 * s0.1))+1)∧w64 ((w64 (4 * s0.1))+1)<((key).length:Int) then (if 0≤w64 ((w64 (4 * s0.1))+2)∧w64 ((w64 (4 * s0.1))+2)<((key).length:Int) then (if 0≤w64 ((w64 (4 * s0.1))+3)∧w64 ((w64 (4 * s0.1))+3)<((key).length:Int) then (if (s0.2).length+(([(#v[sg key (w64 (4 * s0.1)),sg key (w64 ((w64 (4 * s0.1))+1)),sg key (w64 ((w64 (4 * s0.1))+2)),sg key (w64 ((w64 (4 * s0.1))+3))]:Vx 8 4)]:List (Vx 8 4))).length≤35184372088832 then (ltt (s0.2++([(#v[sg key (w64 (4 * s0.1)),sg key (w64 ((w64 (4 * s0.1))+1)),sg key (w64 ((w64 (4 * s0.1))+2)),sg key (w64 ((w64 (4 * s0.1))+3))]:Vx 8 4)]:List (Vx 8 4))) fun (l1:List (Vx 8 4))=>(ltt (w64 (s0.1+1)) fun (i1:Int)=>(some (.inl (i1,l1))))) else none) else none) else none) else none) else none) else (some (.inr s0.2))
def halberdref4_schedule.b2 (k_1:Int) (s1:BitVec 8 × Int × List (Vx 8 4)) (s2:Int × Vx 8 4):Option ((Int × Vx 8 4) ⊕ (Vx 8 4)) :=
 if s2.1<4 then (if 0≤s2.1∧s2.1<(4:Int) then (if 0≤w64 (s1.2.1 - k_1)∧w64 (s1.2.1 - k_1)<((s1.2.2).length:Int) then (if 0≤s2.1∧s2.1<(4:Int) then (if 0≤s2.1∧s2.1<(4:Int) then (ltt (vp s2.2 ((s2.1).toNat) ((vg s2.2 ((s2.1).toNat)) ^^^ (vg (lg s1.2.2 ((w64 (s1.2.1 - k_1)).toNat)) ((s2.1).toNat)))) fun (m_2:Vx 8 4)=>(ltt (w64 (s2.1+1)) fun (j2:Int)=>(some (.inl (j2,m_2))))) else none) else none) else none) else none) else (some (.inr s2.2))
def halberdref4_schedule.b1 (k_1:Int) (s1:BitVec 8 × Int × List (Vx 8 4)):Option ((BitVec 8 × Int × List (Vx 8 4)) ⊕ (List (Vx 8 4))) :=
 if s1.2.1<(w64 (4 * (w64 (k_1+7)))) then (if 0≤w64 (s1.2.1 - 1)∧w64 (s1.2.1 - 1)<((s1.2.2).length:Int) then (ltt (lg s1.2.2 ((w64 (s1.2.1 - 1)).toNat)) fun (m_1:Vx 8 4)=>(if k_1 ≠ 0 then (ltt (decide ((s1.2.1.tmod k_1)=0)) fun (x1:Bool)=>((if x1=true then (if 0≤((vg m_1 1).toNat:Int)∧((vg m_1 1).toNat:Int)<((halberdref4_schedule.k1).length:Int) then (if 0≤((vg m_1 2).toNat:Int)∧((vg m_1 2).toNat:Int)<((halberdref4_schedule.k1).length:Int) then (if 0≤((vg m_1 3).toNat:Int)∧((vg m_1 3).toNat:Int)<((halberdref4_schedule.k1).length:Int) then (if 0≤((vg m_1 0).toNat:Int)∧((vg m_1 0).toNat:Int)<((halberdref4_schedule.k1).length:Int) then (ltt ((#v[(sg halberdref4_schedule.k1 ((vg m_1 1).toNat:Int)) ^^^ s1.1,sg halberdref4_schedule.k1 ((vg m_1 2).toNat:Int),sg halberdref4_schedule.k1 ((vg m_1 3).toNat:Int),sg halberdref4_schedule.k1 ((vg m_1 0).toNat:Int)]:Vx 8 4)) fun (m_3:Vx 8 4)=>((halberdref4_double s1.1).bind fun (r_1:BitVec 8)=>(some (r_1,m_3)))) else none) else none) else none) else none) else (if 6<k_1 then (if k_1 ≠ 0 then (ltt (decide ((s1.2.1.tmod k_1)=4)) fun (x2:Bool)=>(if x2=true then (if 0≤((vg m_1 0).toNat:Int)∧((vg m_1 0).toNat:Int)<((halberdref4_schedule.k1).length:Int) then (if 0≤((vg m_1 1).toNat:Int)∧((vg m_1 1).toNat:Int)<((halberdref4_schedule.k1).length:Int) then (if 0≤((vg m_1 2).toNat:Int)∧((vg m_1 2).toNat:Int)<((halberdref4_schedule.k1).length:Int) then (if 0≤((vg m_1 3).toNat:Int)∧((vg m_1 3).toNat:Int)<((halberdref4_schedule.k1).length:Int) then (ltt ((#v[sg halberdref4_schedule.k1 ((vg m_1 0).toNat:Int),sg halberdref4_schedule.k1 ((vg m_1 1).toNat:Int),sg halberdref4_schedule.k1 ((vg m_1 2).toNat:Int),sg halberdref4_schedule.k1 ((vg m_1 3).toNat:Int)]:Vx 8 4)) fun (m_4:Vx 8 4)=>(some (s1.1,m_4))) else none) else none) else none) else none) else (some (s1.1,m_1)))) else none) else (some (s1.1,m_1)))).bind fun (j1:BitVec 8 × Vx 8 4)=>((loop (halberdref4_schedule.b2 k_1 s1) BIG (0,j1.2)).bind fun (t_3:Vx 8 4)=>(if (s1.2.2).length+(([t_3]:List (Vx 8 4))).length≤35184372088832 then (ltt (s1.2.2++([t_3]:List (Vx 8 4))) fun (l2:List (Vx 8 4))=>(ltt (w64 (s1.2.1+1)) fun (i2:Int)=>(some (.inl (j1.1,i2,l2))))) else none)))) else none)) else none) else (some (.inr s1.2.2))
def halberdref4_schedule (key:Str):Option (List (Vx 8 4)) :=
 ltt (w64 (((key).length:Int).tdiv 4)) fun (k_1:Int)=>((loop (halberdref4_schedule.b0 key k_1) BIG (0,([]:List (Vx 8 4)))).bind fun (t_1:List (Vx 8 4))=>((loop (halberdref4_schedule.b1 k_1) BIG (1#8,k_1,t_1)).bind fun (t_2:List (Vx 8 4))=>(some t_2)))
set_option maxHeartbeats 4000000 in
set_option maxRecDepth 20000 in
theorem F80_calls (key:Str) (r:List (Vx 8 4)) (H:halberdref4_schedule key=some r) :
  Does Tryz.prog 80 [vs key] [] [] (Γ:=Adr × List (Vx 8 4)) (fun g=>sl g.1 ((r).length) ((r++g.2).length)) (fun g=>[⟨g.1,eF (fun V:Vx 8 4=>e8 V.toList) (r++g.2)⟩]):=by
 intro w hmem hro hd
 refine calls_of (N:=121) (m0:=[(0,vs key)]) func80 rfl ntmps80 (argM_ok [vs key]) rfl hmem hro hd ?_
 unfold halberdref4_schedule at H
 refine TC_seq (TC_region (TLe (E_nilS rfl (z:=eF (fun V:Vx 8 4=>e8 V.toList) (([]:List (Vx 8 4))++([]:List (Vx 8 4)))) rfl) (fun A1=>?_)))
 refine TL_nil (TX_next (TC_seq (TC_region (TVm ?_))))
 refine TLv (V_len_str rfl underlying9) ?_
 refine TLv (V_bin rfl rfl (fun w=>quoI w ((key).length:Int) 4 (by decide))) ?_
 refine TVa ?_
 obtain ⟨k_1,hk_1,H⟩:=ltt_elim H
 refine TLr 3 (congrArg vi hk_1) ?_
 refine TL_nil (TX_next (TC_seq (TC_region (TLe (E_nilS rfl (z:=eF (fun V:Vx 8 4=>e8 V.toList) (([]:List (Vx 8 4))++([]:List (Vx 8 4)))) rfl) (fun A2=>?_)))))
 refine TL_nil (TX_next (TC_seq (TC_seq (TC_region (TVa ?_)))))
 refine TL_nil (TX_next (TC_block ?_))
 obtain ⟨t_1,Hl,H⟩:=bind_elim H
 refine TC.sub (m':=[(0,_),(3,_),(4,_),(5,_)]) ⟨rfl,rfl,rfl,rfl,trivial⟩ ?_
 refine TC.pull (is:=[0]) (L':=[_]) rfl ?_
 refine TC_loopL (id:=0) (body:=(halberdref4_schedule.b0 key k_1)) (σ:=Int × List (Vx 8 4)) (Γ:=Adr × List (Vx 8 4)) (Γx:=Adr × List (Vx 8 4)) (fun s0 g0_=>[(0,vs key),(3,vi k_1),(4,sl g0_.1 ((s0.2).length) ((s0.2++g0_.2).length)),(5,vi s0.1)]) (fun s0 g0_=>[⟨g0_.1,eF (fun V:Vx 8 4=>e8 V.toList) (s0.2++g0_.2)⟩]) (fun t g=>[(3,vi k_1),(4,sl g.1 ((t).length) ((t++g.2).length))]) (fun t g=>[⟨g.1,eF (fun V:Vx 8 4=>e8 V.toList) (t++g.2)⟩]) ?_ BIG (0,([]:List (Vx 8 4))) (A2,([]:List (Vx 8 4))) t_1 Hl ?_
 ·intro s0 g0_ r1 H K hK hE
  unfold halberdref4_schedule.b0 at H
  refine TC_seq (TC_seq (TC_region (TVm ?_)))
  refine TVm ?_
  refine TLv (V_bin rfl rfl (fun w=>lssI w s0.1 k_1)) ?_
  refine TL_nil (TX_next (TCd H (fun hc H=>?_) (fun hc H=>?_)))
  ·refine TC_skip (TX_next (TC_seq (TC_block ?_)))
   obtain ⟨h1,H⟩:=if_elim H
   obtain ⟨h2,H⟩:=if_elim H
   obtain ⟨h3,H⟩:=if_elim H
   obtain ⟨h4,H⟩:=if_elim H
   obtain ⟨h5,H⟩:=if_elim H
   obtain ⟨l1,hl1,H⟩:=ltt_elim H
   refine TA_begin [] 24 (by kernel_rfl) (N:=24) rfl ?_
   refine TA_mix (is:=[]) (done':=dn 24 4194303) [itV 0 18 (sl g0_.1 ((s0.2).length) ((s0.2++g0_.2).length)) [],itV 1 19 (vs key) [],itV 2 20 (vi s0.1) [],itV 3 21 (vi (w64 (4 * s0.1))) [2],itV 4 22 (v8 (sg key (w64 (4 * s0.1)))) [1,3],itV 5 23 (vs key) [],itV 6 24 (vi s0.1) [],itV 7 25 (vi (w64 (4 * s0.1))) [6],itV 8 26 (vi (w64 ((w64 (4 * s0.1))+1))) [7],itV 9 27 (v8 (sg key (w64 ((w64 (4 * s0.1))+1)))) [8,5],itV 10 28 (vs key) [],itV 11 29 (vi s0.1) [],itV 12 30 (vi (w64 (4 * s0.1))) [11],itV 13 31 (vi (w64 ((w64 (4 * s0.1))+2))) [12],itV 14 32 (v8 (sg key (w64 ((w64 (4 * s0.1))+2)))) [10,13],itV 15 33 (vs key) [],itV 16 34 (vi s0.1) [],itV 17 35 (vi (w64 (4 * s0.1))) [16],itV 18 36 (vi (w64 ((w64 (4 * s0.1))+3))) [17],itV 19 37 (v8 (sg key (w64 ((w64 (4 * s0.1))+3)))) [15,18],itV 20 38 (aG [(4,e8 ((#v[sg key (w64 (4 * s0.1)),sg key (w64 ((w64 (4 * s0.1))+1)),sg key (w64 ((w64 (4 * s0.1))+2)),sg key (w64 ((w64 (4 * s0.1))+3))]:Vx 8 4).toList))]) [14,9,19,4],⟨21,39,fun _ b1=>sl (some (b1,0)) 1 1,fun b1=>[⟨some (b1,0),eF (fun V:Vx 8 4=>e8 V.toList) ([(#v[sg key (w64 (4 * s0.1)),sg key (w64 ((w64 (4 * s0.1))+1)),sg key (w64 ((w64 (4 * s0.1))+2)),sg key (w64 ((w64 (4 * s0.1))+3))]:Vx 8 4)]:List (Vx 8 4))⟩],[20],none⟩] [] 2 (by kernel_rfl) (QP.block (QP.then (QP.then (QP.block (QP.then QP.body))))) (by kernel_rfl) rfl (.v rfl (V_move rfl) (.v rfl (V_move rfl) (.v rfl (V_move rfl) (.v rfl (V_bin rfl rfl (fun w=>mulI w 4 s0.1)) (.v rfl (V_idxStr rfl rfl (i:=w64 (4 * s0.1)) underlying9 h1.1 h1.2) (.v rfl (V_move rfl) (.v rfl (V_move rfl) (.v rfl (V_bin rfl rfl (fun w=>mulI w 4 s0.1)) (.v rfl (V_bin rfl rfl (fun w=>addI w (w64 (4 * s0.1)) 1)) (.v rfl (V_idxStr rfl rfl (i:=w64 ((w64 (4 * s0.1))+1)) underlying9 h2.1 h2.2) (.v rfl (V_move rfl) (.v rfl (V_move rfl) (.v rfl (V_bin rfl rfl (fun w=>mulI w 4 s0.1)) (.v rfl (V_bin rfl rfl (fun w=>addI w (w64 (4 * s0.1)) 2)) (.v rfl (V_idxStr rfl rfl (i:=w64 ((w64 (4 * s0.1))+2)) underlying9 h3.1 h3.2) (.v rfl (V_move rfl) (.v rfl (V_move rfl) (.v rfl (V_bin rfl rfl (fun w=>mulI w 4 s0.1)) (.v rfl (V_bin rfl rfl (fun w=>addI w (w64 (4 * s0.1)) 3)) (.v rfl (V_idxStr rfl rfl (i:=w64 ((w64 (4 * s0.1))+3)) underlying9 h4.1 h4.2) (.v rfl (V_buildArr (pv:=[(0,v8 (sg key (w64 (4 * s0.1)))),(1,v8 (sg key (w64 ((w64 (4 * s0.1))+1)))),(2,v8 (sg key (w64 ((w64 (4 * s0.1))+2)))),(3,v8 (sg key (w64 ((w64 (4 * s0.1))+3))))]) rfl rfl underlying147 inf147 inf5 rfl zer147 (cs:=e8 ((#v[sg key (w64 (4 * s0.1)),sg key (w64 ((w64 (4 * s0.1))+1)),sg key (w64 ((w64 (4 * s0.1))+2)),sg key (w64 ((w64 (4 * s0.1))+3))]:Vx 8 4).toList)) (by kernel_rfl)) (.c rfl (fun _ _=>(E_buildSlice (pv:=[(0,aG [(4,e8 ((#v[sg key (w64 (4 * s0.1)),sg key (w64 ((w64 (4 * s0.1))+1)),sg key (w64 ((w64 (4 * s0.1))+2)),sg key (w64 ((w64 (4 * s0.1))+3))]:Vx 8 4).toList))])]) rfl rfl underlying127 inf147 (s:=4) rfl zer147 (by kernel_rfl) rfl rfl (cs:=eF (fun V:Vx 8 4=>e8 V.toList) ([(#v[sg key (w64 (4 * s0.1)),sg key (w64 ((w64 (4 * s0.1))+1)),sg key (w64 ((w64 (4 * s0.1))+2)),sg key (w64 ((w64 (4 * s0.1))+3))]:Vx 8 4)]:List (Vx 8 4))) (fill_sl (g:=fun V:Vx 8 4=>e8 V.toList) 4 (fill_part [] [] rfl rfl trivial rfl (by kernel_rfl) (lenV (f:=v8) (#v[sg key (w64 (4 * s0.1)),sg key (w64 ((w64 (4 * s0.1))+1)),sg key (w64 ((w64 (4 * s0.1))+2)),sg key (w64 ((w64 (4 * s0.1))+3))]:Vx 8 4)) fill_end)))) .nil)))))))))))))))))))))) .nil (by kernel_rfl) rfl (fun γ=>?_)
   refine TA_cut [(39,sl (some ((γ 21),0)) 1 1),(18,sl g0_.1 ((s0.2).length) ((s0.2++g0_.2).length)),(0,vs key),(3,vi k_1),(4,sl g0_.1 ((s0.2).length) ((s0.2++g0_.2).length)),(5,vi s0.1)] [⟨some ((γ 21),0),eF (fun V:Vx 8 4=>e8 V.toList) ([(#v[sg key (w64 (4 * s0.1)),sg key (w64 ((w64 (4 * s0.1))+1)),sg key (w64 ((w64 (4 * s0.1))+2)),sg key (w64 ((w64 (4 * s0.1))+3))]:Vx 8 4)]:List (Vx 8 4))⟩,⟨g0_.1,eF (fun V:Vx 8 4=>e8 V.toList) (s0.2++g0_.2)⟩] ⟨rfl,rfl,rfl,rfl,rfl,rfl,trivial⟩ rfl ?_
   generalize γ 21=b1
   refine TA_all (rs:=[22]) (by kernel_rfl) rfl ?_
   refine ⟨?_,trivial⟩
   refine TO_re (d:=39) (v:=sl (some (b1,0)) 1 1) (v':=sl (some (b1,0)) ((([(#v[sg key (w64 (4 * s0.1)),sg key (w64 ((w64 (4 * s0.1))+1)),sg key (w64 ((w64 (4 * s0.1))+2)),sg key (w64 ((w64 (4 * s0.1))+3))]:Vx 8 4)]:List (Vx 8 4))).length) 1) rfl (congrArg (fun n=>sl (some (b1,0)) n 1) rfl) ?_
   refine TO_e (is:=[]) (done':=dn 24 8388607) rfl rfl rfl rfl (by kernel_rfl) (E_appSl (g:=fun V:Vx 8 4=>e8 V.toList) (s:=4) (j:=1) (l:=s0.2) (sp:=g0_.2) (ds:=([(#v[sg key (w64 (4 * s0.1)),sg key (w64 ((w64 (4 * s0.1))+1)),sg key (w64 ((w64 (4 * s0.1))+2)),sg key (w64 ((w64 (4 * s0.1))+3))]:Vx 8 4)]:List (Vx 8 4))) (replicate 4 0#8) rfl rfl rfl (fun _=>by simp) rfl (fun _=>OneC.map (fun _=>rfl) _) (.o 0) underlying127 underlying127 inf147 rfl (zer147.trans rfl) (bytes:=4) rfl (by have:=h5; omega) (by have:=h5; omega) hl1) (fun _ _=>rfl) (fun q1=>?_)
   refine TA_all (rs:=[23]) (by kernel_rfl) rfl ?_
   refine ⟨?_,trivial⟩
   refine TO_v (is:=[]) (done':=dn 24 16777215) rfl rfl rfl rfl (by kernel_rfl) (V_assign rfl) (fun _=>rfl) ?_
   refine TA_done (by kernel_rfl) ?_ 0
   refine TX_block_normal (TX_next (TC_region (TVm ?_)))
   refine TLv (V_bin rfl rfl (fun w=>addI w s0.1 1)) ?_
   refine TVa ?_
   obtain ⟨i1,hi1,H⟩:=ltt_elim H
   refine TLr 5 (congrArg vi hi1) ?_
   refine TL_nil ?_
   obtain rfl:=sj H
   exact TXk [1] (hK (i1,l1) rfl (q1.1,q1.2))
  ·refine TC_exit (TX_then_exit (TX_then_exit ?_))
   obtain rfl:=sj H
   exact TXj [0] (hE s0.2 rfl (g0_.1,g0_.2))
 ·intro g
  obtain ⟨gx1,hgx⟩ : ∃ z,z=g:=⟨g,rfl⟩; subst hgx
  refine TX_block_exit (TX_next (TC_seq (TC_region (TVa ?_))))
  refine TL_nil (TX_next (TC_seq (TC_seq (TC_region (TVm ?_)))))
  refine TVa ?_
  refine TL_nil (TX_next (TC_block ?_))
  obtain ⟨t_2,Hl,H⟩:=bind_elim H
  refine TC.sub (m':=[(3,_),(4,_),(6,_),(7,_)]) ⟨rfl,rfl,rfl,rfl,trivial⟩ ?_
  refine TC.pull (is:=[0]) (L':=[_]) rfl ?_
  refine TC_loopL (id:=2) (body:=(halberdref4_schedule.b1 k_1)) (σ:=BitVec 8 × Int × List (Vx 8 4)) (Γ:=Adr × List (Vx 8 4)) (Γx:=Adr × List (Vx 8 4)) (fun s1 g1_=>[(3,vi k_1),(4,sl g1_.1 ((s1.2.2).length) ((s1.2.2++g1_.2).length)),(6,v8 s1.1),(7,vi s1.2.1)]) (fun s1 g1_=>[⟨g1_.1,eF (fun V:Vx 8 4=>e8 V.toList) (s1.2.2++g1_.2)⟩]) (fun t g=>[(4,sl g.1 ((t).length) ((t++g.2).length))]) (fun t g=>[⟨g.1,eF (fun V:Vx 8 4=>e8 V.toList) (t++g.2)⟩]) ?_ BIG (1#8,k_1,t_1) (gx1.1,gx1.2) t_2 Hl ?_
  ·intro s1 g1_ r1 H K hK hE
   unfold halberdref4_schedule.b1 at H
   refine TC_seq (TC_seq (TC_region (TVm ?_)))
   refine TVm ?_
   refine TLv (V_bin rfl rfl (fun w=>addI w k_1 7)) ?_
   refine TLv (V_bin rfl rfl (fun w=>mulI w 4 (w64 (k_1+7)))) ?_
   refine TLv (V_bin rfl rfl (fun w=>lssI w s1.2.1 (w64 (4 * (w64 (k_1+7)))))) ?_
   refine TL_nil (TX_next (TCd H (fun hc H=>?_) (fun hc H=>?_)))
   ·refine TC_skip (TX_next (TC_seq (TC_block (TC_seq (TC_region (TVm ?_))))))
    refine TVm ?_
    refine TLv (V_bin rfl rfl (fun w=>subI w s1.2.1 1)) ?_
    obtain ⟨h6,H⟩:=if_elim H
    refine TLv (V_idxSlS (i:=w64 (s1.2.1 - 1)) rfl rfl underlying127 inf147 rfl (.o 0) (eF_ne2 (s:=4) (fun _=>by simp) rfl (lt_app (toNat_lt h6.1 h6.2))) h6.1 h6.2 (k:=((w64 (s1.2.1 - 1)).toNat) * 4) rfl) ?_
    refine TLv (V_loadPart (n:=4) (ds:=e8 ((lg s1.2.2 ((w64 (s1.2.1 - 1)).toNat)).toList)) rfl (.o 0) ((part_eF (g:=fun V:Vx 8 4=>e8 V.toList) (s:=4) (fun _=>by simp) (s1.2.2++g1_.2) ((w64 (s1.2.1 - 1)).toNat) (lt_app (toNat_lt h6.1 h6.2))).trans (congrArg (fun V:Vx 8 4=>e8 V.toList) (lg_app (toNat_lt h6.1 h6.2)))) (by simp) rfl isAgg147 inf147 rfl) ?_
    refine TLe (E_allocP [(4,e8 ((replicate 4 0#8).toList))] inf147 zer147 ⟨(lenV (f:=v8) (replicate 4 0#8)),trivial⟩) (fun b2=>?_)
    refine TLn (E_sv 0 inf147) (fun _=>?_)
    obtain ⟨m_1,hm_1,H⟩:=ltt_elim H
    refine TL_reE (j:=0) (A:=some (b2,0)) (cs:=e8 ((lg s1.2.2 ((w64 (s1.2.1 - 1)).toNat)).toList)) (cs':=e8 m_1.toList) rfl (congrArg (fun z:Vx 8 4=>e8 (Vector.toList z)) hm_1) ?_
    refine TL_nil (TX_next (TC_seq (TC_block (TC_seq (TC_region (TVm ?_))))))
    refine TVm ?_
    obtain ⟨h7,H⟩:=if_elim H
    refine TLv (V_bin rfl rfl (fun w=>remI w s1.2.1 k_1 h7)) ?_
    refine TLv (V_bin rfl rfl (fun w=>eqlI w (s1.2.1.tmod k_1) 0)) ?_
    refine TVa ?_
    obtain ⟨x1,hx1,H⟩:=ltt_elim H
    refine TLr 54 (congrArg vb hx1) ?_
    refine TL_nil (TX_next ?_)
    obtain ⟨j1,Hj,H⟩:=bind_elim H
    refine TC_join (Γ:=Unit) (fun gj1=>[(3,vi k_1),(4,sl g1_.1 ((s1.2.2).length) ((s1.2.2++g1_.2).length)),(6,v8 j1.1),(7,vi s1.2.1),(8,ptr (some (b2,0)) 0)]) (fun gj1=>[⟨g1_.1,eF (fun V:Vx 8 4=>e8 V.toList) (s1.2.2++g1_.2)⟩,⟨some (b2,0),e8 j1.2.toList⟩]) ?_ ?_
    ·intro gj1
     refine TX_block_normal (TX_next (TC_seq (TC_seq (TC_region (TVa ?_)))))
     refine TL_nil (TX_next (TC_block ?_))
     obtain ⟨t_3,Hl,H⟩:=bind_elim H
     refine TC.sub (m':=[(3,_),(4,_),(6,_),(7,_),(8,_),(9,_)]) ⟨rfl,rfl,rfl,rfl,rfl,rfl,trivial⟩ ?_
     refine TC.pull (is:=[0,0]) (L':=[_,_]) rfl ?_
     refine TC_loopL (id:=5) (body:=(halberdref4_schedule.b2 k_1 s1)) (σ:=Int × Vx 8 4) (Γ:=Unit) (Γx:=Unit) (fun s2 g2_=>[(3,vi k_1),(4,sl g1_.1 ((s1.2.2).length) ((s1.2.2++g1_.2).length)),(6,v8 j1.1),(7,vi s1.2.1),(8,ptr (some (b2,0)) 0),(9,vi s2.1)]) (fun s2 g2_=>[⟨g1_.1,eF (fun V:Vx 8 4=>e8 V.toList) (s1.2.2++g1_.2)⟩,⟨some (b2,0),e8 s2.2.toList⟩]) (fun t g=>[(3,vi k_1),(4,sl g1_.1 ((s1.2.2).length) ((s1.2.2++g1_.2).length)),(6,v8 j1.1),(7,vi s1.2.1),(8,ptr (some (b2,0)) 0)]) (fun t g=>[⟨g1_.1,eF (fun V:Vx 8 4=>e8 V.toList) (s1.2.2++g1_.2)⟩,⟨some (b2,0),e8 t.toList⟩]) ?_ BIG (0,j1.2) () t_3 Hl ?_
     ·intro s2 g2_ r1 H K hK hE
      unfold halberdref4_schedule.b2 at H
      refine TC_seq (TC_seq (TC_region (TVm ?_)))
      refine TLv (V_bin rfl rfl (fun w=>lssI w s2.1 4)) ?_
      refine TL_nil (TX_next (TCd H (fun hc H=>?_) (fun hc H=>?_)))
      ·refine TC_skip (TX_next (TC_seq (TC_block ?_)))
       obtain ⟨h8,H⟩:=if_elim H
       obtain ⟨h9,H⟩:=if_elim H
       obtain ⟨h10,H⟩:=if_elim H
       obtain ⟨h11,H⟩:=if_elim H
       obtain ⟨m_2,hm_2,H⟩:=ltt_elim H
       refine TA_begin [] 15 (by kernel_rfl) (N:=15) rfl ?_
       refine TA_mix (is:=[]) (done':=dn 15 16383) [itV 0 102 (vi s2.1) [],itV 1 103 (vi s2.1) [],itV 2 104 (ptr (some (b2,0)) ((s2.1).toNat)) [1],itV 3 105 (v8 (vg s2.2 ((s2.1).toNat))) [2],itV 4 106 (sl g1_.1 ((s1.2.2).length) ((s1.2.2++g1_.2).length)) [],itV 5 107 (vi s1.2.1) [],itV 6 108 (vi k_1) [],itV 7 109 (vi (w64 (s1.2.1 - k_1))) [5,6],itV 8 110 (vi s2.1) [],itV 9 111 (ptr g1_.1 (((w64 (s1.2.1 - k_1)).toNat) * 4)) [4,7],itV 10 112 (ptr g1_.1 (((w64 (s1.2.1 - k_1)).toNat) * 4+(s2.1).toNat)) [8,9],itV 11 113 (v8 (vg (lg s1.2.2 ((w64 (s1.2.1 - k_1)).toNat)) ((s2.1).toNat))) [10],itV 12 114 (v8 ((vg s2.2 ((s2.1).toNat)) ^^^ (vg (lg s1.2.2 ((w64 (s1.2.1 - k_1)).toNat)) ((s2.1).toNat)))) [3,11],itV 13 115 (ptr (some (b2,0)) ((s2.1).toNat)) [0]] [] 1 (by kernel_rfl) (QP.block (QP.then (QP.then (QP.block (QP.then (QP.block (QP.then (QP.then (QP.block (QP.then QP.body)))))))))) (by kernel_rfl) rfl (.v rfl (V_move rfl) (.v rfl (V_move rfl) (.v rfl (V_idxArr (i:=s2.1) rfl rfl underlying147 inf5 rfl h8.1 h8.2 (k:=(s2.1).toNat) (k01 _)) (.v rfl (V_load rfl (.o 1) (get_vec (f:=v8) (V:=s2.2) (toNat_lt h8.1 h8.2)) isAgg5) (.v rfl (V_move rfl) (.v rfl (V_move rfl) (.v rfl (V_move rfl) (.v rfl (V_bin rfl rfl (fun w=>subI w s1.2.1 k_1)) (.v rfl (V_move rfl) (.v rfl (V_idxSlS (i:=w64 (s1.2.1 - k_1)) rfl rfl underlying127 inf147 rfl (.o 0) (eF_ne2 (s:=4) (fun _=>by simp) rfl (lt_app (toNat_lt h9.1 h9.2))) h9.1 h9.2 (k:=((w64 (s1.2.1 - k_1)).toNat) * 4) rfl) (.v rfl (V_idxArr (i:=s2.1) rfl rfl underlying147 inf5 rfl h10.1 h10.2 (k:=((w64 (s1.2.1 - k_1)).toNat) * 4+(s2.1).toNat) (k1 _ _)) (.v rfl (V_load rfl (.o 0) (((get_eF (g:=fun V:Vx 8 4=>e8 V.toList) (s:=4) (fun _=>by simp) (s1.2.2++g1_.2) ((w64 (s1.2.1 - k_1)).toNat) ((s2.1).toNat) (lt_app (toNat_lt h9.1 h9.2)) (toNat_lt h10.1 h10.2)).trans (congrArg (fun z=>((fun V:Vx 8 4=>e8 V.toList) z)[(s2.1).toNat]?) (lg_app (toNat_lt h9.1 h9.2)))).trans (get_vec (toNat_lt h10.1 h10.2))) isAgg5) (.v rfl (V_bin rfl rfl (fun w=>xor8 w (vg s2.2 ((s2.1).toNat)) (vg (lg s1.2.2 ((w64 (s1.2.1 - k_1)).toNat)) ((s2.1).toNat)))) (.v rfl (V_idxArr (i:=s2.1) rfl rfl underlying147 inf5 rfl h11.1 h11.2 (k:=(s2.1).toNat) (k01 _)) .nil)))))))))))))) .nil (by kernel_rfl) rfl (fun γ=>?_)
       refine TA_cut [(115,ptr (some (b2,0)) ((s2.1).toNat)),(114,v8 ((vg s2.2 ((s2.1).toNat)) ^^^ (vg (lg s1.2.2 ((w64 (s1.2.1 - k_1)).toNat)) ((s2.1).toNat)))),(3,vi k_1),(4,sl g1_.1 ((s1.2.2).length) ((s1.2.2++g1_.2).length)),(6,v8 j1.1),(7,vi s1.2.1),(8,ptr (some (b2,0)) 0),(9,vi s2.1)] [⟨g1_.1,eF (fun V:Vx 8 4=>e8 V.toList) (s1.2.2++g1_.2)⟩,⟨some (b2,0),e8 s2.2.toList⟩] ⟨rfl,rfl,rfl,rfl,rfl,rfl,rfl,rfl,trivial⟩ rfl ?_
       refine TA_all (rs:=[14]) (by kernel_rfl) rfl ?_
       refine ⟨?_,trivial⟩
       refine TO_n (is:=[]) (done':=dn 15 32767) rfl rfl rfl (by kernel_rfl) (E_store (j:=1) rfl rfl inf5 rfl rfl rfl (by simpa using (toNat_lt h11.1 h11.2)) (cs':=e8 ((vp s2.2 ((s2.1).toNat) ((vg s2.2 ((s2.1).toNat)) ^^^ (vg (lg s1.2.2 ((w64 (s1.2.1 - k_1)).toNat)) ((s2.1).toNat)))).toList)) set_vec) (fun _ _=>rfl) (fun _=>?_)
       refine TA_reE (j:=1) (A:=some (b2,0)) (cs:=e8 ((vp s2.2 ((s2.1).toNat) ((vg s2.2 ((s2.1).toNat)) ^^^ (vg (lg s1.2.2 ((w64 (s1.2.1 - k_1)).toNat)) ((s2.1).toNat)))).toList)) (cs':=e8 m_2.toList) rfl (congrArg (fun z:Vx 8 4=>e8 (Vector.toList z)) hm_2) ?_
       refine TA_done (by kernel_rfl) ?_ 0
       refine TX_block_normal (TX_next (TC_region (TVm ?_)))
       refine TLv (V_bin rfl rfl (fun w=>addI w s2.1 1)) ?_
       refine TVa ?_
       obtain ⟨j2,hj2,H⟩:=ltt_elim H
       refine TLr 9 (congrArg vi hj2) ?_
       refine TL_nil ?_
       obtain rfl:=sj H
       exact TXk [0,0] (hK (j2,m_2) rfl ())
      ·refine TC_exit (TX_then_exit (TX_then_exit ?_))
       obtain rfl:=sj H
       exact TXj [0,0] (hE s2.2 rfl ())
     ·intro g
      refine TX_block_exit (TX_next (TC_region (TVm ?_)))
      refine TLv (V_lag (.o 1) isAgg147 inf147) ?_
      refine TLe (E_buildSlice (pv:=[(0,aG [(4,e8 t_3.toList)])]) rfl rfl underlying127 inf147 (s:=4) rfl zer147 (by kernel_rfl) rfl rfl (cs:=eF (fun V:Vx 8 4=>e8 V.toList) ([t_3]:List (Vx 8 4))) (fill_sl (g:=fun V:Vx 8 4=>e8 V.toList) 4 (fill_part [] [] rfl rfl trivial rfl (by kernel_rfl) (lenV (f:=v8) t_3) fill_end))) (fun b3=>?_)
      refine TL_re (d:=118) (v:=sl (some (b3,0)) 1 1) (v':=sl (some (b3,0)) ((([t_3]:List (Vx 8 4))).length) 1) rfl (congrArg (fun n=>sl (some (b3,0)) n 1) rfl) ?_
      obtain ⟨h12,H⟩:=if_elim H
      obtain ⟨l2,hl2,H⟩:=ltt_elim H
      refine TLe (E_appSl (g:=fun V:Vx 8 4=>e8 V.toList) (s:=4) (j:=1) (l:=s1.2.2) (sp:=g1_.2) (ds:=([t_3]:List (Vx 8 4))) (replicate 4 0#8) rfl rfl rfl (fun _=>by simp) rfl (fun _=>OneC.map (fun _=>rfl) _) (.o 0) underlying127 underlying127 inf147 rfl (zer147.trans rfl) (bytes:=4) rfl (by have:=h12; omega) (by have:=h12; omega) hl2) (fun q2=>?_)
      refine TVa ?_
      refine TL_nil (TX_block_normal (TX_next (TC_region (TVm ?_))))
      refine TLv (V_bin rfl rfl (fun w=>addI w s1.2.1 1)) ?_
      refine TVa ?_
      obtain ⟨i2,hi2,H⟩:=ltt_elim H
      refine TLr 7 (congrArg vi hi2) ?_
      refine TL_nil ?_
      obtain rfl:=sj H
      exact TXk [1] (hK (j1.1,i2,l2) rfl (q2.1,q2.2))
    ·intro hJ
     replace H:=Hj
     refine TCb H (fun hc H=>?_) (fun hc H=>?_)
     ·refine TC_seq ?_
      obtain ⟨h13,H⟩:=if_elim H
      obtain ⟨h14,H⟩:=if_elim H
      obtain ⟨h15,H⟩:=if_elim H
      obtain ⟨h16,H⟩:=if_elim H
      obtain ⟨m_3,hm_3,H⟩:=ltt_elim H
      refine TA_begin [] 16 (by kernel_rfl) (N:=16) rfl ?_
      refine TA_mix (is:=[]) (done':=dn 16 32767) [itV 0 59 (ptr (some (b2,0)) 1) [],itV 1 60 (v8 (vg m_1 1)) [0],itV 2 61 (v8 (sg halberdref4_schedule.k1 ((vg m_1 1).toNat:Int))) [1],itV 3 62 (v8 s1.1) [],itV 4 63 (v8 ((sg halberdref4_schedule.k1 ((vg m_1 1).toNat:Int)) ^^^ s1.1)) [2,3],itV 5 64 (ptr (some (b2,0)) 2) [],itV 6 65 (v8 (vg m_1 2)) [5],itV 7 66 (v8 (sg halberdref4_schedule.k1 ((vg m_1 2).toNat:Int))) [6],itV 8 67 (ptr (some (b2,0)) 3) [],itV 9 68 (v8 (vg m_1 3)) [8],itV 10 69 (v8 (sg halberdref4_schedule.k1 ((vg m_1 3).toNat:Int))) [9],itV 11 70 (ptr (some (b2,0)) 0) [],itV 12 71 (v8 (vg m_1 0)) [11],itV 13 72 (v8 (sg halberdref4_schedule.k1 ((vg m_1 0).toNat:Int))) [12],itV 14 73 (aG [(4,e8 ((#v[(sg halberdref4_schedule.k1 ((vg m_1 1).toNat:Int)) ^^^ s1.1,sg halberdref4_schedule.k1 ((vg m_1 2).toNat:Int),sg halberdref4_schedule.k1 ((vg m_1 3).toNat:Int),sg halberdref4_schedule.k1 ((vg m_1 0).toNat:Int)]:Vx 8 4).toList))]) [13,7,10,4]] [] 1 (by kernel_rfl) (QP.then (QP.block (QP.then (QP.block (QP.then (QP.then (QP.block (QP.then QP.body)))))))) (by kernel_rfl) rfl (.v rfl (V_idxArr (i:=1) rfl rfl underlying147 inf5 rfl (by decide) (by decide) (k:=1) (k01 _)) (.v rfl (V_load rfl (.o 0) (get_vec (f:=v8) (V:=m_1) (by decide:1<4)) isAgg5) (.v rfl (V_idxStr rfl rfl (i:=((vg m_1 1).toNat:Int)) underlying9 h13.1 h13.2) (.v rfl (V_move rfl) (.v rfl (V_bin rfl rfl (fun w=>xor8 w (sg halberdref4_schedule.k1 ((vg m_1 1).toNat:Int)) s1.1)) (.v rfl (V_idxArr (i:=2) rfl rfl underlying147 inf5 rfl (by decide) (by decide) (k:=2) (k01 _)) (.v rfl (V_load rfl (.o 0) (get_vec (f:=v8) (V:=m_1) (by decide:2<4)) isAgg5) (.v rfl (V_idxStr rfl rfl (i:=((vg m_1 2).toNat:Int)) underlying9 h14.1 h14.2) (.v rfl (V_idxArr (i:=3) rfl rfl underlying147 inf5 rfl (by decide) (by decide) (k:=3) (k01 _)) (.v rfl (V_load rfl (.o 0) (get_vec (f:=v8) (V:=m_1) (by decide:3<4)) isAgg5) (.v rfl (V_idxStr rfl rfl (i:=((vg m_1 3).toNat:Int)) underlying9 h15.1 h15.2) (.v rfl (V_idxArr (i:=0) rfl rfl underlying147 inf5 rfl (by decide) (by decide) (k:=0) (k01 _)) (.v rfl (V_load rfl (.o 0) (get_vec (f:=v8) (V:=m_1) (by decide:0<4)) isAgg5) (.v rfl (V_idxStr rfl rfl (i:=((vg m_1 0).toNat:Int)) underlying9 h16.1 h16.2) (.v rfl (V_buildArr (pv:=[(0,v8 ((sg halberdref4_schedule.k1 ((vg m_1 1).toNat:Int)) ^^^ s1.1)),(1,v8 (sg halberdref4_schedule.k1 ((vg m_1 2).toNat:Int))),(2,v8 (sg halberdref4_schedule.k1 ((vg m_1 3).toNat:Int))),(3,v8 (sg halberdref4_schedule.k1 ((vg m_1 0).toNat:Int)))]) rfl rfl underlying147 inf147 inf5 rfl zer147 (cs:=e8 ((#v[(sg halberdref4_schedule.k1 ((vg m_1 1).toNat:Int)) ^^^ s1.1,sg halberdref4_schedule.k1 ((vg m_1 2).toNat:Int),sg halberdref4_schedule.k1 ((vg m_1 3).toNat:Int),sg halberdref4_schedule.k1 ((vg m_1 0).toNat:Int)]:Vx 8 4).toList)) (by kernel_rfl)) .nil))))))))))))))) .nil (by kernel_rfl) rfl (fun γ=>?_)
      refine TA_cut [(73,aG [(4,e8 ((#v[(sg halberdref4_schedule.k1 ((vg m_1 1).toNat:Int)) ^^^ s1.1,sg halberdref4_schedule.k1 ((vg m_1 2).toNat:Int),sg halberdref4_schedule.k1 ((vg m_1 3).toNat:Int),sg halberdref4_schedule.k1 ((vg m_1 0).toNat:Int)]:Vx 8 4).toList))]),(8,ptr (some (b2,0)) 0),(3,vi k_1),(4,sl g1_.1 ((s1.2.2).length) ((s1.2.2++g1_.2).length)),(6,v8 s1.1),(7,vi s1.2.1)] [⟨some (b2,0),e8 m_1.toList⟩,⟨g1_.1,eF (fun V:Vx 8 4=>e8 V.toList) (s1.2.2++g1_.2)⟩] ⟨rfl,rfl,rfl,rfl,rfl,rfl,trivial⟩ rfl ?_
      refine TA_all (rs:=[15]) (by kernel_rfl) rfl ?_
      refine ⟨?_,trivial⟩
      refine TO_n (is:=[]) (done':=dn 16 65535) rfl rfl rfl (by kernel_rfl) (E_sv 0 inf147) (fun _ _=>rfl) (fun _=>?_)
      refine TA_reE (j:=0) (A:=some (b2,0)) (cs:=e8 ((#v[(sg halberdref4_schedule.k1 ((vg m_1 1).toNat:Int)) ^^^ s1.1,sg halberdref4_schedule.k1 ((vg m_1 2).toNat:Int),sg halberdref4_schedule.k1 ((vg m_1 3).toNat:Int),sg halberdref4_schedule.k1 ((vg m_1 0).toNat:Int)]:Vx 8 4).toList)) (cs':=e8 m_3.toList) rfl (congrArg (fun z:Vx 8 4=>e8 (Vector.toList z)) hm_3) ?_
      refine TA_done (by kernel_rfl) ?_ 0
      refine TX_next (TC_region (TVm ?_))
      obtain ⟨r_1,hr_1,H⟩:=bind_elim H
      refine TLe (E_c0 (F98_calls s1.1 r_1 hr_1) call98 .z) (fun g_1=>?_)
      refine TVa ?_
      refine TL_nil ?_
      obtain rfl:=sj H
      exact TXj [1,0] (hJ ())
     ·refine TC_seq (TC_region (TVm ?_))
      refine TLv (V_bin rfl rfl (fun w=>gtrI w k_1 6)) ?_
      refine TVm ?_
      refine TFd (d:=79) H (fun hc H=>?_) (fun hc H=>?_)
      ·refine TLw (V_move rfl) ?_
       refine TLw (V_move rfl) ?_
       obtain ⟨h17,H⟩:=if_elim H
       refine TLw (V_bin rfl rfl (fun w=>remI w s1.2.1 k_1 h17)) ?_
       refine TLw (V_bin rfl rfl (fun w=>eqlI w (s1.2.1.tmod k_1) 4)) ?_
       refine TVt ?_
       refine TVa ?_
       obtain ⟨x2,hx2,H⟩:=ltt_elim H
       refine TLr 76 (congrArg vb hx2) ?_
       refine TL_nil (TX_next (TC.sub (m':=[(3,_),(4,_),(6,_),(7,_),(8,_),(76,_)]) ⟨rfl,rfl,rfl,rfl,rfl,rfl,trivial⟩ ?_))
       refine TCb H (fun hc H=>?_) (fun hc H=>?_)
       ·obtain ⟨h18,H⟩:=if_elim H
        obtain ⟨h19,H⟩:=if_elim H
        obtain ⟨h20,H⟩:=if_elim H
        obtain ⟨h21,H⟩:=if_elim H
        obtain ⟨m_4,hm_4,H⟩:=ltt_elim H
        refine TA_begin [] 14 (by kernel_rfl) (N:=14) rfl ?_
        refine TA_mix (is:=[]) (done':=dn 14 8191) [itV 0 85 (ptr (some (b2,0)) 0) [],itV 1 86 (v8 (vg m_1 0)) [0],itV 2 87 (v8 (sg halberdref4_schedule.k1 ((vg m_1 0).toNat:Int))) [1],itV 3 88 (ptr (some (b2,0)) 1) [],itV 4 89 (v8 (vg m_1 1)) [3],itV 5 90 (v8 (sg halberdref4_schedule.k1 ((vg m_1 1).toNat:Int))) [4],itV 6 91 (ptr (some (b2,0)) 2) [],itV 7 92 (v8 (vg m_1 2)) [6],itV 8 93 (v8 (sg halberdref4_schedule.k1 ((vg m_1 2).toNat:Int))) [7],itV 9 94 (ptr (some (b2,0)) 3) [],itV 10 95 (v8 (vg m_1 3)) [9],itV 11 96 (v8 (sg halberdref4_schedule.k1 ((vg m_1 3).toNat:Int))) [10],itV 12 97 (aG [(4,e8 ((#v[sg halberdref4_schedule.k1 ((vg m_1 0).toNat:Int),sg halberdref4_schedule.k1 ((vg m_1 1).toNat:Int),sg halberdref4_schedule.k1 ((vg m_1 2).toNat:Int),sg halberdref4_schedule.k1 ((vg m_1 3).toNat:Int)]:Vx 8 4).toList))]) [11,5,8,2]] [] 1 (by kernel_rfl) (QP.block (QP.then (QP.block (QP.then (QP.then (QP.block (QP.then QP.body))))))) (by kernel_rfl) rfl (.v rfl (V_idxArr (i:=0) rfl rfl underlying147 inf5 rfl (by decide) (by decide) (k:=0) (k01 _)) (.v rfl (V_load rfl (.o 0) (get_vec (f:=v8) (V:=m_1) (by decide:0<4)) isAgg5) (.v rfl (V_idxStr rfl rfl (i:=((vg m_1 0).toNat:Int)) underlying9 h18.1 h18.2) (.v rfl (V_idxArr (i:=1) rfl rfl underlying147 inf5 rfl (by decide) (by decide) (k:=1) (k01 _)) (.v rfl (V_load rfl (.o 0) (get_vec (f:=v8) (V:=m_1) (by decide:1<4)) isAgg5) (.v rfl (V_idxStr rfl rfl (i:=((vg m_1 1).toNat:Int)) underlying9 h19.1 h19.2) (.v rfl (V_idxArr (i:=2) rfl rfl underlying147 inf5 rfl (by decide) (by decide) (k:=2) (k01 _)) (.v rfl (V_load rfl (.o 0) (get_vec (f:=v8) (V:=m_1) (by decide:2<4)) isAgg5) (.v rfl (V_idxStr rfl rfl (i:=((vg m_1 2).toNat:Int)) underlying9 h20.1 h20.2) (.v rfl (V_idxArr (i:=3) rfl rfl underlying147 inf5 rfl (by decide) (by decide) (k:=3) (k01 _)) (.v rfl (V_load rfl (.o 0) (get_vec (f:=v8) (V:=m_1) (by decide:3<4)) isAgg5) (.v rfl (V_idxStr rfl rfl (i:=((vg m_1 3).toNat:Int)) underlying9 h21.1 h21.2) (.v rfl (V_buildArr (pv:=[(0,v8 (sg halberdref4_schedule.k1 ((vg m_1 0).toNat:Int))),(1,v8 (sg halberdref4_schedule.k1 ((vg m_1 1).toNat:Int))),(2,v8 (sg halberdref4_schedule.k1 ((vg m_1 2).toNat:Int))),(3,v8 (sg halberdref4_schedule.k1 ((vg m_1 3).toNat:Int)))]) rfl rfl underlying147 inf147 inf5 rfl zer147 (cs:=e8 ((#v[sg halberdref4_schedule.k1 ((vg m_1 0).toNat:Int),sg halberdref4_schedule.k1 ((vg m_1 1).toNat:Int),sg halberdref4_schedule.k1 ((vg m_1 2).toNat:Int),sg halberdref4_schedule.k1 ((vg m_1 3).toNat:Int)]:Vx 8 4).toList)) (by kernel_rfl)) .nil))))))))))))) .nil (by kernel_rfl) rfl (fun γ=>?_)
        refine TA_cut [(97,aG [(4,e8 ((#v[sg halberdref4_schedule.k1 ((vg m_1 0).toNat:Int),sg halberdref4_schedule.k1 ((vg m_1 1).toNat:Int),sg halberdref4_schedule.k1 ((vg m_1 2).toNat:Int),sg halberdref4_schedule.k1 ((vg m_1 3).toNat:Int)]:Vx 8 4).toList))]),(3,vi k_1),(4,sl g1_.1 ((s1.2.2).length) ((s1.2.2++g1_.2).length)),(6,v8 s1.1),(7,vi s1.2.1),(8,ptr (some (b2,0)) 0)] [⟨some (b2,0),e8 m_1.toList⟩,⟨g1_.1,eF (fun V:Vx 8 4=>e8 V.toList) (s1.2.2++g1_.2)⟩] ⟨rfl,rfl,rfl,rfl,rfl,rfl,trivial⟩ rfl ?_
        refine TA_all (rs:=[13]) (by kernel_rfl) rfl ?_
        refine ⟨?_,trivial⟩
        refine TO_n (is:=[]) (done':=dn 14 16383) rfl rfl rfl (by kernel_rfl) (E_sv 0 inf147) (fun _ _=>rfl) (fun _=>?_)
        refine TA_reE (j:=0) (A:=some (b2,0)) (cs:=e8 ((#v[sg halberdref4_schedule.k1 ((vg m_1 0).toNat:Int),sg halberdref4_schedule.k1 ((vg m_1 1).toNat:Int),sg halberdref4_schedule.k1 ((vg m_1 2).toNat:Int),sg halberdref4_schedule.k1 ((vg m_1 3).toNat:Int)]:Vx 8 4).toList)) (cs':=e8 m_4.toList) rfl (congrArg (fun z:Vx 8 4=>e8 (Vector.toList z)) hm_4) ?_
        refine TA_done (by kernel_rfl) ?_ 0
        obtain rfl:=sj H
        exact TXj [1,0] (hJ ())
       ·refine TC_skip ?_
        obtain rfl:=sj H
        exact TXj [1,0] (hJ ())
      ·refine TLs ?_
       refine TLs ?_
       refine TLs ?_
       refine TLs ?_
       refine TVf ?_
       refine TVa ?_
       refine TL_nil (TX_next (TC.sub (m':=[(3,_),(4,_),(6,_),(7,_),(8,_),(76,_)]) ⟨rfl,rfl,rfl,rfl,rfl,rfl,trivial⟩ ?_))
       refine TC_cond_f rfl ?_
       refine TC_skip ?_
       obtain rfl:=sj H
       exact TXj [1,0] (hJ ())
   ·refine TC_exit (TX_then_exit (TX_then_exit ?_))
    obtain rfl:=sj H
    exact TXj [0] (hE s1.2.2 rfl (g1_.1,g1_.2))
  ·intro g
   obtain ⟨gx3,hgx⟩ : ∃ z,z=g:=⟨g,rfl⟩; subst hgx
   refine TX_block_exit (TX_next (TC_seq (TC_region (TVm ?_))))
   refine TVa ?_
   refine TL_nil (TX_next (TC_ret ?_))
   obtain rfl:=sj H
   exact TX_ret (rs:=[.tmp 2]) (vs:=[sl gx3.1 ((t_2).length) ((t_2++gx3.2).length)]) rfl ⟨rfl,trivial⟩ (fun w' hs'=>⟨(gx3.1,gx3.2),rfl,Step.left (Step.pulled (is:=[0]) (A:=[⟨gx3.1,eF (fun V:Vx 8 4=>e8 V.toList) (t_2++gx3.2)⟩]) hs' rfl)⟩)
end Go.Proofs
end

section
namespace Go.Proofs
open Go Go.Kx
def BOXV:Vx 8 256:=⟨halberdref4_schedule.k1.toArray,by kernel_rfl⟩
set_option maxRecDepth 100000 in
theorem table_eq:aes_table=some BOXV:=by kernel_rfl
end Go.Proofs
end

section
namespace Go.Proofs
open Go Go.Kx
open Vector (replicate)
abbrev V16:=Vx 8 16
abbrev V4:=Vx 8 4
def xorV (a b:V16):V16:=Vector.ofFn fun i=>vg a i.val ^^^ vg b i.val
def subV (s:V16):V16:=Vector.ofFn fun i=>vg BOXV (vg s ((i.val+4 * (i.val % 4)) % 16)).toNat
theorem enc_b0 (keys:List V16) (b:V16) (h:0<keys.length) (h2:keys.length<1000):loop (aes_Cipher_Encrypt.b0 keys) BIG (0,b)=some (xorV b (lg keys 0)):=by
 refine loop_fill b (fun i=>vg b i ^^^ vg (lg keys 0) i) id (by omega) (fun k v hk hv=>?_) (fun v=>?_)
 ·have e:=hv k (Nat.le_refl _) hk
  simp (disch:=omega) only [aes_Cipher_Encrypt.b0,ltt,if_pos,w64_id,Int.toNat_natCast,e]
  rfl
 ·simp (disch:=omega) only [aes_Cipher_Encrypt.b0,ltt,if_neg,id]
theorem enc_b2 (s1:Int × V16):loop (aes_Cipher_Encrypt.b2 BOXV s1) BIG (0,replicate 16 0#8)=some (subV s1.2):=by
 refine loop_fill _ (fun i=>vg BOXV (vg s1.2 ((i+4 * (i % 4)) % 16)).toNat) id (by omega) (fun k v hk hv=>?_) (fun v=>?_)
 ·have e1:((k:Int).tmod 4)=((k % 4:Nat):Int):=by rw [Int.tmod_eq_emod_of_nonneg (by omega)]; omega
  have e2:((k:Int)+4 * ((k % 4:Nat):Int)).tmod 16=(((k+4 * (k % 4)) % 16:Nat):Int):=by rw [Int.tmod_eq_emod_of_nonneg (by omega)]; omega
  simp (disch:=omega) only [aes_Cipher_Encrypt.b2,ltt,w64_id,e1,e2,if_pos,Int.toNat_natCast]
  rfl
 ·simp (disch:=omega) only [aes_Cipher_Encrypt.b2,ltt,if_neg,id]
theorem enc_b3 (keys:List V16) (s1:Int × V16) (j:V16) (h0:0≤s1.1) (h1:s1.1<keys.length):loop (aes_Cipher_Encrypt.b3 keys s1 j) BIG (0,s1.2)=some (xorV j (lg keys s1.1.toNat)):=by
 refine loop_fill _ (fun i=>vg j i ^^^ vg (lg keys s1.1.toNat) i) id (by omega) (fun k v hk hv=>?_) (fun v=>?_)
 ·simp (disch:=omega) only [aes_Cipher_Encrypt.b3,ltt,w64_id,if_pos,Int.toNat_natCast]
  rfl
 ·simp (disch:=omega) only [aes_Cipher_Encrypt.b3,ltt,if_neg,id]
def tw (x:BitVec 8):BitVec 8:=(x <<< 1) ^^^ (27#8 &&& (-(x >>> 7)))
theorem twice_eq (x:BitVec 8):aes_twice x=some (tw x):=rfl
theorem double_eq (x:BitVec 8):halberdref4_double x=some (tw x):=by
 have : ∀ n:Fin 256,halberdref4_double (BitVec.ofFin n)=some (tw (BitVec.ofFin n)):=by decide +kernel
 exact this x.toFin
def mixS (k:Nat) (v:V16):V16 :=
 vp (vp (vp (vp v (4 * k) (vg v (4 * k) ^^^ (vg v (4 * k) ^^^ vg v (4 * k+1) ^^^ vg v (4 * k+2) ^^^ vg v (4 * k+3) ^^^ tw (vg v (4 * k) ^^^ vg v (4 * k+1)))))
  (4 * k+1) (vg v (4 * k+1) ^^^ (vg v (4 * k) ^^^ vg v (4 * k+1) ^^^ vg v (4 * k+2) ^^^ vg v (4 * k+3) ^^^ tw (vg v (4 * k+1) ^^^ vg v (4 * k+2)))))
  (4 * k+2) (vg v (4 * k+2) ^^^ (vg v (4 * k) ^^^ vg v (4 * k+1) ^^^ vg v (4 * k+2) ^^^ vg v (4 * k+3) ^^^ tw (vg v (4 * k+2) ^^^ vg v (4 * k+3)))))
  (4 * k+3) (vg v (4 * k+3) ^^^ (vg v (4 * k) ^^^ vg v (4 * k+1) ^^^ vg v (4 * k+2) ^^^ vg v (4 * k+3) ^^^ tw (vg v (4 * k+3) ^^^ vg v (4 * k))))
def mixV (v:V16):V16:=iter mixS 4 v
theorem enc_b4_step (k:Nat) (hk:k<4) (u:V16):aes_Cipher_Encrypt.b4 (((4 * k:Nat):Int),u)=some (.inl (((4 * (k+1):Nat):Int),mixS k u)):=by
 have e1:w64 (((4 * k:Nat):Int)+1)=((4 * k+1:Nat):Int):=by rw [w64_id (by omega) (by omega)]; omega
 have e2:w64 (((4 * k:Nat):Int)+2)=((4 * k+2:Nat):Int):=by rw [w64_id (by omega) (by omega)]; omega
 have e3:w64 (((4 * k:Nat):Int)+3)=((4 * k+3:Nat):Int):=by rw [w64_id (by omega) (by omega)]; omega
 have e4:w64 (((4 * k:Nat):Int)+4)=((4 * (k+1):Nat):Int):=by rw [w64_id (by omega) (by omega)]; omega
 unfold aes_Cipher_Encrypt.b4
 simp only [e1,e2,e3,e4]
 iterate 5 refine if_i (by omega) ?_
 refine ltt_i fun p hp=>ltt_i fun q hq=>ltt_i fun r hr=>ltt_i fun s hs=>ltt_i fun all hall=>if_i (by omega) (bind_i (twice_eq _) (if_i (by omega) ?_))
 refine ltt_i fun m4 h4=>if_i (by omega) (bind_i (twice_eq _) (if_i (by omega) ?_))
 refine ltt_i fun m5 h5=>if_i (by omega) (bind_i (twice_eq _) (if_i (by omega) ?_))
 refine ltt_i fun m6 h6=>if_i (by omega) (bind_i (twice_eq _) (if_i (by omega) ?_))
 refine ltt_i fun m7 h7=>ltt_i fun i hi=>?_
 subst hi
 simp only [Int.toNat_natCast] at *
 have a5:vg m4 (4 * k+1)=q:=by rw [h4,vg_vp (by omega) (by omega),if_neg (by omega),hq]
 have a6:vg m5 (4 * k+2)=r:=by rw [h5,vg_vp (by omega) (by omega),if_neg (by omega),h4,vg_vp (by omega) (by omega),if_neg (by omega),hr]
 have a7:vg m6 (4 * k+3)=s:=by rw [h6,vg_vp (by omega) (by omega),if_neg (by omega),h5,vg_vp (by omega) (by omega),if_neg (by omega),h4,vg_vp (by omega) (by omega),if_neg (by omega),hs]
 have:m7=mixS k u:=by
  rw [h7,a7,h6,a6,h5,a5,h4, ← hp,hall]
  unfold mixS
  rw [← hp, ← hq, ← hr, ← hs]
 rw [this]
theorem enc_b4 (v:V16):loop aes_Cipher_Encrypt.b4 BIG (0,v)=some (mixV v):=by
 refine loop_iter (fun k=>(((4 * k:Nat):Int),iter mixS k v)) 4 _ (by omega) (fun k hk=>enc_b4_step k hk _) ?_
 show (if (((4 * 4:Nat):Int))<16 then _ else _)=_
 rw [if_neg (by omega)]
 rfl
def roundV (keys:List V16) (r:Nat) (v:V16):V16:=xorV (if r+1<keys.length then mixV (subV v) else subV v) (lg keys r)
def encV (keys:List V16) (b:V16):V16:=iter (fun k v=>roundV keys (k+1) v) (keys.length - 1) (xorV b (lg keys 0))
theorem enc_eq (keys:List V16) (b:V16) (h:0<keys.length) (h2:keys.length<1000):aes_Cipher_Encrypt BOXV keys b=some (encV keys b):=by
 have hl:loop (aes_Cipher_Encrypt.b1 BOXV keys) BIG (1,xorV b (lg keys 0))=some (encV keys b):=by
  refine loop_iter (fun k=>(((k+1:Nat):Int),iter (fun k v=>roundV keys (k+1) v) k (xorV b (lg keys 0)))) (keys.length - 1) _ (by omega) (fun k hk=>?_) ?_
  ·generalize hu:iter (fun k v=>roundV keys (k+1) v) k (xorV b (lg keys 0))=u
   have hu2:iter (fun k v=>roundV keys (k+1) v) (k+1) (xorV b (lg keys 0))=roundV keys (k+1) u:=by rw [← hu]; rfl
   have e1:w64 (((k+1:Nat):Int)+1)=((k+1+1:Nat):Int):=by rw [w64_id (by omega) (by omega)]; omega
   have e2:w64 ((keys.length:Int) - 1)=(keys.length:Int) - 1:=w64_id (by omega) (by omega)
   have h3:=fun j=>enc_b3 keys (((k+1:Nat):Int),u) j (by omega) (by show ((k+1:Nat):Int)<_; omega)
   simp only [hu2,aes_Cipher_Encrypt.b1,ltt,enc_b2,enc_b4,h3,Option.bind_some,e1,e2,Int.toNat_natCast]
   rw [if_pos (by omega)]
   by_cases hc:k+1+1<keys.length
   ·rw [if_pos (by omega)]
    simp only [Option.bind_some,h3,roundV,if_pos hc]
   ·rw [if_neg (by omega)]
    simp only [Option.bind_some,h3,roundV,if_neg hc]
  ·have e:(((keys.length - 1+1:Nat)):Int)=keys.length:=by omega
   simp (disch:=omega) only [aes_Cipher_Encrypt.b1,if_neg]
   rfl
 unfold aes_Cipher_Encrypt
 rw [enc_b0 keys b h h2]
 simp only [Option.bind_some,hl]
end Go.Proofs
end

section
namespace Go.Proofs
open Go Go.Kx
open Vector (replicate)
def keyV (w:List V4) (r:Nat):V16:=Vector.ofFn fun i=>vg (lg w (4 * r+i.val / 4)) (i.val % 4)
def keysOf (w:List V4):List V16:=(List.range (w.length / 4)).map (keyV w)
theorem keysOf_length (w:List V4):(keysOf w).length=w.length / 4:=by simp [keysOf]
theorem keysOf_lg (w:List V4) (r:Nat) (h:r<w.length / 4):lg (keysOf w) r=keyV w r:=by
 simp [lg,keysOf,List.getElem?_range h]
def toV (s:Str):V16:=Vector.ofFn fun i=>s.getD i.val 0#8
theorem tmodN (k m:Nat):((k:Int).tmod (m:Int))=((k % m:Nat):Int):=by
 rw [Int.tmod_eq_emod_of_nonneg (by omega)]; omega
theorem tdivN (k m:Nat):((k:Int).tdiv (m:Int))=((k / m:Nat):Int):=by
 rw [Int.tdiv_eq_ediv_of_nonneg (by omega)]; omega
theorem ref_b0 (w:List V4) (s:Str) (hw:4≤w.length) (hw2:w.length<1000) (hs:s.length=16):loop (halberdref4_cipher.b0 w s) BIG (0,replicate 16 0#8)=some (xorV (toV s) (keyV w 0)):=by
 have h:=loop_fill (body:=halberdref4_cipher.b0 w s) (replicate 16 0#8) (fun i=>s.getD i 0#8 ^^^ vg (lg w (i / 4)) (i % 4)) id (by omega) (fun k v hk hv=>?_) (fun v=>?_)
 ·refine h.trans (congrArg some (vec_ext fun i hi=>?_))
  simp only [id,vg_ofFn hi,xorV,toV,keyV,Nat.mul_zero,Nat.zero_add]
 ·have e1:w64 ((k:Int).tdiv 4)=((k / 4:Nat):Int):=by rw [show (4:Int)=((4:Nat):Int) from rfl,tdivN,w64_nat (by omega)]
  have e2:(k:Int).tmod 4=((k % 4:Nat):Int):=tmodN k 4
  have e3:w64 ((k:Int)+1)=((k+1:Nat):Int):=by rw [w64_id (by omega) (by omega)]; omega
  unfold halberdref4_cipher.b0
  simp only [e1,e2,e3]
  iterate 5 refine if_i (by omega) ?_
  refine ltt_i fun m hm=>ltt_i fun i hi=>?_
  simp only [hi,hm,Int.toNat_natCast,sg]
 ·unfold halberdref4_cipher.b0
  exact if_n (by omega) rfl
theorem box_len:halberdref4_cipher.k1.length=256:=by kernel_rfl
theorem box_at (x:BitVec 8):sg halberdref4_cipher.k1 (x.toNat:Int)=vg BOXV x.toNat:=by
 simp only [sg,Int.toNat_natCast,vg,BOXV]
 rfl
theorem ref_b2 (s1:Int × V16):loop (halberdref4_cipher.b2 s1) BIG (0,replicate 16 0#8)=some (subV s1.2):=by
 refine loop_fill _ (fun i=>vg BOXV (vg s1.2 ((i+4 * (i % 4)) % 16)).toNat) id (by omega) (fun k v hk hv=>?_) (fun v=>?_)
 ·have e1:((k:Int).tmod 4)=((k % 4:Nat):Int):=tmodN k 4
  have e2:w64 (4 * ((k % 4:Nat):Int))=4 * ((k % 4:Nat):Int):=w64_id (by omega) (by omega)
  have e3:w64 ((k:Int)+4 * ((k % 4:Nat):Int))=((k+4 * (k % 4):Nat):Int):=by rw [w64_id (by omega) (by omega)]; omega
  have e4:(((k+4 * (k % 4):Nat):Int)).tmod 16=(((k+4 * (k % 4)) % 16:Nat):Int):=tmodN _ 16
  have e5:w64 ((k:Int)+1)=((k+1:Nat):Int):=by rw [w64_id (by omega) (by omega)]; omega
  unfold halberdref4_cipher.b2
  simp only [e1,e2,e3,e4,e5,box_len,box_at,Int.toNat_natCast]
  have hb:=(vg s1.2 ((k+4 * (k % 4)) % 16)).isLt
  iterate 4 refine if_i (by omega) ?_
  refine ltt_i fun m hm=>ltt_i fun i hi=>?_
  simp only [hi,hm]
 ·unfold halberdref4_cipher.b2
  exact if_n (by omega) rfl
theorem ref_b3 (w:List V4) (u:V16) (j:V16) (r:Nat) (h1:r<w.length / 4) (hw2:w.length<1000):loop (halberdref4_cipher.b3 w (((r:Nat):Int),u) j) BIG (0,u)=some (xorV j (keyV w r)):=by
 have h:=loop_fill (body:=halberdref4_cipher.b3 w (((r:Nat):Int),u) j) u (fun i=>vg j i ^^^ vg (lg w (4 * r+i / 4)) (i % 4)) id (by omega) (fun k v hk hv=>?_) (fun v=>?_)
 ·refine h.trans (congrArg some (vec_ext fun i hi=>?_))
  simp only [id,vg_ofFn hi,xorV,keyV]
 ·have e1:w64 ((k:Int).tdiv 4)=((k / 4:Nat):Int):=by rw [show (4:Int)=((4:Nat):Int) from rfl,tdivN,w64_nat (by omega)]
  have e2:(k:Int).tmod 4=((k % 4:Nat):Int):=tmodN k 4
  have e3:w64 ((k:Int)+1)=((k+1:Nat):Int):=by rw [w64_id (by omega) (by omega)]; omega
  have e4:w64 (4 * ((r:Nat):Int))=((4 * r:Nat):Int):=by rw [w64_id (by omega) (by omega)]; omega
  have e5:w64 (((4 * r:Nat):Int)+((k / 4:Nat):Int))=((4 * r+k / 4:Nat):Int):=by rw [w64_id (by omega) (by omega)]; omega
  unfold halberdref4_cipher.b3
  simp only [e1,e2,e3,e4,e5]
  iterate 5 refine if_i (by omega) ?_
  refine ltt_i fun m hm=>ltt_i fun i hi=>?_
  simp only [hi,hm,Int.toNat_natCast]
 ·unfold halberdref4_cipher.b3
  exact if_n (by omega) rfl
theorem ref_b5 (k:Nat) (hk:k<4) (u:V16) (all:BitVec 8):loop (halberdref4_cipher.b5 (((4 * k:Nat):Int),u) all) BIG (0,u) =
  some (vp (vp (vp u (4 * k) ((vg u (4 * k) ^^^ all) ^^^ tw (vg u (4 * k) ^^^ vg u (4 * k+1)))) (4 * k+1) ((vg u (4 * k+1) ^^^ all) ^^^ tw (vg u (4 * k+1) ^^^ vg u (4 * k+2)))) (4 * k+2) ((vg u (4 * k+2) ^^^ all) ^^^ tw (vg u (4 * k+2) ^^^ vg u (4 * k+3)))):=by
 refine loop_count 3 (fun j v=>vp v (4 * k+j) ((vg u (4 * k+j) ^^^ all) ^^^ tw (vg u (4 * k+j) ^^^ vg u (4 * k+j+1)))) u _ (fun j v => ∀ i,4 * k+j≤i → i<16 → vg v i=vg u i) (by omega) (fun i _ _=>rfl) (fun j v hj hv=>⟨?_,fun i h1 h2=>?_⟩) (fun v hv he=>?_)
 ·have e1:w64 (((4 * k:Nat):Int)+(j:Int))=((4 * k+j:Nat):Int):=by rw [w64_id (by omega) (by omega)]; omega
  have e2:w64 (((4 * k+j:Nat):Int)+1)=((4 * k+j+1:Nat):Int):=by rw [w64_id (by omega) (by omega)]; omega
  have e3:w64 ((j:Int)+1)=((j+1:Nat):Int):=by rw [w64_id (by omega) (by omega)]; omega
  unfold halberdref4_cipher.b5
  simp only [e1,e2,e3,Int.toNat_natCast]
  iterate 4 refine if_i (by omega) ?_
  refine bind_i (double_eq _) (if_i (by omega) ?_)
  refine ltt_i fun m hm=>ltt_i fun i hi=>?_
  rw [hi,hm,hv (4 * k+j) (by omega) (by omega),hv (4 * k+j+1) (by omega) (by omega)]
 ·rw [vg_vp (by omega) h2,if_neg (by omega)]
  exact hv i (by omega) h2
 ·unfold halberdref4_cipher.b5
  refine if_n (by omega) ?_
  rw [he]
  rfl
theorem ref_b4_step (k:Nat) (hk:k<4) (u:V16):halberdref4_cipher.b4 (((4 * k:Nat):Int),u)=some (.inl (((4 * (k+1):Nat):Int),mixS k u)):=by
 have e1:w64 (((4 * k:Nat):Int)+1)=((4 * k+1:Nat):Int):=by rw [w64_id (by omega) (by omega)]; omega
 have e2:w64 (((4 * k:Nat):Int)+2)=((4 * k+2:Nat):Int):=by rw [w64_id (by omega) (by omega)]; omega
 have e3:w64 (((4 * k:Nat):Int)+3)=((4 * k+3:Nat):Int):=by rw [w64_id (by omega) (by omega)]; omega
 have e4:w64 (((4 * k:Nat):Int)+4)=((4 * (k+1):Nat):Int):=by rw [w64_id (by omega) (by omega)]; omega
 unfold halberdref4_cipher.b4
 simp only [e1,e2,e3,e4,Int.toNat_natCast]
 iterate 5 refine if_i (by omega) ?_
 refine ltt_i fun all hall=>if_i (by omega) (ltt_i fun first hf=>bind_i (ref_b5 k hk u all) ?_)
 iterate 2 refine if_i (by omega) ?_
 refine bind_i (double_eq _) (if_i (by omega) ?_)
 refine ltt_i fun m hm=>ltt_i fun i hi=>?_
 have a3 : ∀ (x y z:BitVec 8),vg (vp (vp (vp u (4 * k) x) (4 * k+1) y) (4 * k+2) z) (4 * k+3)=vg u (4 * k+3):=fun x y z=>by
  rw [vg_vp (by omega) (by omega),if_neg (by omega),vg_vp (by omega) (by omega),if_neg (by omega),vg_vp (by omega) (by omega),if_neg (by omega)]
 rw [a3] at hm
 have:m=mixS k u:=by
  rw [hm,hf,hall]
  unfold mixS
  simp only [BitVec.xor_assoc]
 rw [hi,this]
theorem ref_b4 (v:V16):loop halberdref4_cipher.b4 BIG (0,v)=some (mixV v):=by
 refine loop_iter (fun k=>(((4 * k:Nat):Int),iter mixS k v)) 4 _ (by omega) (fun k hk=>ref_b4_step k hk _) ?_
 show (if (((4 * 4:Nat):Int))<16 then _ else _)=_
 rw [if_neg (by omega)]
 rfl
theorem cipher_eq (w:List V4) (s:Str) (L:Nat) (hL:w.length=4 * L) (h0:1≤L) (h2:L<200) (hs:s.length=16):halberdref4_cipher w s=some (encV (keysOf w) (toV s)).toList:=by
 have hlen:(keysOf w).length=L:=by rw [keysOf_length]; omega
 have hk : ∀ r,r<L → lg (keysOf w) r=keyV w r:=fun r hr=>keysOf_lg w r (by omega)
 have e0:w64 ((w64 ((w.length:Int).tdiv 4)) - 1)=(L:Int) - 1:=by
  rw [show (4:Int)=((4:Nat):Int) from rfl,tdivN,w64_nat (by omega),w64_id (by omega) (by omega)]; omega
 have hl:loop (halberdref4_cipher.b1 w ((L:Int) - 1)) BIG (1,xorV (toV s) (keyV w 0))=some (encV (keysOf w) (toV s)):=by
  refine loop_iter (fun k=>(((k+1:Nat):Int),iter (fun k v=>roundV (keysOf w) (k+1) v) k (xorV (toV s) (keyV w 0)))) (L - 1) _ (by omega) (fun k hk1=>?_) ?_
  ·generalize hu:iter (fun k v=>roundV (keysOf w) (k+1) v) k (xorV (toV s) (keyV w 0))=u
   have hu2:iter (fun k v=>roundV (keysOf w) (k+1) v) (k+1) (xorV (toV s) (keyV w 0))=roundV (keysOf w) (k+1) u:=by rw [← hu]; rfl
   have e1:w64 (((k+1:Nat):Int)+1)=((k+1+1:Nat):Int):=by rw [w64_id (by omega) (by omega)]; omega
   have h3:=fun j=>ref_b3 w u j (k+1) (by omega) (by omega)
   simp only [hu2,halberdref4_cipher.b1,e1]
   refine if_i (by omega) (bind_i (ref_b2 _) ?_)
   by_cases hc:k+1+1<L
   ·refine bind_i (if_i (by omega) (bind_i (ref_b4 _) rfl)) (bind_i (h3 _) (ltt_i fun i hi=>?_))
    rw [hi]
    simp only [roundV,hlen,if_pos hc,hk (k+1) (by omega)]
   ·refine bind_i (if_n (by omega) rfl) (bind_i (h3 _) (ltt_i fun i hi=>?_))
    rw [hi]
    simp only [roundV,hlen,if_neg hc,hk (k+1) (by omega)]
  ·simp only [halberdref4_cipher.b1]
   refine if_n (by omega) ?_
   unfold encV
   rw [hlen,hk 0 (by omega)]
 unfold halberdref4_cipher
 refine bind_i (ref_b0 w s (by omega) (by omega) hs) (ltt_i fun r hr=>?_)
 rw [hr,e0]
 exact bind_i hl rfl
end Go.Proofs
end

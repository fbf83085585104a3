/-
  Part 31 of the proof of what several laws share.
-/
import Derived.Test.YtkgeoekcnlgfnaaGreatDoorKh28
import Derived.Test.YtkgeoekcnlgfnaaGreatDoorKh30
set_option maxHeartbeats 4000000
set_option maxRecDepth 20000
set_option linter.unusedVariables false
set_option linter.unusedSimpArgs false
section
namespace Go.Proofs
open Go Go.Kx
open TryzI Tryz
def P5 (Zm:Bool) (ZI ZR:List (Int)) (Zx:List (Str)) (Yp:Str) (Zr:List (Str)) (Zb:Str) (ZC:Int) (Y5:Str) (ZB:List (Str × Str × Int × Int × Int × Int)) (YN:Str) (Zk Ye:Int) (Zd YO:Int) (random session share:Str):Option (Int × Str × Str × Str × Int × List (Int) × List (Int) × List (Int) × List (Int) × List (Int) × (List (Int × Str)) × (List (Str × Int)) × List (Str) × List (Int) × List (Str)) :=
 (PQ Zm ZI ZR Zx Yp Zr Zb ZC Y5 ZB YN Zk Ye Zd YO).bind fun Zu=>((if (!Zu)=true then (some true) else (if Zm=true then (some true) else (if ((random).length:Int) ≠ 32 then (some true) else (if ((session).length:Int) ≠ 32 then (some true) else (some (decide (share=([]:Str)))))))).bind fun j1=>(if j1=true then (some (0,([]:Str),([]:Str),([]:Str),2400,([]:List (Int)),([]:List (Int)),([]:List (Int)),([]:List (Int)),([]:List (Int)),([]:List (Int × Str)),([]:List (Str × Int)),([]:List (Str)),([]:List (Int)),([]:List (Str)))) else ((Vg ZI).bind fun YJ=>((Vg ZR).bind fun X7=>(if 0≤(0:Int)∧(0:Int)<((ZR).length:Int) then ((Um Zm ZI ZR Zx Yp Zr Zb ZC Y5 ZB YN Zk Ye Zd YO).bind fun Xu=>(if Xu.2.2.2.2.2.2=true then (X5 (HZ (· &&& ·) (ZJ ((ZJ (1000 * (ZJ (Zk - Xu.2.2.2.2.1))))+Xu.2.2.2.1)) 4294967295) fun x1=>(if 0≤((Xu.2.1).length:Int)∧((Xu.2.1).length:Int)≤17592186044416 then (if (List.replicate ((((Xu.2.1).length:Int)).toNat) 0#8).length=(((Xu.2.1).length:Int)).toNat then (some (1,random,session,Zb,0,YJ,([772]:List (Int)),X7,([1027]:List (Int)),([1]:List (Int)),([(lg ZR 0,share)]:List (Int × Str)),([(Xu.1,x1)]:List (Str × Int)),([List.replicate ((((Xu.2.1).length:Int)).toNat) 0#8]:List (Str)),([]:List (Int)),([]:List (Str)))) else none) else none)) else (some (1,random,session,Zb,0,YJ,([772]:List (Int)),X7,([1027]:List (Int)),([]:List (Int)),([(lg ZR 0,share)]:List (Int × Str)),([]:List (Str × Int)),([]:List (Str)),([]:List (Int)),([]:List (Str)))))) else none)))))
theorem FY {YZ:Y6} {Y0:Nat} {Y1:Y6} {YY:Nat} {YC:Y6} {YH:Nat} {YG:Y6} {YF:Nat} {XR:Y6} {XP:Nat} {Zm:Bool} {ZI:List (Int)} {ZR:List (Int)} {Zx:List (Str)} {Yp:Str} {Zr:List (Str)} {Zb:Str} {ZC:Int} {Y5:Str} {ZB:List (Str × Str × Int × Int × Int × Int)} {YN:Str} {Zk:Int} {Ye:Int} {Zd:Int} {YO:Int} {random:Str} {session:Str} {share:Str} (YV:(ZI).length≤Y0) (YD:(ZR).length≤YY) (Y8:(Zx).length≤YH) (Yq:(Zr).length≤YF) (Xk:(ZB).length≤XP) {r:Int × Str × Str × Str × Int × List (Int) × List (Int) × List (Int) × List (Int) × List (Int) × (List (Int × Str)) × (List (Str × Int)) × List (Str) × List (Int) × List (Str)} (H:P5 Zm ZI ZR Zx Yp Zr Zb ZC Y5 ZB YN Zk Ye Zd YO random session share=some r) :
  Does Tryz.prog 14 [aG [(1,[vb Zm]),(1,[sl YZ ((ZI).length) Y0]),(1,[sl Y1 ((ZR).length) YY]),(1,[sl YC ((Zx).length) YH]),(1,[vs Yp]),(1,[sl YG ((Zr).length) YF]),(1,[vs Zb]),(1,[vi ZC]),(1,[vs Y5]),(1,[sl XR ((ZB).length) XP]),(1,[vs YN]),(1,[vi Zk]),(1,[vi Ye]),(1,[vi Zd]),(1,[vi YO])],vs random,vs session,vs share] [] [⟨YZ,eI ZI⟩,⟨Y1,eI ZR⟩,⟨YC,eS Zx⟩,⟨YG,eS Zr⟩,⟨XR,eF (fun p:Str × Str × Int × Int × Int × Int=>[vs p.1,vs p.2.1,vi p.2.2.1,vi p.2.2.2.1,vi p.2.2.2.2.1,vi p.2.2.2.2.2]) ZB⟩] (Γ:=Y6 × Y6 × Y6 × Y6 × Y6 × Y6 × Y6 × Y6 × Y6 × Y6 × List (Int) × List (Int)) (fun g=>Value.tuple [aG [(1,[vi r.1]),(1,[vs r.2.1]),(1,[vs r.2.2.1]),(1,[sl g.1 ((r.2.2.2.2.2.1).length) ((r.2.2.2.2.2.1++g.2.2.2.2.2.2.2.2.2.2.1).length)]),(1,[vs r.2.2.2.1]),(1,[sl g.2.1 ((r.2.2.2.2.2.2.1).length) ((r.2.2.2.2.2.2.1++([]:List (Int))).length)]),(1,[sl g.2.2.1 ((r.2.2.2.2.2.2.2.1).length) ((r.2.2.2.2.2.2.2.1++g.2.2.2.2.2.2.2.2.2.2.2).length)]),(1,[sl g.2.2.2.1 ((r.2.2.2.2.2.2.2.2.1).length) ((r.2.2.2.2.2.2.2.2.1++([]:List (Int))).length)]),(1,[sl g.2.2.2.2.1 ((r.2.2.2.2.2.2.2.2.2.1).length) ((r.2.2.2.2.2.2.2.2.2.1++([]:List (Int))).length)]),(1,[sl g.2.2.2.2.2.1 ((r.2.2.2.2.2.2.2.2.2.2.1).length) ((r.2.2.2.2.2.2.2.2.2.2.1++([]:List (Int × Str))).length)]),(1,[sl g.2.2.2.2.2.2.1 ((r.2.2.2.2.2.2.2.2.2.2.2.1).length) ((r.2.2.2.2.2.2.2.2.2.2.2.1++([]:List (Str × Int))).length)]),(1,[sl g.2.2.2.2.2.2.2.1 ((r.2.2.2.2.2.2.2.2.2.2.2.2.1).length) ((r.2.2.2.2.2.2.2.2.2.2.2.2.1++([]:List (Str))).length)]),(1,[vi 0]),(1,[sl g.2.2.2.2.2.2.2.2.1 ((r.2.2.2.2.2.2.2.2.2.2.2.2.2.1).length) ((r.2.2.2.2.2.2.2.2.2.2.2.2.2.1++([]:List (Int))).length)]),(1,[sl g.2.2.2.2.2.2.2.2.2.1 ((r.2.2.2.2.2.2.2.2.2.2.2.2.2.2).length) ((r.2.2.2.2.2.2.2.2.2.2.2.2.2.2++([]:List (Str))).length)]),(1,[vi 0]),(1,[vs ([]:Str)]),(1,[vi 0]),(1,[vi 0]),(1,[vs ([]:Str)]),(1,[vi 0])],vi r.2.2.2.2.1].toArray) (fun g=>[⟨g.1,eI (r.2.2.2.2.2.1++g.2.2.2.2.2.2.2.2.2.2.1)⟩,⟨g.2.1,eI (r.2.2.2.2.2.2.1++([]:List (Int)))⟩,⟨g.2.2.1,eI (r.2.2.2.2.2.2.2.1++g.2.2.2.2.2.2.2.2.2.2.2)⟩,⟨g.2.2.2.1,eI (r.2.2.2.2.2.2.2.2.1++([]:List (Int)))⟩,⟨g.2.2.2.2.1,eI (r.2.2.2.2.2.2.2.2.2.1++([]:List (Int)))⟩,⟨g.2.2.2.2.2.1,eF (fun p:Int × Str=>[vi p.1,vs p.2]) (r.2.2.2.2.2.2.2.2.2.2.1++([]:List (Int × Str)))⟩,⟨g.2.2.2.2.2.2.1,eF (fun p:Str × Int=>[vs p.1,vi p.2]) (r.2.2.2.2.2.2.2.2.2.2.2.1++([]:List (Str × Int)))⟩,⟨g.2.2.2.2.2.2.2.1,eS (r.2.2.2.2.2.2.2.2.2.2.2.2.1++([]:List (Str)))⟩,⟨g.2.2.2.2.2.2.2.2.1,eI (r.2.2.2.2.2.2.2.2.2.2.2.2.2.1++([]:List (Int)))⟩,⟨g.2.2.2.2.2.2.2.2.2.1,eS (r.2.2.2.2.2.2.2.2.2.2.2.2.2.2++([]:List (Str)))⟩]):=by
 intro w hmem hro hd
 refine Zn func14 rfl ntmps14 rfl hmem hro hd ?_
 unfold P5 at H
 refine Z_ (YE PT (fun b1=>?_))
 refine YE (SL Xg Pw) (fun b2=>?_)
 refine Mo [zS,zI,zS,zA,zB,zI,zI,zI,zI,zI] rfl ?_
 refine Y2 ?_
 refine Z6 (Wz [1,2,3,4,8] (rp 15 31++rp 4 10++9 :: 9 :: 9 :: 8 :: 8 :: 7 :: 7 :: 6 :: 6 :: 5 :: 5 :: 4 :: 4 :: 3 :: 3 :: 2 :: 2 :: 2 :: 1 :: 1 :: rp 7 0) rfl rfl ?_)
 refine ZY (Z_ (ZV (VY [0,1,2,3,4,5,6,7,8,9,10,11,12,13,14] rfl rfl isAgg26 We) ?_))
 have ⟨Zu,Yk,H⟩:=Z9 H
 refine YE (Y4 (Qv YV YD Y8 Yq Xk Yk :) call16 ⟨.r 0, .r 1, .r 2, .r 3, .r 4,trivial⟩) (fun Re=>?_)
 refine ZV (UF T_) ?_
 refine YP ?_
 have ⟨j1,Hj,H⟩:=Z9 H
 refine VH (Γ:=Unit) (fun Sc=>[(1,vs random),(2,vs session),(3,vs share),(4,ptr (some (b1,0)) 0),(8,ptr (some (b2,0)) 0),(33,vb j1)]) (fun Sc=>[⟨some (b1,0),[vb Zm]⟩,⟨some (b1,1),[sl YZ ((ZI).length) Y0]⟩,⟨some (b1,2),[sl Y1 ((ZR).length) YY]⟩,⟨some (b1,3),[sl YC ((Zx).length) YH]⟩,⟨some (b1,4),[vs Yp]⟩,⟨some (b1,5),[sl YG ((Zr).length) YF]⟩,⟨some (b1,6),[vs Zb]⟩,⟨some (b1,7),[vi ZC]⟩,⟨some (b1,8),[vs Y5]⟩,⟨some (b1,9),[sl XR ((ZB).length) XP]⟩,⟨some (b1,10),[vs YN]⟩,⟨some (b1,11),[vi Zk]⟩,⟨some (b1,12),[vi Ye]⟩,⟨some (b1,13),[vi Zd]⟩,⟨some (b1,14),[vi YO]⟩,⟨some (b2,0),[vi 0]⟩,⟨some (b2,1),[vs ([]:Str)]⟩,⟨some (b2,2),[vs ([]:Str)]⟩,⟨some (b2,3),[sl none ((nI).length) ((nI++nI).length)]⟩,⟨none,eI (nI++nI)⟩,⟨some (b2,4),[vs ([]:Str)]⟩,⟨some (b2,5),[sl none ((nI).length) ((nI++nI).length)]⟩,⟨none,eI (nI++nI)⟩,⟨some (b2,6),[sl none ((nI).length) ((nI++nI).length)]⟩,⟨none,eI (nI++nI)⟩,⟨some (b2,7),[sl none ((nI).length) ((nI++nI).length)]⟩,⟨none,eI (nI++nI)⟩,⟨some (b2,8),[sl none ((nI).length) ((nI++nI).length)]⟩,⟨none,eI (nI++nI)⟩,⟨some (b2,9),[sl none ((nB).length) ((nB++nB).length)]⟩,⟨none,eF (fun p:Int × Str=>[vi p.1,vs p.2]) (nB++nB)⟩,⟨some (b2,10),[sl none ((nA).length) ((nA++nA).length)]⟩,⟨none,eF (fun p:Str × Int=>[vs p.1,vi p.2]) (nA++nA)⟩,⟨some (b2,11),[sl none ((nS).length) ((nS++nS).length)]⟩,⟨none,eS (nS++nS)⟩,⟨some (b2,12),[vi 0]⟩,⟨some (b2,13),[sl none ((nI).length) ((nI++nI).length)]⟩,⟨none,eI (nI++nI)⟩,⟨some (b2,14),[sl none ((nS).length) ((nS++nS).length)]⟩,⟨none,eS (nS++nS)⟩,⟨some (b2,15),[vi 0]⟩,⟨some (b2,16),[vs ([]:Str)]⟩,⟨some (b2,17),[vi 0]⟩,⟨some (b2,18),[vi 0]⟩,⟨some (b2,19),[vs ([]:Str)]⟩,⟨some (b2,20),[vi 0]⟩]) ?_ ?_
 ·intro Sc
  refine Z7 (Sn H (fun hc H=>?_) (fun hc H=>?_))
  ·refine Z_ (ZV (Y9 (pv:=[]) (pl:=[(0,1),(1,1),(2,1),(3,1),(4,1),(5,1),(6,1),(7,1),(8,1),(9,1),(10,1),(11,1),(12,1),(13,1),(14,1),(15,1),(16,1),(17,1),(18,1),(19,1),(20,1)]) rfl rfl underlying30 Xg Gw Pw (cs:=flat [(1,[vi 0]),(1,[vs ([]:Str)]),(1,[vs ([]:Str)]),(1,[sl none 0 0]),(1,[vs ([]:Str)]),(1,[sl none 0 0]),(1,[sl none 0 0]),(1,[sl none 0 0]),(1,[sl none 0 0]),(1,[sl none 0 0]),(1,[sl none 0 0]),(1,[sl none 0 0]),(1,[vi 0]),(1,[sl none 0 0]),(1,[sl none 0 0]),(1,[vi 0]),(1,[vs ([]:Str)]),(1,[vi 0]),(1,[vi 0]),(1,[vs ([]:Str)]),(1,[vi 0])]) (by kernel_rfl)) ?_)
   refine VM (VZ [15,15,15,15,16,16,17,18,19,20,21,22,23,23,24,25,25,25,25,25,25] rfl rfl Xg) (fun _=>?_)
   refine Mo [zS,zI,zS,zA,zB,zI,zI,zI,zI,zI] rfl ?_
   refine Y2 ?_
   refine Zq (ZZ ?_)
   obtain rfl:=sj H
   exact JK (none,none,none,none,none,none,none,none,none,none,nI,nI) [9,8,7,6,5,4,3,2,1,0] (vs:=[_,_]) rfl ⟨(Wp [10,11,12,13,14,15,16,17,18,19,20,21,22,23,24,25,26,27,28,29,30] rfl rfl isAgg30 Xg),rfl,trivial⟩ rfl
  refine ZN (Z7 (ZY ?_))
  have ⟨YJ,X6,H⟩:=Z9 H
  have ⟨X7,Vt,H⟩:=Z9 H
  have ⟨h1,H⟩:=Z4 H
  refine U3 (rp 46 0) 21 rfl ?_
  refine YA 1 0 rfl ?_
  refine Zz 2 rfl (ZQ 1 underlying26 XO) ?_
  refine Zz 3 rfl (Z8 rfl (.o 1) rfl isAgg22) ?_
  refine Zz 5 rfl (ZQ 6 underlying26 Xe) ?_
  refine Zz 6 rfl (Z8 rfl (.o 6) rfl isAgg9) ?_
  refine Zz 7 rfl (ZQ 2 underlying26 XO) ?_
  refine Zz 8 rfl (Z8 rfl (.o 2) rfl isAgg22) ?_
  refine Zz 12 rfl (ZQ 2 underlying26 XO) ?_
  refine Zz 13 rfl (Z8 rfl (.o 2) rfl isAgg22) ?_
  refine Zz 14 rfl (YK (i:=0) rfl rfl underlying22 YM rfl (.r 1) (Uf (tl h1)) h1.1 h1.2 (k:=0) (JZ _)) ?_
  refine Zz 15 rfl (Z8 rfl (.r 1) (UL (f:=vi) (l:=ZR) (tl h1)) isAgg3) ?_
  refine YA 0 16 rfl ?_
  refine Zz 17 rfl (Y9 (pv:=[(0,vi (lg ZR 0)),(1,vs share)]) (pl:=[(0,1),(1,1)]) rfl rfl underlying50 Rv yB CG (cs:=flat [(1,[vi (lg ZR 0)]),(1,[vs share])]) (by kernel_rfl)) ?_
  refine PX 1 (rp 46 26) (.c ⟨4,39,fun _ UD=>sl ((cf UD).1) ((YJ).length) ((YJ++(cf UD).2).length),fun UD=>[⟨(cf UD).1,eI (YJ++((cf UD).2))⟩],[],none⟩ rfl (fun _ _=>(abJ (val:=fun g=>sl g.1 ((YJ).length) ((YJ++g.2).length)) (mem:=fun g=>[⟨g.1,eI (YJ++g.2)⟩]) (Co YV X6 :) call39 ⟨.r 0,trivial⟩)) (.c ⟨9,44,fun _ Pm=>sl ((cf Pm).1) ((X7).length) ((X7++(cf Pm).2).length),fun Pm=>[⟨(cf Pm).1,eI (X7++((cf Pm).2))⟩],[],none⟩ rfl (fun _ _=>(abJ (val:=fun g=>sl g.1 ((X7).length) ((X7++g.2).length)) (mem:=fun g=>[⟨g.1,eI (X7++g.2)⟩]) (Co YD Vt :) call39 ⟨.r 1,trivial⟩)) (.c ⟨10,45,fun _ b3=>sl (some (b3,0)) 1 1,fun b3=>[⟨some (b3,0),eI ([772]:List (Int))⟩],[],none⟩ rfl (fun _ _=>(Ya (pv:=[(0,vi 772)]) rfl rfl underlying22 YM (s:=1) rfl LG rfl rfl rfl (cs:=eI ([772]:List (Int))) (by kernel_rfl))) (.c ⟨11,46,fun _ b4=>sl (some (b4,0)) 1 1,fun b4=>[⟨some (b4,0),eI ([1027]:List (Int))⟩],[],none⟩ rfl (fun _ _=>(Ya (pv:=[(0,vi 1027)]) rfl rfl underlying22 YM (s:=1) rfl LG rfl rfl rfl (cs:=eI ([1027]:List (Int))) (by kernel_rfl))) (.c ⟨18,53,fun _ b5=>sl (some (b5,0)) 1 1,fun b5=>[⟨some (b5,0),eF (fun p:Int × Str=>[vi p.1,vs p.2]) ([(lg ZR 0,share)]:List (Int × Str))⟩],[],none⟩ rfl (fun _ _=>(Ya (pv:=[(0,aG [(1,[vi (lg ZR 0)]),(1,[vs share])])]) rfl rfl underlying27 Rv (s:=2) rfl CG rfl rfl rfl (cs:=eF (fun p:Int × Str=>[vi p.1,vs p.2]) ([(lg ZR 0,share)]:List (Int × Str))) (by kernel_rfl))) (.c ⟨19,54,fun l_ _=>aG [(1,[vi 1]),(1,[vs random]),(1,[vs session]),(1,[sl ((cf (l_.getD 0 0)).1) ((YJ).length) ((YJ++(cf (l_.getD 0 0)).2).length)]),(1,[vs Zb]),(1,[sl (some ((l_.getD 2 0),0)) 1 1]),(1,[sl ((cf (l_.getD 1 0)).1) ((X7).length) ((X7++(cf (l_.getD 1 0)).2).length)]),(1,[sl (some ((l_.getD 3 0),0)) 1 1]),(1,[sl none 0 0]),(1,[sl (some ((l_.getD 4 0),0)) 1 1]),(1,[sl none 0 0]),(1,[sl none 0 0]),(1,[vi 0]),(1,[sl none 0 0]),(1,[sl none 0 0]),(1,[vi 0]),(1,[vs ([]:Str)]),(1,[vi 0]),(1,[vi 0]),(1,[vs ([]:Str)]),(1,[vi 0])],fun _=>[],[4,9,10,11,18],none⟩ rfl (fun γ_ _=>BR (Y9 (pv:=[(0,vi 1),(1,vs random),(2,vs session),(3,sl ((cf (γ_ 4)).1) ((YJ).length) ((YJ++(cf (γ_ 4)).2).length)),(4,vs Zb),(6,sl ((cf (γ_ 9)).1) ((X7).length) ((X7++(cf (γ_ 9)).2).length)),(5,sl (some ((γ_ 10),0)) 1 1),(7,sl (some ((γ_ 11),0)) 1 1),(9,sl (some ((γ_ 18),0)) 1 1)]) (pl:=[(0,1),(1,1),(2,1),(3,1),(4,1),(5,1),(6,1),(7,1),(8,1),(9,1),(10,1),(11,1),(12,1),(13,1),(14,1),(15,1),(16,1),(17,1),(18,1),(19,1),(20,1)]) rfl rfl underlying30 Xg Gw Pw (cs:=flat [(1,[vi 1]),(1,[vs random]),(1,[vs session]),(1,[sl ((cf (γ_ 4)).1) ((YJ).length) ((YJ++(cf (γ_ 4)).2).length)]),(1,[vs Zb]),(1,[sl (some ((γ_ 10),0)) 1 1]),(1,[sl ((cf (γ_ 9)).1) ((X7).length) ((X7++(cf (γ_ 9)).2).length)]),(1,[sl (some ((γ_ 11),0)) 1 1]),(1,[sl none 0 0]),(1,[sl (some ((γ_ 18),0)) 1 1]),(1,[sl none 0 0]),(1,[sl none 0 0]),(1,[vi 0]),(1,[sl none 0 0]),(1,[sl none 0 0]),(1,[vi 0]),(1,[vs ([]:Str)]),(1,[vi 0]),(1,[vi 0]),(1,[vs ([]:Str)]),(1,[vi 0])]) (by kernel_rfl))) (.c ⟨20,10,fun _ b6=>ptr (some (b6,0)) 0,fun b6=>[⟨some (b6,0),[vi 0]⟩,⟨some (b6,1),[vs ([]:Str)]⟩,⟨some (b6,2),[vs ([]:Str)]⟩,⟨some (b6,3),[sl none 0 0]⟩,⟨some (b6,4),[vs ([]:Str)]⟩,⟨some (b6,5),[sl none 0 0]⟩,⟨some (b6,6),[sl none 0 0]⟩,⟨some (b6,7),[sl none 0 0]⟩,⟨some (b6,8),[sl none 0 0]⟩,⟨some (b6,9),[sl none 0 0]⟩,⟨some (b6,10),[sl none 0 0]⟩,⟨some (b6,11),[sl none 0 0]⟩,⟨some (b6,12),[vi 0]⟩,⟨some (b6,13),[sl none 0 0]⟩,⟨some (b6,14),[sl none 0 0]⟩,⟨some (b6,15),[vi 0]⟩,⟨some (b6,16),[vs ([]:Str)]⟩,⟨some (b6,17),[vi 0]⟩,⟨some (b6,18),[vi 0]⟩,⟨some (b6,19),[vs ([]:Str)]⟩,⟨some (b6,20),[vi 0]⟩],[],none⟩ rfl (fun _ _=>(SL Xg Pw)) .nil))))))) (fun γ=>?_)
  refine TBC [(10,ptr (some ((γ 20),0)) 0),(54,aG [(1,[vi 1]),(1,[vs random]),(1,[vs session]),(1,[sl ((cf (γ 4)).1) ((YJ).length) ((YJ++(cf (γ 4)).2).length)]),(1,[vs Zb]),(1,[sl (some ((γ 10),0)) 1 1]),(1,[sl ((cf (γ 9)).1) ((X7).length) ((X7++(cf (γ 9)).2).length)]),(1,[sl (some ((γ 11),0)) 1 1]),(1,[sl none 0 0]),(1,[sl (some ((γ 18),0)) 1 1]),(1,[sl none 0 0]),(1,[sl none 0 0]),(1,[vi 0]),(1,[sl none 0 0]),(1,[sl none 0 0]),(1,[vi 0]),(1,[vs ([]:Str)]),(1,[vi 0]),(1,[vi 0]),(1,[vs ([]:Str)]),(1,[vi 0])]),(4,ptr (some (b1,0)) 0),(8,ptr (some (b2,0)) 0)] [⟨some ((γ 20),0),[vi 0]⟩,⟨some ((γ 20),1),[vs ([]:Str)]⟩,⟨some ((γ 20),2),[vs ([]:Str)]⟩,⟨some ((γ 20),3),[sl none 0 0]⟩,⟨some ((γ 20),4),[vs ([]:Str)]⟩,⟨some ((γ 20),5),[sl none 0 0]⟩,⟨some ((γ 20),6),[sl none 0 0]⟩,⟨some ((γ 20),7),[sl none 0 0]⟩,⟨some ((γ 20),8),[sl none 0 0]⟩,⟨some ((γ 20),9),[sl none 0 0]⟩,⟨some ((γ 20),10),[sl none 0 0]⟩,⟨some ((γ 20),11),[sl none 0 0]⟩,⟨some ((γ 20),12),[vi 0]⟩,⟨some ((γ 20),13),[sl none 0 0]⟩,⟨some ((γ 20),14),[sl none 0 0]⟩,⟨some ((γ 20),15),[vi 0]⟩,⟨some ((γ 20),16),[vs ([]:Str)]⟩,⟨some ((γ 20),17),[vi 0]⟩,⟨some ((γ 20),18),[vi 0]⟩,⟨some ((γ 20),19),[vs ([]:Str)]⟩,⟨some ((γ 20),20),[vi 0]⟩,⟨some ((γ 18),0),eF (fun p:Int × Str=>[vi p.1,vs p.2]) ([(lg ZR 0,share)]:List (Int × Str))⟩,⟨some ((γ 11),0),eI ([1027]:List (Int))⟩,⟨some ((γ 10),0),eI ([772]:List (Int))⟩,⟨(cf (γ 9)).1,eI (X7++((cf (γ 9)).2))⟩,⟨(cf (γ 4)).1,eI (YJ++((cf (γ 4)).2))⟩,⟨some (b1,0),[vb Zm]⟩,⟨some (b1,1),[sl YZ ((ZI).length) Y0]⟩,⟨some (b1,2),[sl Y1 ((ZR).length) YY]⟩,⟨some (b1,3),[sl YC ((Zx).length) YH]⟩,⟨some (b1,4),[vs Yp]⟩,⟨some (b1,5),[sl YG ((Zr).length) YF]⟩,⟨some (b1,6),[vs Zb]⟩,⟨some (b1,7),[vi ZC]⟩,⟨some (b1,8),[vs Y5]⟩,⟨some (b1,9),[sl XR ((ZB).length) XP]⟩,⟨some (b1,10),[vs YN]⟩,⟨some (b1,11),[vi Zk]⟩,⟨some (b1,12),[vi Ye]⟩,⟨some (b1,13),[vi Zd]⟩,⟨some (b1,14),[vi YO]⟩,⟨some (b2,0),[vi 0]⟩,⟨some (b2,1),[vs ([]:Str)]⟩,⟨some (b2,2),[vs ([]:Str)]⟩,⟨some (b2,3),[sl none ((nI).length) ((nI++nI).length)]⟩,⟨none,eI (nI++nI)⟩,⟨some (b2,4),[vs ([]:Str)]⟩,⟨some (b2,5),[sl none ((nI).length) ((nI++nI).length)]⟩,⟨none,eI (nI++nI)⟩,⟨some (b2,6),[sl none ((nI).length) ((nI++nI).length)]⟩,⟨none,eI (nI++nI)⟩,⟨some (b2,7),[sl none ((nI).length) ((nI++nI).length)]⟩,⟨none,eI (nI++nI)⟩,⟨some (b2,8),[sl none ((nI).length) ((nI++nI).length)]⟩,⟨none,eI (nI++nI)⟩,⟨some (b2,9),[sl none ((nB).length) ((nB++nB).length)]⟩,⟨none,eF (fun p:Int × Str=>[vi p.1,vs p.2]) (nB++nB)⟩,⟨some (b2,10),[sl none ((nA).length) ((nA++nA).length)]⟩,⟨none,eF (fun p:Str × Int=>[vs p.1,vi p.2]) (nA++nA)⟩,⟨some (b2,11),[sl none ((nS).length) ((nS++nS).length)]⟩,⟨none,eS (nS++nS)⟩,⟨some (b2,12),[vi 0]⟩,⟨some (b2,13),[sl none ((nI).length) ((nI++nI).length)]⟩,⟨none,eI (nI++nI)⟩,⟨some (b2,14),[sl none ((nS).length) ((nS++nS).length)]⟩,⟨none,eS (nS++nS)⟩,⟨some (b2,15),[vi 0]⟩,⟨some (b2,16),[vs ([]:Str)]⟩,⟨some (b2,17),[vi 0]⟩,⟨some (b2,18),[vi 0]⟩,⟨some (b2,19),[vs ([]:Str)]⟩,⟨some (b2,20),[vi 0]⟩] ?_
  generalize γ 4=UD
  generalize γ 9=Pm
  generalize γ 10=b3
  generalize γ 11=b4
  generalize γ 18=b5
  generalize γ 20=b6
  refine vS 21 rfl (VZ (rp 21 0) rfl rfl Xg) (fun _=>?_)
  refine Vi ?_
  refine Z7 (ZY (Z_ ?_))
  have ⟨Xu,UH,H⟩:=Z9 H
  refine YE (Y4 (qw YV YD Y8 Yq Xk UH :) call40 ⟨.o 26, .o 27, .o 28, .o 29, .o 30, .o 31, .o 32, .o 33, .o 34, .o 35, .o 36, .o 37, .o 38, .o 39, .o 40, .r 0, .r 1, .r 2, .r 3, .r 4,trivial⟩) (fun JV=>?_)
  refine Mo [zS,zI,zS,zA,zI] rfl ?_
  refine Ta 28 (congrArg (eI) (List.append_nil _).symm) ?_
  refine Ta (cs':=[sl (some (b3,0)) ((([772]:List (Int))).length) ((([772]:List (Int))++nI).length)]) 10 (congrArg (fun z=>[z]) (Us rfl)) ?_
  refine Ta 27 (congrArg (eI) (List.append_nil _).symm) ?_
  refine Ta (cs':=[sl (some (b4,0)) ((([1027]:List (Int))).length) ((([1027]:List (Int))++nI).length)]) 12 (congrArg (fun z=>[z]) (Us rfl)) ?_
  refine Ta 26 (congrArg (eF (fun p:Int × Str=>[vi p.1,vs p.2])) (List.append_nil _).symm) ?_
  refine Ta (cs':=[sl (some (b5,0)) ((([(lg ZR 0,share)]:List (Int × Str))).length) ((([(lg ZR 0,share)]:List (Int × Str))++nB).length)]) 14 (congrArg (fun z=>[z]) (Us rfl)) ?_
  refine Zj 3 rfl ?_
  refine YE (SL Ut Fx) (fun b7=>?_)
  refine VM (VZ [0,0,0,0,0,0] rfl rfl Ut) (fun _=>?_)
  refine Y2 ?_
  refine Z6 (Wz [4,8,10,11,12] (rp 46 37++rp 4 11++32 :: 11 :: 11 :: 28 :: 11 :: 27 :: 11 :: 25 :: 11 :: 10 :: 10 :: 21 :: 10 :: 9 :: 9 :: 8 :: 8 :: 8 :: 7 :: 7 :: rp 7 6++rp 6 0) rfl rfl ?_)
  refine Z_ (YP ?_)
  refine Z6 (Sn H (fun hc H=>?_) (fun hc H=>?_))
  ·refine Z_ (YE (Ya (pv:=[(0,vi 1)]) rfl rfl underlying22 YM (s:=1) rfl LG rfl rfl rfl (cs:=eI ([1]:List (Int))) (by kernel_rfl)) (fun b8=>?_))
   refine ZV (ZQ 8 underlying30 XO) ?_
   refine VM (YR (j:=59) rfl rfl XO rfl rfl rfl (Nat.lt_succ_self 0) (cs':=[sl (some (b8,0)) 1 1]) rfl) (fun _=>?_)
   refine Ta 0 (congrArg (eI) (List.append_nil _).symm) ?_
   refine Ta (cs':=[sl (some (b8,0)) ((([1]:List (Int))).length) ((([1]:List (Int))++nI).length)]) 59 (congrArg (fun z=>[z]) (Us rfl)) ?_
   refine Z6 (Wz [4,8,10,11] (rp 59 1++0 :: rp 23 1) rfl rfl ?_)
   refine Z_ (ZV (ZQ 0 underlying57 Xe) ?_)
   refine ZV (Z8 rfl (.o 77) rfl isAgg9) ?_
   refine ZV (ZQ 11 underlying26 YM) ?_
   refine ZV (Z8 rfl (.o 11) rfl isAgg3) ?_
   refine ZV (ZQ 4 underlying57 YM) ?_
   refine ZV (Z8 rfl (.o 81) rfl isAgg3) ?_
   refine ZV (ZT OX) ?_
   refine ZV (ZT Ma) ?_
   refine ZV (ZQ 3 underlying57 YM) ?_
   refine ZV (Z8 rfl (.o 80) rfl isAgg3) ?_
   refine ZV (ZT XN) ?_
   refine ZV (ZT az) ?_
   have ⟨x1,TK,H⟩:=ZX H
   refine WN 73 (congrArg vi TK) ?_
   refine ZV (Y9 (pv:=[(0,vs Xu.1),(1,vi x1)]) (pl:=[(0,1),(1,1)]) rfl rfl underlying60 LH yx yX (cs:=flat [(1,[vs Xu.1]),(1,[vi x1])]) (by kernel_rfl)) ?_
   refine YE (Ya (pv:=[(0,aG [(1,[vs Xu.1]),(1,[vi x1])])]) rfl rfl underlying28 LH (s:=2) rfl yX rfl rfl rfl (cs:=eF (fun p:Str × Int=>[vs p.1,vi p.2]) ([(Xu.1,x1)]:List (Str × Int))) (by kernel_rfl)) (fun b9=>?_)
   refine ZV (ZQ 10 underlying30 MX) ?_
   refine VM (YR (j:=63) rfl rfl MX rfl rfl rfl (Nat.lt_succ_self 0) (cs':=[sl (some (b9,0)) 1 1]) rfl) (fun _=>?_)
   refine Ta 0 (congrArg (eF (fun p:Str × Int=>[vs p.1,vi p.2])) (List.append_nil _).symm) ?_
   refine Ta (cs':=[sl (some (b9,0)) ((([(Xu.1,x1)]:List (Str × Int))).length) ((([(Xu.1,x1)]:List (Str × Int))++nA).length)]) 63 (congrArg (fun z=>[z]) (Us rfl)) ?_
   refine Z6 (Wz [8,10,11] (rp 48 16++0 :: rp 19 16) rfl rfl ?_)
   refine ZH (ZV (ZQ 1 underlying57 Xe) ?_)
   refine ZV (Z8 rfl (.o 63) rfl isAgg9) ?_
   refine ZV (Zf rfl underlying9) ?_
   have ⟨h2,H⟩:=Z4 H
   refine YE (OA rfl rfl underlying86 Yn (z:=v8 0#8) rfl rfl rfl (B:=1) rfl h2.1 (Int.le_refl _) (wV 1 rfl h2) (ww h2) (n':=(((Xu.2.1).length:Int)).toNat) (c':=(((Xu.2.1).length:Int)).toNat) rfl rfl (cs:=e8 (List.replicate ((((Xu.2.1).length:Int)).toNat) 0#8)) (Ti (f:=v8))) (fun qy=>?_)
   have ⟨h3,H⟩:=Z4 H
   refine ZV (QY rfl underlying86 underlying5 underlying9 (.o 0) h3) ?_
   refine YE (Ya (pv:=[(0,vs (List.replicate ((((Xu.2.1).length:Int)).toNat) 0#8))]) rfl rfl underlying23 Xe (s:=1) rfl oI rfl rfl rfl (cs:=eS ([List.replicate ((((Xu.2.1).length:Int)).toNat) 0#8]:List (Str))) (by kernel_rfl)) (fun lS=>?_)
   refine ZV (ZQ 11 underlying30 Xn) ?_
   refine VM (YR (j:=51) rfl rfl Xn rfl rfl rfl (Nat.lt_succ_self 0) (cs':=[sl (some (lS,0)) 1 1]) rfl) (fun _=>?_)
   refine Ta 0 (congrArg (eS) (List.append_nil _).symm) ?_
   refine Ta (cs':=[sl (some (lS,0)) ((([List.replicate ((((Xu.2.1).length:Int)).toNat) 0#8]:List (Str))).length) ((([List.replicate ((((Xu.2.1).length:Int)).toNat) 0#8]:List (Str))++nS).length)]) 51 (congrArg (fun z=>[z]) (Us rfl)) ?_
   refine Z6 (Wz [8,10] (rp 50 2++0 :: rp 11 2) rfl rfl ?_)
   refine Z_ (ZV (VY [31,32,33,34,36,37,39,41,43,45,47,49,51,52,54,56,57,58,59,60,61] rfl rfl isAgg30 Xg) ?_)
   refine VM (za (b:=b2) (o:=0) (ns:=[(1,[vi 1]),(1,[vs random]),(1,[vs session]),(1,[sl ((cf UD).1) ((YJ).length) ((YJ++((cf UD).2)).length)]),(1,[vs Zb]),(1,[sl (some (b3,0)) ((([772]:List (Int))).length) ((([772]:List (Int))++nI).length)]),(1,[sl ((cf Pm).1) ((X7).length) ((X7++((cf Pm).2)).length)]),(1,[sl (some (b4,0)) ((([1027]:List (Int))).length) ((([1027]:List (Int))++nI).length)]),(1,[sl (some (b8,0)) ((([1]:List (Int))).length) ((([1]:List (Int))++nI).length)]),(1,[sl (some (b5,0)) ((([(lg ZR 0,share)]:List (Int × Str))).length) ((([(lg ZR 0,share)]:List (Int × Str))++nB).length)]),(1,[sl (some (b9,0)) ((([(Xu.1,x1)]:List (Str × Int))).length) ((([(Xu.1,x1)]:List (Str × Int))++nA).length)]),(1,[sl (some (lS,0)) ((([List.replicate ((((Xu.2.1).length:Int)).toNat) 0#8]:List (Str))).length) ((([List.replicate ((((Xu.2.1).length:Int)).toNat) 0#8]:List (Str))++nS).length)]),(1,[vi 0]),(1,[sl none ((nI).length) ((nI++nI).length)]),(1,[sl none ((nS).length) ((nS++nS).length)]),(1,[vi 0]),(1,[vs ([]:Str)]),(1,[vi 0]),(1,[vi 0]),(1,[vs ([]:Str)]),(1,[vi 0])]) [0,0,0,0,1,1,2,3,4,5,6,7,8,8,9,10,10,10,10,10,10] [(1,_),(1,_),(1,_),(1,_),(1,_),(1,_),(1,_),(1,_),(1,_),(1,_),(1,_),(1,_),(1,_),(1,_),(1,_),(1,_),(1,_),(1,_),(1,_),(1,_),(1,_)] rfl Xg) (fun _=>?_)
   refine Y2 ?_
   refine Z6 (Wz [8,9] [0,0,0,0,31,0,0,31,0,31,0,31,0,31,0,31,0,31,0,31,0,0,31,0,31,0,0,0,0,0,0] rfl rfl ?_)
   refine Y7 ?_
   obtain rfl:=sj H
   exact JK ((cf UD).1,some (b3,0),(cf Pm).1,some (b4,0),some (b8,0),some (b5,0),some (b9,0),some (lS,0),none,none,(cf UD).2,(cf Pm).2) [4,6,7,8,9,10,11,12,14,15] (vs:=[_,_]) rfl ⟨(Wp [0,1,2,3,5,6,8,10,12,14,16,18,20,21,23,25,26,27,28,29,30] rfl rfl isAgg30 Xg),rfl,trivial⟩ rfl
  refine ZN (Z7 (Z_ (ZV (VY [46,47,48,49,51,52,54,56,58,60,62,64,66,67,69,71,72,73,74,75,76] rfl rfl isAgg30 Xg) ?_)))
  refine VM (za (b:=b2) (o:=0) (ns:=[(1,[vi 1]),(1,[vs random]),(1,[vs session]),(1,[sl ((cf UD).1) ((YJ).length) ((YJ++((cf UD).2)).length)]),(1,[vs Zb]),(1,[sl (some (b3,0)) ((([772]:List (Int))).length) ((([772]:List (Int))++nI).length)]),(1,[sl ((cf Pm).1) ((X7).length) ((X7++((cf Pm).2)).length)]),(1,[sl (some (b4,0)) ((([1027]:List (Int))).length) ((([1027]:List (Int))++nI).length)]),(1,[sl none ((nI).length) ((nI++nI).length)]),(1,[sl (some (b5,0)) ((([(lg ZR 0,share)]:List (Int × Str))).length) ((([(lg ZR 0,share)]:List (Int × Str))++nB).length)]),(1,[sl none ((nA).length) ((nA++nA).length)]),(1,[sl none ((nS).length) ((nS++nS).length)]),(1,[vi 0]),(1,[sl none ((nI).length) ((nI++nI).length)]),(1,[sl none ((nS).length) ((nS++nS).length)]),(1,[vi 0]),(1,[vs ([]:Str)]),(1,[vi 0]),(1,[vi 0]),(1,[vs ([]:Str)]),(1,[vi 0])]) [15,15,15,15,16,16,17,18,19,20,21,22,23,23,24,25,25,25,25,25,25] [(1,_),(1,_),(1,_),(1,_),(1,_),(1,_),(1,_),(1,_),(1,_),(1,_),(1,_),(1,_),(1,_),(1,_),(1,_),(1,_),(1,_),(1,_),(1,_),(1,_),(1,_)] rfl Xg) (fun _=>?_)
  refine Y2 ?_
  refine Z6 (Wz [8,9] [0,0,0,0,46,0,0,46,0,46,0,46,0,46,0,46,0,46,0,46,0,0,46,0,46,0,0,0,0,0,0] rfl rfl ?_)
  refine Y7 ?_
  obtain rfl:=sj H
  exact JK ((cf UD).1,some (b3,0),(cf Pm).1,some (b4,0),none,some (b5,0),none,none,none,none,(cf UD).2,(cf Pm).2) [4,6,7,8,9,10,11,12,14,15] (vs:=[_,_]) rfl ⟨(Wp [0,1,2,3,5,6,8,10,12,14,16,18,20,21,23,25,26,27,28,29,30] rfl rfl isAgg30 Xg),rfl,trivial⟩ rfl
 intro hJ
 replace H:=Hj
 refine Mg (d:=16) H (fun hc H=>?_) (fun hc H=>?_)
 ·refine Zj 17 rfl ?_
  refine ZK ?_
  obtain rfl:=sj H
  exact WW (rp 46 0) (hJ ())
 refine Zc (ZQ 0 underlying26 MS) ?_
 refine Zc (Z8 rfl (.o 0) rfl isAgg4) ?_
 refine Zj 2 rfl ?_
 refine Mg (d:=20) H (fun hc H=>?_) (fun hc H=>?_)
 ·refine Zj 13 rfl ?_
  refine ZK ?_
  obtain rfl:=sj H
  exact WW (rp 46 0) (hJ ())
 refine Zc (ZO rfl) ?_
 refine Zc (Zf rfl underlying9) ?_
 refine Zc (ZT SN) ?_
 refine Zj 2 rfl ?_
 refine Td (d:=25) H (fun hc H=>?_) (fun hc H=>?_)
 ·refine Zj 8 rfl ?_
  refine ZK ?_
  obtain rfl:=sj H
  exact WW (rp 46 0) (hJ ())
 refine Zc (ZO rfl) ?_
 refine Zc (Zf rfl underlying9) ?_
 refine Zc (ZT SN) ?_
 refine Zj 2 rfl ?_
 refine Td (d:=30) H (fun hc H=>?_) (fun hc H=>?_)
 ·refine Zj 3 rfl ?_
  refine ZK ?_
  obtain rfl:=sj H
  exact WW (rp 46 0) (hJ ())
 refine Zc (ZO rfl) ?_
 refine Zc (Zg rfl rfl (fun w=>L6 w share ([]:Str))) ?_
 refine FE ?_
 refine ZK ?_
 obtain rfl:=sj H
 exact WW (rp 46 0) (hJ ())
theorem Dx (p:Nat → Bool) : ∀ n,(∃ k,k<n∧p k=true ∧ ∀ j,j<k → p j=false) ∨ ∀ j,j<n → p j=false
 | 0 => .inr fun j hj=>by omega
 | n+1=>by
  rcases Dx p n with ⟨k,h1,h2,h3⟩ | h
  ·exact .inl ⟨k,by omega,h2,h3⟩
  ·cases hp:p n with
   | true=>exact .inl ⟨n,by omega,hp,h⟩
   | false =>
    refine .inr fun j hj=>?_
    by_cases c:j<n
    ·exact h j c
    ·obtain rfl:j=n:=by omega
     exact hp
theorem ug {τ:Type} {body:Int → Option (Int ⊕ τ)} {len k:Nat} (p:Nat → Bool) (hit:Nat → τ) (hl:len<1152921504606846976)
  (hb : ∀ j,j<len → body (j:Int)=some (if p j=true then .inr (hit j) else .inl ((j+1:Nat):Int))) (h1:k<len) (h2:p k=true) (h3 : ∀ j,j<k → p j=false):loop body BIG 0=some (hit k) :=
 Vw (fun j=>(j:Int)) k _ (by omega) rfl (fun j hj=>by rw [hb j (by omega),if_neg (by rw [h3 j hj]; decide)]) (by rw [hb k h1,if_pos h2])
theorem uH {τ:Type} {body:Int → Option (Int ⊕ τ)} {len:Nat} (p:Nat → Bool) (hit:Nat → τ) (miss:τ) (hl:len<1152921504606846976)
  (hb : ∀ j,j<len → body (j:Int)=some (if p j=true then .inr (hit j) else .inl ((j+1:Nat):Int))) (he:body (len:Int)=some (.inr miss)) (h : ∀ j,j<len → p j=false):loop body BIG 0=some miss :=
 Vw (fun j=>(j:Int)) len _ hl rfl (fun j hj=>by rw [hb j hj,if_neg (by rw [h j hj]; decide)]) he
theorem KS {τ:Type} {body:Int → Option (Int ⊕ τ)} {len:Nat} (p:Nat → Bool) (hit:Nat → τ) (miss:τ) (hl:len<1152921504606846976)
  (hb : ∀ j,j<len → body (j:Int)=some (if p j=true then .inr (hit j) else .inl ((j+1:Nat):Int))) (he:body (len:Int)=some (.inr miss)) :
  (∃ k,k<len∧p k=true∧(∀ j,j<k → p j=false)∧loop body BIG 0=some (hit k)) ∨ ((∀ j,j<len → p j=false)∧loop body BIG 0=some miss):=by
 rcases Dx p len with ⟨k,h1,h2,h3⟩ | h
 ·refine .inl ⟨k,h1,h2,h3,Vw (fun j=>(j:Int)) k _ (by omega) rfl (fun j hj=>?_) ?_⟩
  ·rw [hb j (by omega),if_neg (by rw [h3 j hj]; decide)]
  ·rw [hb k h1,if_pos h2]
 ·refine .inr ⟨h,Vw (fun j=>(j:Int)) len _ hl rfl (fun j hj=>?_) he⟩
  rw [hb j hj,if_neg (by rw [h j hj]; decide)]
theorem Jh {xs:List Int} {x:Int}:x ∈ xs ↔ ∃ n,n<xs.length∧lg xs n=x:=by
 constructor
 ·intro h
  obtain ⟨n,hn,h2⟩:=List.mem_iff_getElem.1 h
  exact ⟨n,hn,by unfold lg; rw [List.getD_eq_getElem?_getD,List.getElem?_eq_getElem hn,h2]; rfl⟩
 ·rintro ⟨n,hn,rfl⟩
  have e:lg xs n=xs[n]:=by unfold lg; rw [List.getD_eq_getElem?_getD,List.getElem?_eq_getElem hn]; rfl
  rw [e]
  exact List.getElem_mem hn
theorem QW {j n:Nat} (h:j<n) (hn:n<1152921504606846976):ZJ ((j:Int)+1)=((j+1:Nat):Int):=Vj (b:=1) (by omega)
theorem Nt {xs:List Int} (x:Int) (hl:xs.length<1152921504606846976):Yh xs x=some (decide (x ∈ xs)):=by
 unfold Yh
 have hb : ∀ j,j<xs.length → Yh.b0 xs x (j:Int)=some (if decide (lg xs j=x)=true then .inr (.inr true) else .inl ((j+1:Nat):Int)):=fun j hj=>by
  have e:=QW hj hl
  unfold Yh.b0
  rw [e,if_pos (by omega),if_pos (by omega),Int.toNat_natCast]
  clear e
  by_cases c:lg xs j=x
  ·rw [if_pos c,if_pos (decide_eq_true c)]
  ·rw [if_neg c,if_neg (by rw [decide_eq_false c]; decide)]
 have he:Yh.b0 xs x (xs.length:Int)=some (.inr (.inl ())):=by
  unfold Yh.b0
  exact if_neg (by omega)
 rcases KS (fun j=>decide (lg xs j=x)) (fun _=>Sum.inr true) (Sum.inl ()) hl hb he with ⟨k,h1,h2,_,h3⟩ | ⟨h1,h3⟩
 ·rw [h3,decide_eq_true (Jh.2 ⟨k,h1,of_decide_eq_true h2⟩)]; rfl
 ·rw [h3,decide_eq_false (fun h=>by obtain ⟨n,hn,he⟩:=Jh.1 h; exact of_decide_eq_false (h1 n hn) he)]; rfl
theorem kM {xs:List Int} (x:Int) (hl:xs.length<1152921504606846976):(∃ k:Nat,k<xs.length∧lg xs k=x∧Yb xs x=some (k:Int)) ∨ (x ∉ xs∧Yb xs x=some (-1)):=by
 unfold Yb
 have hb : ∀ j,j<xs.length → Yb.b0 xs x (j:Int)=some (if decide (x=lg xs j)=true then .inr (.inr (j:Int)) else .inl ((j+1:Nat):Int)):=fun j hj=>by
  have e:=QW hj hl
  unfold Yb.b0
  rw [e,if_pos (by omega),if_pos (by omega),Int.toNat_natCast]
  clear e
  by_cases c:x=lg xs j
  ·rw [if_pos c,if_pos (decide_eq_true c)]
  ·rw [if_neg c,if_neg (by rw [decide_eq_false c]; decide)]
 have he:Yb.b0 xs x (xs.length:Int)=some (.inr (.inl ())):=by
  unfold Yb.b0
  exact if_neg (by omega)
 rcases KS (fun j=>decide (x=lg xs j)) (fun j=>Sum.inr (j:Int)) (Sum.inl ()) hl hb he with ⟨k,h1,h2,_,h3⟩ | ⟨h1,h3⟩
 ·exact .inl ⟨k,h1,(of_decide_eq_true h2).symm,by rw [h3]; rfl⟩
 ·exact .inr ⟨fun h=>by obtain ⟨n,hn,he⟩:=Jh.1 h; exact of_decide_eq_false (h1 n hn) he.symm,by rw [h3]; rfl⟩
theorem Uz {xs:List Int} (x:Int) (hl:xs.length<1152921504606846976):Yi xs x=some (decide (x ∈ xs)):=by
 unfold Yi
 rcases kM x hl with ⟨k,h1,h2,h3⟩ | ⟨h1,h3⟩
 ·refine Z5 h3 (Ze fun b hb=>?_)
  rw [hb,decide_eq_true (Jh.2 ⟨k,h1,h2⟩),decide_eq_true (by omega)]
 ·refine Z5 h3 ?_
  rw [decide_eq_false h1]; rfl
theorem Me {own off:List Int} (hl:own.length<1152921504606846976) (ho:off.length<1152921504606846976) :
  (∃ k,k<own.length∧lg own k ∈ off∧Va own off=some (lg own k,true)∧X0 own off=some (lg own k)) ∨ (Va own off=some (0,false)∧X0 own off=some (-1)):=by
 unfold Va X0
 have hb : ∀ j,j<own.length → Va.b0 own off (j:Int)=some (if decide (lg own j ∈ off)=true then .inr (.inr (lg own j,true)) else .inl ((j+1:Nat):Int)):=fun j hj=>by
  have e:=QW hj hl
  unfold Va.b0
  rw [e,if_pos (by omega),if_pos (by omega),Int.toNat_natCast]
  clear e
  refine Ze fun z hz=>Z5 (Uz z ho) ?_
  rw [hz]
  cases decide (lg own j ∈ off) <;> rfl
 have he:Va.b0 own off (own.length:Int)=some (.inr (.inl ())):=by
  unfold Va.b0
  exact if_neg (by omega)
 have gV : ∀ j,j<own.length → X0.b0 own off (j:Int)=some (if decide (lg own j ∈ off)=true then .inr (.inr (lg own j)) else .inl ((j+1:Nat):Int)):=fun j hj=>by
  have e:=QW hj hl
  unfold X0.b0
  rw [e,if_pos (by omega),if_pos (by omega),Int.toNat_natCast,Nt _ ho]
  clear e
  cases decide (lg own j ∈ off) with
  | false=>rfl
  | true=>exact Z5 rfl (ZM rfl (ZM (by omega) rfl))
 have he2:X0.b0 own off (own.length:Int)=some (.inr (.inl ())):=by
  unfold X0.b0
  exact if_neg (by omega)
 rcases Dx (fun j=>decide (lg own j ∈ off)) own.length with ⟨k,h1,h2,h3⟩ | h
 ·refine .inl ⟨k,h1,of_decide_eq_true h2,?_,?_⟩
  ·rw [ug _ (fun j=>Sum.inr (lg own j,true)) hl hb h1 h2 h3]; rfl
  ·rw [ug _ (fun j=>Sum.inr (lg own j)) hl gV h1 h2 h3]; rfl
 ·refine .inr ⟨?_,?_⟩
  ·rw [uH _ (fun j=>Sum.inr (lg own j,true)) (Sum.inl ()) hl hb he h]; rfl
  ·rw [uH _ (fun j=>Sum.inr (lg own j)) (Sum.inl ()) hl gV he2 h]; rfl
theorem Og {ρ:Type} {body:Int → Option (Int ⊕ (Unit ⊕ ρ))} {len:Nat} (hit:Nat → ρ) (P:Nat → Prop) (hl:len<1152921504606846976)
  (hb : ∀ j,j<len → ∃ b:Bool,body (j:Int)=some (if b=true then .inr (.inr (hit j)) else .inl ((j+1:Nat):Int))∧(b=true ↔ ¬ P j)) (he:body (len:Int)=some (.inr (.inl ()))) :
  (loop body BIG 0=some (.inl ()) ∧ ∀ j,j<len → P j) ∨ ∃ k,k<len ∧ ¬ P k∧loop body BIG 0=some (.inr (hit k)):=by
 have hp : ∀ j, ∃ b:Bool,j<len → body (j:Int)=some (if b=true then .inr (.inr (hit j)) else .inl ((j+1:Nat):Int))∧(b=true ↔ ¬ P j):=fun j=>by
  by_cases c:j<len
  ·obtain ⟨b,h⟩:=hb j c; exact ⟨b,fun _=>h⟩
  ·exact ⟨false,fun h=>absurd h c⟩
 obtain ⟨f,hf⟩:=Classical.axiomOfChoice hp
 rcases KS f (fun j=>Sum.inr (hit j)) (Sum.inl ()) hl (fun j hj=>(hf j hj).1) he with ⟨k,h1,h2,_,h3⟩ | ⟨h1,h3⟩
 ·exact .inr ⟨k,h1,(hf k h1).2.1 h2,h3⟩
 ·exact .inl ⟨h3,fun j hj=>Classical.byContradiction fun h=>by have:=(hf j hj).2.2 h; rw [h1 j hj] at this; cases this⟩
theorem Ha {a b:Bool} (h:a=true ↔ b=true):a=b:=by
 cases a <;> cases b <;> simp_all
def OkL (of xs:List Int):Prop := ∀ j,j<xs.length → lg xs j ∈ of∧lg xs j ∉ PH xs 0 j
theorem Po (x l m:Int):Uy x l m=some (decide (l≤x∧x≤m)):=by
 unfold Uy X5
 by_cases h:l≤x
 ·rw [if_pos h]; simp [h]
 ·rw [if_neg h]; simp [h]
theorem yP (x:Int):Nj x=some (decide (x ∈ [4865,4866,4867])):=by
 unfold Nj
 refine Z5 (K6 x) (Ze fun b hb=>?_)
 rw [hb]
 by_cases h:Bq x
 ·rw [(FI h).1,decide_eq_true (show x ∈ [4865,4866,4867] by rcases h with h | h | h <;> simp [h])]; rfl
 ·rw [tL h,decide_eq_false (p:=x ∈ [4865,4866,4867]) (fun m=>h (by simp at m; exact m))]; rfl
theorem y9 (x:Int):Nf x=some (decide (x ∈ [29,23])):=by
 unfold Nf X5
 by_cases h:x=29
 ·rw [if_pos h,decide_eq_true (by simp [h])]
 ·rw [if_neg h]; simp [h]
theorem pI (xs:List Int) (hl:xs.length<1152921504606846976) : ∃ b,V_ xs 3=some b∧(b=true ↔ 1≤xs.length∧xs.length≤3∧OkL [4865,4866,4867] xs):=by
 unfold V_
 by_cases hc:1≤xs.length∧xs.length≤3
 ·have hin:Uy ((xs.length:Nat):Int) 1 3=some true:=by rw [Po,decide_eq_true (by omega)]
  refine Or.elim (Og (body:=V_.b0 xs) (fun _=>false) (fun j=>lg xs j ∈ [4865,4866,4867]∧lg xs j ∉ PH xs 0 j) hl (fun j hj=>?_) ?_) (fun hx=>?_) (fun hx=>?_)
  rotate_left 2
  ·obtain ⟨h1,h2⟩:=hx
   exact ⟨true,Z5 hin (Zi (by decide) (Z5 h1 rfl)),⟨fun _=>⟨hc.1,hc.2,h2⟩,fun _=>rfl⟩⟩
  ·obtain ⟨k,h1,h2,h3⟩:=hx
   exact ⟨false,Z5 hin (Zi (by decide) (Z5 h3 rfl)),⟨fun h=>(nomatch h),fun h=>absurd (h.2.2 k h1) h2⟩⟩
  ·have e:=QW hj hl
   have jZ:=Uz (xs:=PH xs 0 j) (lg xs j) (by rw [TP (by omega)]; omega)
   unfold V_.b0
   rw [e,if_pos (by omega),if_pos (by omega),Int.toNat_natCast]
   clear e
   by_cases ha:lg xs j ∈ [4865,4866,4867]
   ·refine ⟨decide (lg xs j ∈ PH xs 0 j),Ze fun z hz=>Z5 (yP z) ?_,by simp [ha]⟩
    rw [hz,decide_eq_true ha]
    refine Z5 (v:=decide (lg xs j ∈ PH xs 0 j)) (Zi (by decide) (ZM (by omega) (ZM (by omega) (ZM (by omega) (ZM (by omega) (Z5 jZ rfl)))))) ?_
    cases decide (lg xs j ∈ PH xs 0 j) <;> rfl
   ·refine ⟨true,Ze fun z hz=>Z5 (yP z) ?_,by simp [ha]⟩
    rw [hz,decide_eq_false ha]; rfl
  ·unfold V_.b0
   exact if_neg (by omega)
 ·refine ⟨false,Z5 (by rw [Po,decide_eq_false (by omega)]) rfl,⟨fun h=>(nomatch h),fun h=>absurd ⟨h.1,h.2.1⟩ hc⟩⟩
theorem qP (xs:List Int) (hl:xs.length<1152921504606846976) : ∃ b,Wd xs 2=some b∧(b=true ↔ 1≤xs.length∧xs.length≤2∧OkL [29,23] xs):=by
 unfold Wd
 by_cases hc:1≤xs.length∧xs.length≤2
 ·have hin:Uy ((xs.length:Nat):Int) 1 2=some true:=by rw [Po,decide_eq_true (by omega)]
  refine Or.elim (Og (body:=Wd.b0 xs) (fun _=>false) (fun j=>lg xs j ∈ [29,23]∧lg xs j ∉ PH xs 0 j) hl (fun j hj=>?_) ?_) (fun hx=>?_) (fun hx=>?_)
  rotate_left 2
  ·obtain ⟨h1,h2⟩:=hx
   exact ⟨true,Z5 hin (Zi (by decide) (Z5 h1 rfl)),⟨fun _=>⟨hc.1,hc.2,h2⟩,fun _=>rfl⟩⟩
  ·obtain ⟨k,h1,h2,h3⟩:=hx
   exact ⟨false,Z5 hin (Zi (by decide) (Z5 h3 rfl)),⟨fun h=>(nomatch h),fun h=>absurd (h.2.2 k h1) h2⟩⟩
  ·have e:=QW hj hl
   have jZ:=Uz (xs:=PH xs 0 j) (lg xs j) (by rw [TP (by omega)]; omega)
   unfold Wd.b0
   rw [e,if_pos (by omega),if_pos (by omega),Int.toNat_natCast]
   clear e
   by_cases ha:lg xs j ∈ [29,23]
   ·refine ⟨decide (lg xs j ∈ PH xs 0 j),Ze fun z hz=>Z5 (y9 z) ?_,by simp [ha]⟩
    rw [hz,decide_eq_true ha]
    refine Z5 (v:=decide (lg xs j ∈ PH xs 0 j)) (Zi (by decide) (ZM (by omega) (ZM (by omega) (ZM (by omega) (ZM (by omega) (Z5 jZ rfl)))))) ?_
    cases decide (lg xs j ∈ PH xs 0 j) <;> rfl
   ·refine ⟨true,Ze fun z hz=>Z5 (y9 z) ?_,by simp [ha]⟩
    rw [hz,decide_eq_false ha]; rfl
  ·unfold Wd.b0
   exact if_neg (by omega)
 ·refine ⟨false,Z5 (by rw [Po,decide_eq_false (by omega)]) rfl,⟨fun h=>(nomatch h),fun h=>absurd ⟨h.1,h.2.1⟩ hc⟩⟩
theorem uI (xs of:List Int) (hl:xs.length<1152921504606846976) (ho:of.length<1152921504606846976) : ∃ b,WE xs of=some b∧(b=true ↔ 1≤xs.length∧xs.length≤of.length∧OkL of xs):=by
 unfold WE
 refine Or.elim (Og (body:=WE.b0 xs of) (fun _=>false) (fun j=>lg xs j ∈ of∧lg xs j ∉ PH xs 0 j) hl (fun j hj=>?_) ?_) (fun hx=>?_) (fun hx=>?_)
 rotate_left 2
 ·obtain ⟨h1,h2⟩:=hx
  by_cases h:1≤xs.length
  ·refine ⟨decide ((xs.length:Int)≤(of.length:Int)),Z5 h1 (ZM (by omega) (Ze fun z hz=>by rw [hz])),?_⟩
   rw [decide_eq_true_iff]
   exact ⟨fun c=>⟨h,by omega,h2⟩,fun c=>by omega⟩
  ·exact ⟨false,Z5 h1 (Zi (by omega) rfl),⟨fun c=>(nomatch c),fun c=>absurd c.1 h⟩⟩
 ·obtain ⟨k,h1,h2,h3⟩:=hx
  exact ⟨false,Z5 h3 rfl,⟨fun h=>(nomatch h),fun h=>absurd (h.2.2 k h1) h2⟩⟩
 ·have e:=QW hj hl
  have jZ:=Nt (xs:=PH xs 0 j) (lg xs j) (by rw [TP (by omega)]; omega)
  unfold WE.b0
  rw [e,if_pos (by omega),if_pos (by omega),Int.toNat_natCast,Nt _ ho,jZ]
  clear e jZ
  by_cases ha:lg xs j ∈ of
  ·refine ⟨decide (lg xs j ∈ PH xs 0 j),?_,by simp [ha]⟩
   rw [decide_eq_true ha]
   refine Z5 rfl (Zi (by decide) (ZM (by omega) (ZM (by omega) (ZM (by omega) (ZM (by omega) (ZM (by omega) (Z5 rfl ?_)))))))
   cases decide (lg xs j ∈ PH xs 0 j) <;> rfl
  ·refine ⟨true,?_,by simp [ha]⟩
   rw [decide_eq_false ha]; rfl
 ·unfold WE.b0
  exact if_neg (by omega)
def OkT (ss:List Str):Prop := ∀ j,j<ss.length → 1≤(lg ss j).length∧(lg ss j).length≤16384
theorem xY (ss:List Str) (m:Nat) (hl:ss.length<1152921504606846976) : ∃ b,Oz ss (m:Int)=some b∧(b=true ↔ m≤ss.length∧ss.length≤8∧OkT ss):=by
 unfold Oz
 by_cases hc:m≤ss.length∧ss.length≤8
 ·have hin:Uy ((ss.length:Nat):Int) (m:Int) 8=some true:=by rw [Po,decide_eq_true (by omega)]
  have hx : ∃ b,Xv ss=some b∧(b=true ↔ ¬ OkT ss):=by
   unfold Xv YT
   refine Or.elim (Og (body:=YT.b0 ss) (fun j=>(j:Int)) (fun j=>1≤(lg ss j).length∧(lg ss j).length≤16384) hl (fun j hj=>?_) ?_) (fun hx=>?_) (fun hx=>?_)
   rotate_left 2
   ·obtain ⟨h1,h2⟩:=hx
    exact ⟨false,Z5 (Z5 h1 rfl) (Ze fun z hz=>by rw [hz]; rfl),⟨fun h=>(nomatch h),fun h=>absurd h2 h⟩⟩
   ·obtain ⟨k,h1,h2,h3⟩:=hx
    exact ⟨true,Z5 (Z5 h3 rfl) (Ze fun z hz=>by rw [hz,decide_eq_true (by omega)]),⟨fun _ h=>h2 (h k h1),fun _=>rfl⟩⟩
   ·have e:=QW hj hl
    unfold YT.b0
    rw [e,if_pos (by omega),if_pos (by omega),Int.toNat_natCast]
    clear e
    have hq:O7 (lg ss j)=some (!(decide (1≤((lg ss j).length:Int)∧((lg ss j).length:Int)≤16384))):=by unfold O7; exact Z5 (Po _ _ _) rfl
    refine ⟨!(decide (1≤((lg ss j).length:Int)∧((lg ss j).length:Int)≤16384)),Z5 hq ?_,?_⟩
    ·cases decide (1≤((lg ss j).length:Int)∧((lg ss j).length:Int)≤16384) <;> rfl
    ·simp only [Bool.not_eq_true',decide_eq_false_iff_not]
     omega
   ·unfold YT.b0
    exact if_neg (by omega)
  obtain ⟨b,h1,h2⟩:=hx
  refine ⟨!b,Z5 hin (ZM rfl (Z5 h1 rfl)),?_⟩
  cases b with
  | true=>exact ⟨fun h=>(nomatch h),fun h=>absurd h.2.2 (h2.1 rfl)⟩
  | false=>exact ⟨fun _=>⟨hc.1,hc.2,Classical.byContradiction fun h=>nomatch h2.2 h⟩,fun _=>rfl⟩
 ·exact ⟨false,Z5 (by rw [Po,decide_eq_false (by omega)]) rfl,⟨fun h=>(nomatch h),fun h=>absurd ⟨h.1,h.2.1⟩ hc⟩⟩
theorem BQ (ss:List Str) (hl:ss.length<1152921504606846976) : ∃ b,WZ ss=some b∧(b=true ↔ ss.length≤8∧OkT ss):=by
 unfold WZ
 refine Or.elim (Og (body:=WZ.b0 ss) (fun _=>false) (fun j=>1≤(lg ss j).length∧(lg ss j).length≤16384) hl (fun j hj=>?_) ?_) (fun hx=>?_) (fun hx=>?_)
 rotate_left 2
 ·obtain ⟨h1,h2⟩:=hx
  refine ⟨decide ((ss.length:Int)≤8),Z5 h1 (Ze fun z hz=>by rw [hz]),?_⟩
  rw [decide_eq_true_iff]
  exact ⟨fun c=>⟨by omega,h2⟩,fun c=>by omega⟩
 ·obtain ⟨k,h1,h2,h3⟩:=hx
  exact ⟨false,Z5 h3 rfl,⟨fun h=>(nomatch h),fun h=>absurd (h.2 k h1) h2⟩⟩
 ·have e:=QW hj hl
  unfold WZ.b0
  rw [e,if_pos (by omega),if_pos (by omega),Int.toNat_natCast]
  clear e
  by_cases c:((lg ss j).length:Int)<1
  ·exact ⟨true,Z5 (v:=true) (ZM c rfl) rfl,⟨fun _ h=>by omega,fun _=>rfl⟩⟩
  ·refine ⟨decide (16384<((lg ss j).length:Int)),Z5 (Zi c (ZM (by omega) rfl)) ?_,?_⟩
   ·cases decide (16384<((lg ss j).length:Int)) <;> rfl
   ·rw [decide_eq_true_iff]; omega
 ·unfold WZ.b0
  exact if_neg (by omega)
def zL (ch:List Str):Nat → Nat:=fun k=>iter (fun j n=>n+((lg ch j).length+5)) k 8
theorem vX (ch:List Str) (h : ∀ j,j<ch.length → (lg ch j).length≤16384) : ∀ k,k≤ch.length → zL ch k≤8+16389 * k
 | 0,_=>Nat.le_refl _
 | k+1,hk=>by
  have:=vX ch h k (by omega)
  have h2:=h k (by omega)
  show zL ch k+((lg ch k).length+5)≤_
  omega
theorem jO (ch:List Str) (h8:ch.length≤8) (h : ∀ j,j<ch.length → (lg ch j).length≤16384):Sg ch=some (decide (zL ch ch.length≤65536)):=by
 unfold Sg
 refine Z5 (v:=((zL ch ch.length:Nat):Int)) (Vw (fun j=>(((zL ch j:Nat):Int),(j:Int))) ch.length _ (by omega) rfl (fun j hj=>?_) ?_) (Ze fun z hz=>?_)
 ·have e:=QW (n:=9) (show j<9 by omega) (by decide)
  have hw:=vX ch h j (by omega)
  have hj2:=h j hj
  have e1:ZJ (((lg ch j).length:Int)+5)=(((lg ch j).length+5:Nat):Int):=Vj (b:=5) (by omega)
  have e2:ZJ (((zL ch j:Nat):Int)+(((lg ch j).length+5:Nat):Int))=((zL ch (j+1):Nat):Int):=Vj (by omega)
  unfold Sg.b0
  rw [if_pos (by omega),if_pos (by omega),Int.toNat_natCast,e]
  exact Ze fun s hs=>Ze fun n hn=>by rw [hn,hs,e1,e2]
 ·unfold Sg.b0
  exact if_neg (by omega)
 ·rw [hz]
  by_cases c:zL ch ch.length≤65536
  ·rw [decide_eq_true c,decide_eq_true (by omega)]
  ·rw [decide_eq_false c,decide_eq_false (by omega)]
theorem gX (ch:List Str) (hl:ch.length<1152921504606846976) : ∃ t,loop (XJ.b0 ch) BIG (8,0)=some t∧(ch.length≤8 → (∀ j,j<ch.length → (lg ch j).length≤16384) → t=((zL ch ch.length:Nat):Int)):=by
 refine ⟨iter (fun j n=>ZJ (ZJ (n+5)+(min ((lg ch j).length:Int) 16384))) (min ch.length 8) 8,gM (fun j n=>(n,(j:Int))) (min ch.length 8) (fun j n=>ZJ (ZJ (n+5)+(min ((lg ch j).length:Int) 16384))) 8 _ (by omega) (fun j n hj=>?_) ?_,fun h8 h=>?_⟩
 ·have e:=QW (n:=9) (show j<9 by omega) (by decide)
  unfold XJ.b0
  refine Z5 (v:=true) (ZM (by omega) (by rw [decide_eq_true (by omega)])) (ZM rfl (ZM (by omega) ?_))
  rw [e,Int.toNat_natCast]
  exact Ze fun a ha=>Ze fun i hi=>by rw [ha,hi]
 ·unfold XJ.b0
  by_cases c:((min ch.length 8:Nat):Int)<(ch.length:Int)
  ·exact Z5 (v:=false) (ZM c (by rw [decide_eq_false (by omega)])) (Zi (by decide) rfl)
  ·exact Z5 (v:=false) (Zi c rfl) (Zi (by decide) rfl)
 ·have e8:min ch.length 8=ch.length:=by omega
  rw [e8]
  refine MG (step:=fun j n=>ZJ (ZJ (n+5)+(min ((lg ch j).length:Int) 16384))) (s0:=8) (fun k n=>n=((zL ch k:Nat):Int)) ch.length rfl (fun k n hk hn=>?_) ch.length (Nat.le_refl _)
  have hw:=vX ch h k (by omega)
  have fu:=h k hk
  have e1:ZJ (((zL ch k:Nat):Int)+5)=((zL ch k+5:Nat):Int):=Vj (b:=5) (by omega)
  have e2:min ((lg ch k).length:Int) 16384=(((lg ch k).length:Nat):Int):=by omega
  have e3:ZJ (((zL ch k+5:Nat):Int)+(((lg ch k).length:Nat):Int))=((zL ch (k+1):Nat):Int):=by
   rw [Vj (by omega)]
   show _=((zL ch k+((lg ch k).length+5):Nat):Int)
   omega
  rw [hn,e1,e2,e3]
end Go.Proofs
end

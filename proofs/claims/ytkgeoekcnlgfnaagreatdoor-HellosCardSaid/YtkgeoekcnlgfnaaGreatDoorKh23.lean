/-
  Part 23 of the proof of what several laws share.
-/
import Derived.Test.YtkgeoekcnlgfnaaGreatDoorKh22
set_option maxHeartbeats 4000000
set_option maxRecDepth 20000
set_option linter.unusedVariables false
set_option linter.unusedSimpArgs false
section
namespace Go.Proofs
open Go Go.Kx
open TryzI Tryz
def Sd (Zm:Bool) (ZI ZR:List (Int)) (Zx:List (Str)) (Yp:Str) (Zr:List (Str)) (Zb:Str) (ZC:Int) (Y5:Str) (ZB:List (Str × Str × Int × Int × Int × Int)) (YN:Str) (Zk Ye:Int) (Zd YO:Int) (random session share:Str):Option (Int × Str × Str × Str × Int × List (Int) × List (Int) × List (Int) × List (Int) × List (Int) × (List (Int × Str)) × (List (Str × Int)) × List (Str) × List (Int) × List (Str)) :=
 (Ty Zm ZI ZR Zx Yp Zr Zb ZC Y5 ZB YN Zk Ye Zd YO).bind fun Zu=>((if (!Zu)=true then (some true) else (if Zm=true then (some true) else (if ((random).length:Int) ≠ 32 then (some true) else (if ((session).length:Int) ≠ 32 then (some true) else (some (decide (share=([]:Str)))))))).bind fun j1=>(if j1=true then (some (0,([]:Str),([]:Str),([]:Str),2400,([]:List (Int)),([]:List (Int)),([]:List (Int)),([]:List (Int)),([]:List (Int)),([]:List (Int × Str)),([]:List (Str × Int)),([]:List (Str)),([]:List (Int)),([]:List (Str)))) else (if (ZI).length≤17592186044416 then (if (ZR).length≤17592186044416 then (if 0≤(0:Int)∧(0:Int)<((ZR).length:Int) then ((Wu Zm ZI ZR Zx Yp Zr Zb ZC Y5 ZB YN Zk Ye Zd YO).bind fun YJ=>(if YJ=true then (if 0≤(0:Int)∧(0:Int)<((ZB).length:Int) then ((Ul ((lg ZB 0).2.2.1)).bind fun X7=>(if 0≤ZJ (X7.1.tdiv 8)∧ZJ (X7.1.tdiv 8)≤17592186044416 then (if (List.replicate ((ZJ (X7.1.tdiv 8)).toNat) 0#8).length=(ZJ (X7.1.tdiv 8)).toNat then (some (1,random,session,Zb,0,ZI,([772]:List (Int)),ZR,([1027]:List (Int)),([1]:List (Int)),([(lg ZR 0,share)]:List (Int × Str)),([((lg ZB 0).1,(ZJ ((ZJ (1000 * (ZJ (Zk - ((lg ZB 0).2.2.2.2.1)))))+((lg ZB 0).2.2.2.1))).tmod 4294967296)]:List (Str × Int)),([List.replicate ((ZJ (X7.1.tdiv 8)).toNat) 0#8]:List (Str)),([]:List (Int)),([]:List (Str)))) else none) else none)) else none) else (some (1,random,session,Zb,0,ZI,([772]:List (Int)),ZR,([1027]:List (Int)),([]:List (Int)),([(lg ZR 0,share)]:List (Int × Str)),([]:List (Str × Int)),([]:List (Str)),([]:List (Int)),([]:List (Str)))))) else none) else none) else none)))
theorem rQ {YZ:Y6} {Y0:Nat} {Y1:Y6} {YY:Nat} {YC:Y6} {YH:Nat} {YG:Y6} {YF:Nat} {XR:Y6} {XP:Nat} {Zm:Bool} {ZI:List (Int)} {ZR:List (Int)} {Zx:List (Str)} {Yp:Str} {Zr:List (Str)} {Zb:Str} {ZC:Int} {Y5:Str} {ZB:List (Str × Str × Int × Int × Int × Int)} {YN:Str} {Zk:Int} {Ye:Int} {Zd:Int} {YO:Int} {random:Str} {session:Str} {share:Str} (YV:(ZI).length≤Y0) (YD:(ZR).length≤YY) (Y8:(Zx).length≤YH) (Yq:(Zr).length≤YF) (Xk:(ZB).length≤XP) {r:Int × Str × Str × Str × Int × List (Int) × List (Int) × List (Int) × List (Int) × List (Int) × (List (Int × Str)) × (List (Str × Int)) × List (Str) × List (Int) × List (Str)} (H:Sd Zm ZI ZR Zx Yp Zr Zb ZC Y5 ZB YN Zk Ye Zd YO random session share=some r) :
  Does Tryz.prog 15 [aG [(1,[vb Zm]),(1,[sl YZ ((ZI).length) Y0]),(1,[sl Y1 ((ZR).length) YY]),(1,[sl YC ((Zx).length) YH]),(1,[vs Yp]),(1,[sl YG ((Zr).length) YF]),(1,[vs Zb]),(1,[vi ZC]),(1,[vs Y5]),(1,[sl XR ((ZB).length) XP]),(1,[vs YN]),(1,[vi Zk]),(1,[vi Ye]),(1,[vi Zd]),(1,[vi YO])],vs random,vs session,vs share] [] [⟨YZ,eI ZI⟩,⟨Y1,eI ZR⟩,⟨YC,eS Zx⟩,⟨YG,eS Zr⟩,⟨XR,eF (fun p:Str × Str × Int × Int × Int × Int=>[vs p.1,vs p.2.1,vi p.2.2.1,vi p.2.2.2.1,vi p.2.2.2.2.1,vi p.2.2.2.2.2]) ZB⟩] (Γ:=Y6 × Y6 × Y6 × Y6 × Y6 × Y6 × Y6 × Y6 × Y6 × Y6 × List (Int) × List (Int)) (fun g=>Value.tuple [aG [(1,[vi r.1]),(1,[vs r.2.1]),(1,[vs r.2.2.1]),(1,[sl g.1 ((r.2.2.2.2.2.1).length) ((r.2.2.2.2.2.1++g.2.2.2.2.2.2.2.2.2.2.1).length)]),(1,[vs r.2.2.2.1]),(1,[sl g.2.1 ((r.2.2.2.2.2.2.1).length) ((r.2.2.2.2.2.2.1++([]:List (Int))).length)]),(1,[sl g.2.2.1 ((r.2.2.2.2.2.2.2.1).length) ((r.2.2.2.2.2.2.2.1++g.2.2.2.2.2.2.2.2.2.2.2).length)]),(1,[sl g.2.2.2.1 ((r.2.2.2.2.2.2.2.2.1).length) ((r.2.2.2.2.2.2.2.2.1++([]:List (Int))).length)]),(1,[sl g.2.2.2.2.1 ((r.2.2.2.2.2.2.2.2.2.1).length) ((r.2.2.2.2.2.2.2.2.2.1++([]:List (Int))).length)]),(1,[sl g.2.2.2.2.2.1 ((r.2.2.2.2.2.2.2.2.2.2.1).length) ((r.2.2.2.2.2.2.2.2.2.2.1++([]:List (Int × Str))).length)]),(1,[sl g.2.2.2.2.2.2.1 ((r.2.2.2.2.2.2.2.2.2.2.2.1).length) ((r.2.2.2.2.2.2.2.2.2.2.2.1++([]:List (Str × Int))).length)]),(1,[sl g.2.2.2.2.2.2.2.1 ((r.2.2.2.2.2.2.2.2.2.2.2.2.1).length) ((r.2.2.2.2.2.2.2.2.2.2.2.2.1++([]:List (Str))).length)]),(1,[vi 0]),(1,[sl g.2.2.2.2.2.2.2.2.1 ((r.2.2.2.2.2.2.2.2.2.2.2.2.2.1).length) ((r.2.2.2.2.2.2.2.2.2.2.2.2.2.1++([]:List (Int))).length)]),(1,[sl g.2.2.2.2.2.2.2.2.2.1 ((r.2.2.2.2.2.2.2.2.2.2.2.2.2.2).length) ((r.2.2.2.2.2.2.2.2.2.2.2.2.2.2++([]:List (Str))).length)]),(1,[vi 0]),(1,[vs ([]:Str)]),(1,[vi 0]),(1,[vi 0]),(1,[vs ([]:Str)]),(1,[vi 0])],vi r.2.2.2.2.1].toArray) (fun g=>[⟨g.1,eI (r.2.2.2.2.2.1++g.2.2.2.2.2.2.2.2.2.2.1)⟩,⟨g.2.1,eI (r.2.2.2.2.2.2.1++([]:List (Int)))⟩,⟨g.2.2.1,eI (r.2.2.2.2.2.2.2.1++g.2.2.2.2.2.2.2.2.2.2.2)⟩,⟨g.2.2.2.1,eI (r.2.2.2.2.2.2.2.2.1++([]:List (Int)))⟩,⟨g.2.2.2.2.1,eI (r.2.2.2.2.2.2.2.2.2.1++([]:List (Int)))⟩,⟨g.2.2.2.2.2.1,eF (fun p:Int × Str=>[vi p.1,vs p.2]) (r.2.2.2.2.2.2.2.2.2.2.1++([]:List (Int × Str)))⟩,⟨g.2.2.2.2.2.2.1,eF (fun p:Str × Int=>[vs p.1,vi p.2]) (r.2.2.2.2.2.2.2.2.2.2.2.1++([]:List (Str × Int)))⟩,⟨g.2.2.2.2.2.2.2.1,eS (r.2.2.2.2.2.2.2.2.2.2.2.2.1++([]:List (Str)))⟩,⟨g.2.2.2.2.2.2.2.2.1,eI (r.2.2.2.2.2.2.2.2.2.2.2.2.2.1++([]:List (Int)))⟩,⟨g.2.2.2.2.2.2.2.2.2.1,eS (r.2.2.2.2.2.2.2.2.2.2.2.2.2.2++([]:List (Str)))⟩]):=by
 intro w hmem hro hd
 refine Zn func15 rfl ntmps15 rfl hmem hro hd ?_
 unfold Sd at H
 refine Z_ (YE PT (fun b1=>?_))
 refine YE (SL Xg Pw) (fun b2=>?_)
 refine Mo [zS,zI,zS,zA,zB,zI,zI,zI,zI,zI] rfl ?_
 refine Y2 ?_
 refine Z6 (Wz [1,2,3,4,8] (rp 15 31++rp 4 10++9 :: 9 :: 9 :: 8 :: 8 :: 7 :: 7 :: 6 :: 6 :: 5 :: 5 :: 4 :: 4 :: 3 :: 3 :: 2 :: 2 :: 2 :: 1 :: 1 :: rp 7 0) rfl rfl ?_)
 refine ZY (Z_ (ZV (VY [0,1,2,3,4,5,6,7,8,9,10,11,12,13,14] rfl rfl isAgg26 We) ?_))
 have ⟨Zu,Yk,H⟩:=Z9 H
 refine YE (Y4 (Ox YV YD Y8 Yq Xk Yk :) call17 ⟨.r 0, .r 1, .r 2, .r 3, .r 4,trivial⟩) (fun Re=>?_)
 refine ZV (UF T_) ?_
 refine YP ?_
 have ⟨j1,Hj,H⟩:=Z9 H
 refine VH (Γ:=Unit) (fun Sc=>[(1,vs random),(2,vs session),(3,vs share),(4,ptr (some (b1,0)) 0),(8,ptr (some (b2,0)) 0),(34,vb j1)]) (fun Sc=>[⟨some (b1,0),[vb Zm]⟩,⟨some (b1,1),[sl YZ ((ZI).length) Y0]⟩,⟨some (b1,2),[sl Y1 ((ZR).length) YY]⟩,⟨some (b1,3),[sl YC ((Zx).length) YH]⟩,⟨some (b1,4),[vs Yp]⟩,⟨some (b1,5),[sl YG ((Zr).length) YF]⟩,⟨some (b1,6),[vs Zb]⟩,⟨some (b1,7),[vi ZC]⟩,⟨some (b1,8),[vs Y5]⟩,⟨some (b1,9),[sl XR ((ZB).length) XP]⟩,⟨some (b1,10),[vs YN]⟩,⟨some (b1,11),[vi Zk]⟩,⟨some (b1,12),[vi Ye]⟩,⟨some (b1,13),[vi Zd]⟩,⟨some (b1,14),[vi YO]⟩,⟨some (b2,0),[vi 0]⟩,⟨some (b2,1),[vs ([]:Str)]⟩,⟨some (b2,2),[vs ([]:Str)]⟩,⟨some (b2,3),[sl none ((nI).length) ((nI++nI).length)]⟩,⟨none,eI (nI++nI)⟩,⟨some (b2,4),[vs ([]:Str)]⟩,⟨some (b2,5),[sl none ((nI).length) ((nI++nI).length)]⟩,⟨none,eI (nI++nI)⟩,⟨some (b2,6),[sl none ((nI).length) ((nI++nI).length)]⟩,⟨none,eI (nI++nI)⟩,⟨some (b2,7),[sl none ((nI).length) ((nI++nI).length)]⟩,⟨none,eI (nI++nI)⟩,⟨some (b2,8),[sl none ((nI).length) ((nI++nI).length)]⟩,⟨none,eI (nI++nI)⟩,⟨some (b2,9),[sl none ((nB).length) ((nB++nB).length)]⟩,⟨none,eF (fun p:Int × Str=>[vi p.1,vs p.2]) (nB++nB)⟩,⟨some (b2,10),[sl none ((nA).length) ((nA++nA).length)]⟩,⟨none,eF (fun p:Str × Int=>[vs p.1,vi p.2]) (nA++nA)⟩,⟨some (b2,11),[sl none ((nS).length) ((nS++nS).length)]⟩,⟨none,eS (nS++nS)⟩,⟨some (b2,12),[vi 0]⟩,⟨some (b2,13),[sl none ((nI).length) ((nI++nI).length)]⟩,⟨none,eI (nI++nI)⟩,⟨some (b2,14),[sl none ((nS).length) ((nS++nS).length)]⟩,⟨none,eS (nS++nS)⟩,⟨some (b2,15),[vi 0]⟩,⟨some (b2,16),[vs ([]:Str)]⟩,⟨some (b2,17),[vi 0]⟩,⟨some (b2,18),[vi 0]⟩,⟨some (b2,19),[vs ([]:Str)]⟩,⟨some (b2,20),[vi 0]⟩]) ?_ ?_
 ·intro Sc
  refine Z7 (Sn H (fun hc H=>?_) (fun hc H=>?_))
  ·refine Z_ (ZV (Y9 (pv:=[]) (pl:=[(0,1),(1,1),(2,1),(3,1),(4,1),(5,1),(6,1),(7,1),(8,1),(9,1),(10,1),(11,1),(12,1),(13,1),(14,1),(15,1),(16,1),(17,1),(18,1),(19,1),(20,1)]) rfl rfl underlying30 Xg Gw Pw (cs:=flat [(1,[vi 0]),(1,[vs ([]:Str)]),(1,[vs ([]:Str)]),(1,[sl none 0 0]),(1,[vs ([]:Str)]),(1,[sl none 0 0]),(1,[sl none 0 0]),(1,[sl none 0 0]),(1,[sl none 0 0]),(1,[sl none 0 0]),(1,[sl none 0 0]),(1,[sl none 0 0]),(1,[vi 0]),(1,[sl none 0 0]),(1,[sl none 0 0]),(1,[vi 0]),(1,[vs ([]:Str)]),(1,[vi 0]),(1,[vi 0]),(1,[vs ([]:Str)]),(1,[vi 0])]) (by kernel_rfl)) ?_)
   refine VM (VZ [15,15,15,15,16,16,17,18,19,20,21,22,23,23,24,25,25,25,25,25,25] rfl rfl Xg) (fun _=>?_)
   refine Mo [zS,zI,zS,zA,zB,zI,zI,zI,zI,zI] rfl ?_
   refine Y2 ?_
   refine Zq (ZZ ?_)
   obtain rfl:=sj H
   exact JK (none,none,none,none,none,none,none,none,none,none,nI,nI) [9,8,7,6,5,4,3,2,1,0] (vs:=[_,_]) rfl ⟨(Wp [10,11,12,13,14,15,16,17,18,19,20,21,22,23,24,25,26,27,28,29,30] rfl rfl isAgg30 Xg),rfl,trivial⟩ rfl
  refine ZN (Z7 (ZY ?_))
  have ⟨h1,H⟩:=Z4 H
  have ⟨h2,H⟩:=Z4 H
  have ⟨h3,H⟩:=Z4 H
  refine U3 (rp 46 0) 23 rfl ?_
  refine YA 1 0 rfl ?_
  refine Zz 3 rfl (ZQ 1 underlying26 XO) ?_
  refine Zz 4 rfl (Z8 rfl (.o 1) rfl isAgg22) ?_
  refine Zz 6 rfl (ZQ 6 underlying26 Xe) ?_
  refine Zz 7 rfl (Z8 rfl (.o 6) rfl isAgg9) ?_
  refine Zz 10 rfl (ZQ 2 underlying26 XO) ?_
  refine Zz 11 rfl (Z8 rfl (.o 2) rfl isAgg22) ?_
  refine Zz 14 rfl (ZQ 2 underlying26 XO) ?_
  refine Zz 15 rfl (Z8 rfl (.o 2) rfl isAgg22) ?_
  refine Zz 16 rfl (YK (i:=0) rfl rfl underlying22 YM rfl (.r 1) (Uf (tl h3)) h3.1 h3.2 (k:=0) (JZ _)) ?_
  refine Zz 17 rfl (Z8 rfl (.r 1) (UL (f:=vi) (l:=ZR) (tl h3)) isAgg3) ?_
  refine YA 0 18 rfl ?_
  refine Zz 19 rfl (Y9 (pv:=[(0,vi (lg ZR 0)),(1,vs share)]) (pl:=[(0,1),(1,1)]) rfl rfl underlying50 Rv yB CG (cs:=flat [(1,[vi (lg ZR 0)]),(1,[vs share])]) (by kernel_rfl)) ?_
  refine PX 1 (rp 46 28) (.c ⟨2,38,fun _ b3=>sl (some (b3,0)) 0 0,fun b3=>[⟨some (b3,0),eI ([]:List (Int))⟩],[],none⟩ rfl (fun _ _=>(WB (cs:=eI ([]:List (Int))) underlying22 YM rfl)) (.c ⟨5,41,fun _ UD=>sl ((cf UD).1) ((ZI).length) ((ZI++((cf UD).2)).length),fun UD=>[⟨(cf UD).1,eI (ZI++((cf UD).2))⟩],[2],some 2⟩ rfl (fun _ _=>(vM (nW (f:=vi) (j:=0) (ds:=ZI) (0:Int) (.r 0) rfl rfl rfl (fun _=>rfl) underlying22 underlying22 YM rfl LG (B':=8) rfl (by have:=h1; omega) (by have:=h1; omega)))) (.c ⟨8,44,fun _ b4=>sl (some (b4,0)) 1 1,fun b4=>[⟨some (b4,0),eI ([772]:List (Int))⟩],[],none⟩ rfl (fun _ _=>(Ya (pv:=[(0,vi 772)]) rfl rfl underlying22 YM (s:=1) rfl LG rfl rfl rfl (cs:=eI ([772]:List (Int))) (by kernel_rfl))) (.c ⟨9,45,fun _ b5=>sl (some (b5,0)) 0 0,fun b5=>[⟨some (b5,0),eI ([]:List (Int))⟩],[],none⟩ rfl (fun _ _=>(WB (cs:=eI ([]:List (Int))) underlying22 YM rfl)) (.c ⟨12,48,fun _ Pm=>sl ((cf Pm).1) ((ZR).length) ((ZR++((cf Pm).2)).length),fun Pm=>[⟨(cf Pm).1,eI (ZR++((cf Pm).2))⟩],[9],some 9⟩ rfl (fun _ _=>(vM (nW (f:=vi) (j:=0) (ds:=ZR) (0:Int) (.r 1) rfl rfl rfl (fun _=>rfl) underlying22 underlying22 YM rfl LG (B':=8) rfl (by have:=h2; omega) (by have:=h2; omega)))) (.c ⟨13,49,fun _ b6=>sl (some (b6,0)) 1 1,fun b6=>[⟨some (b6,0),eI ([1027]:List (Int))⟩],[],none⟩ rfl (fun _ _=>(Ya (pv:=[(0,vi 1027)]) rfl rfl underlying22 YM (s:=1) rfl LG rfl rfl rfl (cs:=eI ([1027]:List (Int))) (by kernel_rfl))) (.c ⟨20,56,fun _ b7=>sl (some (b7,0)) 1 1,fun b7=>[⟨some (b7,0),eF (fun p:Int × Str=>[vi p.1,vs p.2]) ([(lg ZR 0,share)]:List (Int × Str))⟩],[],none⟩ rfl (fun _ _=>(Ya (pv:=[(0,aG [(1,[vi (lg ZR 0)]),(1,[vs share])])]) rfl rfl underlying27 Rv (s:=2) rfl CG rfl rfl rfl (cs:=eF (fun p:Int × Str=>[vi p.1,vs p.2]) ([(lg ZR 0,share)]:List (Int × Str))) (by kernel_rfl))) (.c ⟨21,57,fun l_ _=>aG [(1,[vi 1]),(1,[vs random]),(1,[vs session]),(1,[sl ((cf (l_.getD 0 0)).1) ((ZI).length) ((ZI++((cf (l_.getD 0 0)).2)).length)]),(1,[vs Zb]),(1,[sl (some ((l_.getD 1 0),0)) 1 1]),(1,[sl ((cf (l_.getD 2 0)).1) ((ZR).length) ((ZR++((cf (l_.getD 2 0)).2)).length)]),(1,[sl (some ((l_.getD 3 0),0)) 1 1]),(1,[sl none 0 0]),(1,[sl (some ((l_.getD 4 0),0)) 1 1]),(1,[sl none 0 0]),(1,[sl none 0 0]),(1,[vi 0]),(1,[sl none 0 0]),(1,[sl none 0 0]),(1,[vi 0]),(1,[vs ([]:Str)]),(1,[vi 0]),(1,[vi 0]),(1,[vs ([]:Str)]),(1,[vi 0])],fun _=>[],[5,8,12,13,20],none⟩ rfl (fun γ_ _=>BR (Y9 (pv:=[(0,vi 1),(1,vs random),(2,vs session),(3,sl ((cf (γ_ 5)).1) ((ZI).length) ((ZI++((cf (γ_ 5)).2)).length)),(4,vs Zb),(5,sl (some ((γ_ 8),0)) 1 1),(6,sl ((cf (γ_ 12)).1) ((ZR).length) ((ZR++((cf (γ_ 12)).2)).length)),(7,sl (some ((γ_ 13),0)) 1 1),(9,sl (some ((γ_ 20),0)) 1 1)]) (pl:=[(0,1),(1,1),(2,1),(3,1),(4,1),(5,1),(6,1),(7,1),(8,1),(9,1),(10,1),(11,1),(12,1),(13,1),(14,1),(15,1),(16,1),(17,1),(18,1),(19,1),(20,1)]) rfl rfl underlying30 Xg Gw Pw (cs:=flat [(1,[vi 1]),(1,[vs random]),(1,[vs session]),(1,[sl ((cf (γ_ 5)).1) ((ZI).length) ((ZI++((cf (γ_ 5)).2)).length)]),(1,[vs Zb]),(1,[sl (some ((γ_ 8),0)) 1 1]),(1,[sl ((cf (γ_ 12)).1) ((ZR).length) ((ZR++((cf (γ_ 12)).2)).length)]),(1,[sl (some ((γ_ 13),0)) 1 1]),(1,[sl none 0 0]),(1,[sl (some ((γ_ 20),0)) 1 1]),(1,[sl none 0 0]),(1,[sl none 0 0]),(1,[vi 0]),(1,[sl none 0 0]),(1,[sl none 0 0]),(1,[vi 0]),(1,[vs ([]:Str)]),(1,[vi 0]),(1,[vi 0]),(1,[vs ([]:Str)]),(1,[vi 0])]) (by kernel_rfl))) (.c ⟨22,10,fun _ b8=>ptr (some (b8,0)) 0,fun b8=>[⟨some (b8,0),[vi 0]⟩,⟨some (b8,1),[vs ([]:Str)]⟩,⟨some (b8,2),[vs ([]:Str)]⟩,⟨some (b8,3),[sl none 0 0]⟩,⟨some (b8,4),[vs ([]:Str)]⟩,⟨some (b8,5),[sl none 0 0]⟩,⟨some (b8,6),[sl none 0 0]⟩,⟨some (b8,7),[sl none 0 0]⟩,⟨some (b8,8),[sl none 0 0]⟩,⟨some (b8,9),[sl none 0 0]⟩,⟨some (b8,10),[sl none 0 0]⟩,⟨some (b8,11),[sl none 0 0]⟩,⟨some (b8,12),[vi 0]⟩,⟨some (b8,13),[sl none 0 0]⟩,⟨some (b8,14),[sl none 0 0]⟩,⟨some (b8,15),[vi 0]⟩,⟨some (b8,16),[vs ([]:Str)]⟩,⟨some (b8,17),[vi 0]⟩,⟨some (b8,18),[vi 0]⟩,⟨some (b8,19),[vs ([]:Str)]⟩,⟨some (b8,20),[vi 0]⟩],[],none⟩ rfl (fun _ _=>(SL Xg Pw)) .nil))))))))) (fun γ=>?_)
  refine TBC [(10,ptr (some ((γ 22),0)) 0),(57,aG [(1,[vi 1]),(1,[vs random]),(1,[vs session]),(1,[sl ((cf (γ 5)).1) ((ZI).length) ((ZI++((cf (γ 5)).2)).length)]),(1,[vs Zb]),(1,[sl (some ((γ 8),0)) 1 1]),(1,[sl ((cf (γ 12)).1) ((ZR).length) ((ZR++((cf (γ 12)).2)).length)]),(1,[sl (some ((γ 13),0)) 1 1]),(1,[sl none 0 0]),(1,[sl (some ((γ 20),0)) 1 1]),(1,[sl none 0 0]),(1,[sl none 0 0]),(1,[vi 0]),(1,[sl none 0 0]),(1,[sl none 0 0]),(1,[vi 0]),(1,[vs ([]:Str)]),(1,[vi 0]),(1,[vi 0]),(1,[vs ([]:Str)]),(1,[vi 0])]),(4,ptr (some (b1,0)) 0),(8,ptr (some (b2,0)) 0)] [⟨some ((γ 22),0),[vi 0]⟩,⟨some ((γ 22),1),[vs ([]:Str)]⟩,⟨some ((γ 22),2),[vs ([]:Str)]⟩,⟨some ((γ 22),3),[sl none 0 0]⟩,⟨some ((γ 22),4),[vs ([]:Str)]⟩,⟨some ((γ 22),5),[sl none 0 0]⟩,⟨some ((γ 22),6),[sl none 0 0]⟩,⟨some ((γ 22),7),[sl none 0 0]⟩,⟨some ((γ 22),8),[sl none 0 0]⟩,⟨some ((γ 22),9),[sl none 0 0]⟩,⟨some ((γ 22),10),[sl none 0 0]⟩,⟨some ((γ 22),11),[sl none 0 0]⟩,⟨some ((γ 22),12),[vi 0]⟩,⟨some ((γ 22),13),[sl none 0 0]⟩,⟨some ((γ 22),14),[sl none 0 0]⟩,⟨some ((γ 22),15),[vi 0]⟩,⟨some ((γ 22),16),[vs ([]:Str)]⟩,⟨some ((γ 22),17),[vi 0]⟩,⟨some ((γ 22),18),[vi 0]⟩,⟨some ((γ 22),19),[vs ([]:Str)]⟩,⟨some ((γ 22),20),[vi 0]⟩,⟨some ((γ 20),0),eF (fun p:Int × Str=>[vi p.1,vs p.2]) ([(lg ZR 0,share)]:List (Int × Str))⟩,⟨some ((γ 13),0),eI ([1027]:List (Int))⟩,⟨(cf (γ 12)).1,eI (ZR++((cf (γ 12)).2))⟩,⟨some ((γ 9),0),eI nI⟩,⟨some ((γ 8),0),eI ([772]:List (Int))⟩,⟨(cf (γ 5)).1,eI (ZI++((cf (γ 5)).2))⟩,⟨some ((γ 2),0),eI nI⟩,⟨some (b1,0),[vb Zm]⟩,⟨some (b1,1),[sl YZ ((ZI).length) Y0]⟩,⟨some (b1,2),[sl Y1 ((ZR).length) YY]⟩,⟨some (b1,3),[sl YC ((Zx).length) YH]⟩,⟨some (b1,4),[vs Yp]⟩,⟨some (b1,5),[sl YG ((Zr).length) YF]⟩,⟨some (b1,6),[vs Zb]⟩,⟨some (b1,7),[vi ZC]⟩,⟨some (b1,8),[vs Y5]⟩,⟨some (b1,9),[sl XR ((ZB).length) XP]⟩,⟨some (b1,10),[vs YN]⟩,⟨some (b1,11),[vi Zk]⟩,⟨some (b1,12),[vi Ye]⟩,⟨some (b1,13),[vi Zd]⟩,⟨some (b1,14),[vi YO]⟩,⟨some (b2,0),[vi 0]⟩,⟨some (b2,1),[vs ([]:Str)]⟩,⟨some (b2,2),[vs ([]:Str)]⟩,⟨some (b2,3),[sl none ((nI).length) ((nI++nI).length)]⟩,⟨none,eI (nI++nI)⟩,⟨some (b2,4),[vs ([]:Str)]⟩,⟨some (b2,5),[sl none ((nI).length) ((nI++nI).length)]⟩,⟨none,eI (nI++nI)⟩,⟨some (b2,6),[sl none ((nI).length) ((nI++nI).length)]⟩,⟨none,eI (nI++nI)⟩,⟨some (b2,7),[sl none ((nI).length) ((nI++nI).length)]⟩,⟨none,eI (nI++nI)⟩,⟨some (b2,8),[sl none ((nI).length) ((nI++nI).length)]⟩,⟨none,eI (nI++nI)⟩,⟨some (b2,9),[sl none ((nB).length) ((nB++nB).length)]⟩,⟨none,eF (fun p:Int × Str=>[vi p.1,vs p.2]) (nB++nB)⟩,⟨some (b2,10),[sl none ((nA).length) ((nA++nA).length)]⟩,⟨none,eF (fun p:Str × Int=>[vs p.1,vi p.2]) (nA++nA)⟩,⟨some (b2,11),[sl none ((nS).length) ((nS++nS).length)]⟩,⟨none,eS (nS++nS)⟩,⟨some (b2,12),[vi 0]⟩,⟨some (b2,13),[sl none ((nI).length) ((nI++nI).length)]⟩,⟨none,eI (nI++nI)⟩,⟨some (b2,14),[sl none ((nS).length) ((nS++nS).length)]⟩,⟨none,eS (nS++nS)⟩,⟨some (b2,15),[vi 0]⟩,⟨some (b2,16),[vs ([]:Str)]⟩,⟨some (b2,17),[vi 0]⟩,⟨some (b2,18),[vi 0]⟩,⟨some (b2,19),[vs ([]:Str)]⟩,⟨some (b2,20),[vi 0]⟩] ?_
  generalize γ 2=b3
  generalize γ 5=UD
  generalize γ 8=b4
  generalize γ 9=b5
  generalize γ 12=Pm
  generalize γ 13=b6
  generalize γ 20=b7
  generalize γ 22=b8
  refine vS 23 rfl (VZ (rp 21 0) rfl rfl Xg) (fun _=>?_)
  refine Vi ?_
  refine Z7 (ZY (Z_ (ZV (VY [28,29,30,31,32,33,34,35,36,37,38,39,40,41,42] rfl rfl isAgg26 We) ?_)))
  have ⟨YJ,X6,H⟩:=Z9 H
  refine YE (Y4 (rH YV YD Y8 Yq Xk X6 :) call41 ⟨.r 0, .r 1, .r 2, .r 3, .r 4,trivial⟩) (fun JV=>?_)
  refine Mo [zS,zI,zS,zA,zI] rfl ?_
  refine Ta 30 (congrArg (eI) (List.append_nil _).symm) ?_
  refine Ta (cs':=[sl (some (b4,0)) ((([772]:List (Int))).length) ((([772]:List (Int))++nI).length)]) 10 (congrArg (fun z=>[z]) (Us rfl)) ?_
  refine Ta 27 (congrArg (eI) (List.append_nil _).symm) ?_
  refine Ta (cs':=[sl (some (b6,0)) ((([1027]:List (Int))).length) ((([1027]:List (Int))++nI).length)]) 12 (congrArg (fun z=>[z]) (Us rfl)) ?_
  refine Ta 26 (congrArg (eF (fun p:Int × Str=>[vi p.1,vs p.2])) (List.append_nil _).symm) ?_
  refine Ta (cs':=[sl (some (b7,0)) ((([(lg ZR 0,share)]:List (Int × Str))).length) ((([(lg ZR 0,share)]:List (Int × Str))++nB).length)]) 14 (congrArg (fun z=>[z]) (Us rfl)) ?_
  refine Z6 (Wz [4,8,10,59] (rp 46 33++rp 4 5++27 :: 5 :: 5 :: 24 :: 5 :: 21 :: 5 :: 19 :: 5 :: 4 :: 4 :: 15 :: 4 :: 3 :: 3 :: 2 :: 2 :: 2 :: 1 :: 1 :: rp 7 0) rfl rfl ?_)
  refine Sn H (fun hc H=>?_) (fun hc H=>?_)
  ·refine Z_ (ZV (ZQ 9 underlying26 R6) ?_)
   refine ZV (Z8 rfl (.o 9) rfl isAgg24) ?_
   have ⟨h4,H⟩:=Z4 H
   refine ZV (YK (i:=0) rfl rfl underlying24 Ut rfl (.r 4) (VC (s:=6) (fun _=>rfl) rfl (tl h4)) h4.1 h4.2 (k:=0 * 6) rfl) ?_
   refine ZV (UE (n:=6) (ds:=[vs ((lg ZB 0).1),vs ((lg ZB 0).2.1),vi ((lg ZB 0).2.2.1),vi ((lg ZB 0).2.2.2.1),vi ((lg ZB 0).2.2.2.2.1),vi ((lg ZB 0).2.2.2.2.2)]) rfl (.r 4) (RJ (g:=fun p:Str × Str × Int × Int × Int × Int=>[vs p.1,vs p.2.1,vi p.2.2.1,vi p.2.2.2.1,vi p.2.2.2.2.1,vi p.2.2.2.2.2]) (s:=6) (fun _=>rfl) ZB 0 (tl h4)) rfl rfl isAgg57 Ut rfl) ?_
   refine YE (SL Ut Fx) (fun b9=>?_)
   refine VM (za (b:=b9) (o:=0) (ns:=[(1,[vs ((lg ZB 0).1)]),(1,[vs ((lg ZB 0).2.1)]),(1,[vi ((lg ZB 0).2.2.1)]),(1,[vi ((lg ZB 0).2.2.2.1)]),(1,[vi ((lg ZB 0).2.2.2.2.1)]),(1,[vi ((lg ZB 0).2.2.2.2.2)])]) [0,0,0,0,0,0] [(1,_),(1,_),(1,_),(1,_),(1,_),(1,_)] rfl Ut) (fun _=>?_)
   refine Z6 (Wz [4,8,10,11] (rp 77 6++rp 6 0) rfl rfl ?_)
   refine Z_ (ZV (ZQ 2 underlying57 YM) ?_)
   refine ZV (Z8 rfl (.o 79) rfl isAgg3) ?_
   have ⟨X7,Vt,H⟩:=Z9 H
   refine YE (Y4 (Gl Vt :) call42 .z) (fun zM=>?_)
   refine Zj 5 rfl ?_
   refine Z6 (Wz [4,8,10,11,12] (rp 83 0) rfl rfl ?_)
   refine Z_ (YE (Ya (pv:=[(0,vi 1)]) rfl rfl underlying22 YM (s:=1) rfl LG rfl rfl rfl (cs:=eI ([1]:List (Int))) (by kernel_rfl)) (fun qy=>?_))
   refine ZV (ZQ 8 underlying30 XO) ?_
   refine VM (YR (j:=59) rfl rfl XO rfl rfl rfl (Nat.lt_succ_self 0) (cs':=[sl (some (qy,0)) 1 1]) rfl) (fun _=>?_)
   refine Ta 0 (congrArg (eI) (List.append_nil _).symm) ?_
   refine Ta (cs':=[sl (some (qy,0)) ((([1]:List (Int))).length) ((([1]:List (Int))++nI).length)]) 59 (congrArg (fun z=>[z]) (Us rfl)) ?_
   refine Z6 (Wz [4,8,10,11,12] (rp 59 1++0 :: rp 23 1) rfl rfl ?_)
   refine Z_ (ZV (ZQ 0 underlying57 Xe) ?_)
   refine ZV (Z8 rfl (.o 77) rfl isAgg9) ?_
   refine ZV (ZQ 11 underlying26 YM) ?_
   refine ZV (Z8 rfl (.o 11) rfl isAgg3) ?_
   refine ZV (ZQ 4 underlying57 YM) ?_
   refine ZV (Z8 rfl (.o 81) rfl isAgg3) ?_
   refine ZV (ZT OX) ?_
   refine ZV (ZT Ma) ?_
   refine ZV (ZQ 3 underlying57 YM) ?_
   refine ZV (Z8 rfl (.o 80) rfl isAgg3) ?_
   refine ZV (ZT XN) ?_
   refine ZV (Zg rfl rfl (fun w=>Jg w (ZJ ((ZJ (1000 * (ZJ (Zk - ((lg ZB 0).2.2.2.2.1)))))+((lg ZB 0).2.2.2.1))) 4294967296 (by decide))) ?_
   refine ZV (Y9 (pv:=[(0,vs ((lg ZB 0).1)),(1,vi ((ZJ ((ZJ (1000 * (ZJ (Zk - ((lg ZB 0).2.2.2.2.1)))))+((lg ZB 0).2.2.2.1))).tmod 4294967296))]) (pl:=[(0,1),(1,1)]) rfl rfl underlying60 LH yx yX (cs:=flat [(1,[vs ((lg ZB 0).1)]),(1,[vi ((ZJ ((ZJ (1000 * (ZJ (Zk - ((lg ZB 0).2.2.2.2.1)))))+((lg ZB 0).2.2.2.1))).tmod 4294967296)])]) (by kernel_rfl)) ?_
   refine YE (Ya (pv:=[(0,aG [(1,[vs ((lg ZB 0).1)]),(1,[vi ((ZJ ((ZJ (1000 * (ZJ (Zk - ((lg ZB 0).2.2.2.2.1)))))+((lg ZB 0).2.2.2.1))).tmod 4294967296)])])]) rfl rfl underlying28 LH (s:=2) rfl yX rfl rfl rfl (cs:=eF (fun p:Str × Int=>[vs p.1,vi p.2]) ([((lg ZB 0).1,(ZJ ((ZJ (1000 * (ZJ (Zk - ((lg ZB 0).2.2.2.2.1)))))+((lg ZB 0).2.2.2.1))).tmod 4294967296)]:List (Str × Int))) (by kernel_rfl)) (fun lS=>?_)
   refine ZV (ZQ 10 underlying30 MX) ?_
   refine VM (YR (j:=63) rfl rfl MX rfl rfl rfl (Nat.lt_succ_self 0) (cs':=[sl (some (lS,0)) 1 1]) rfl) (fun _=>?_)
   refine Ta 0 (congrArg (eF (fun p:Str × Int=>[vs p.1,vi p.2])) (List.append_nil _).symm) ?_
   refine Ta (cs':=[sl (some (lS,0)) ((([((lg ZB 0).1,(ZJ ((ZJ (1000 * (ZJ (Zk - ((lg ZB 0).2.2.2.2.1)))))+((lg ZB 0).2.2.2.1))).tmod 4294967296)]:List (Str × Int))).length) ((([((lg ZB 0).1,(ZJ ((ZJ (1000 * (ZJ (Zk - ((lg ZB 0).2.2.2.2.1)))))+((lg ZB 0).2.2.2.1))).tmod 4294967296)]:List (Str × Int))++nA).length)]) 63 (congrArg (fun z=>[z]) (Us rfl)) ?_
   refine Z6 (Wz [8,10,12] (rp 48 16++0 :: rp 13 16) rfl rfl ?_)
   refine ZH (YP ?_)
   refine ZV (Zg rfl rfl (fun w=>Lh w X7.1 8 (by decide))) ?_
   have ⟨h5,H⟩:=Z4 H
   refine YE (OA rfl rfl underlying86 Yn (z:=v8 0#8) rfl rfl rfl (B:=1) rfl h5.1 (Int.le_refl _) (wV 1 rfl h5) (ww h5) (n':=(ZJ (X7.1.tdiv 8)).toNat) (c':=(ZJ (X7.1.tdiv 8)).toNat) rfl rfl (cs:=e8 (List.replicate ((ZJ (X7.1.tdiv 8)).toNat) 0#8)) (Ti (f:=v8))) (fun b12=>?_)
   have ⟨h6,H⟩:=Z4 H
   refine ZV (QY rfl underlying86 underlying5 underlying9 (.o 0) h6) ?_
   refine YE (Ya (pv:=[(0,vs (List.replicate ((ZJ (X7.1.tdiv 8)).toNat) 0#8))]) rfl rfl underlying23 Xe (s:=1) rfl oI rfl rfl rfl (cs:=eS ([List.replicate ((ZJ (X7.1.tdiv 8)).toNat) 0#8]:List (Str))) (by kernel_rfl)) (fun b13=>?_)
   refine ZV (ZQ 11 underlying30 Xn) ?_
   refine VM (YR (j:=51) rfl rfl Xn rfl rfl rfl (Nat.lt_succ_self 0) (cs':=[sl (some (b13,0)) 1 1]) rfl) (fun _=>?_)
   refine Ta 0 (congrArg (eS) (List.append_nil _).symm) ?_
   refine Ta (cs':=[sl (some (b13,0)) ((([List.replicate ((ZJ (X7.1.tdiv 8)).toNat) 0#8]:List (Str))).length) ((([List.replicate ((ZJ (X7.1.tdiv 8)).toNat) 0#8]:List (Str))++nS).length)]) 51 (congrArg (fun z=>[z]) (Us rfl)) ?_
   refine Z6 (Wz [8,10] (rp 50 2++0 :: rp 11 2) rfl rfl ?_)
   refine Z_ (ZV (VY [31,32,33,34,36,37,39,41,43,45,47,49,51,52,54,56,57,58,59,60,61] rfl rfl isAgg30 Xg) ?_)
   refine VM (za (b:=b2) (o:=0) (ns:=[(1,[vi 1]),(1,[vs random]),(1,[vs session]),(1,[sl ((cf UD).1) ((ZI).length) ((ZI++((cf UD).2)).length)]),(1,[vs Zb]),(1,[sl (some (b4,0)) ((([772]:List (Int))).length) ((([772]:List (Int))++nI).length)]),(1,[sl ((cf Pm).1) ((ZR).length) ((ZR++((cf Pm).2)).length)]),(1,[sl (some (b6,0)) ((([1027]:List (Int))).length) ((([1027]:List (Int))++nI).length)]),(1,[sl (some (qy,0)) ((([1]:List (Int))).length) ((([1]:List (Int))++nI).length)]),(1,[sl (some (b7,0)) ((([(lg ZR 0,share)]:List (Int × Str))).length) ((([(lg ZR 0,share)]:List (Int × Str))++nB).length)]),(1,[sl (some (lS,0)) ((([((lg ZB 0).1,(ZJ ((ZJ (1000 * (ZJ (Zk - ((lg ZB 0).2.2.2.2.1)))))+((lg ZB 0).2.2.2.1))).tmod 4294967296)]:List (Str × Int))).length) ((([((lg ZB 0).1,(ZJ ((ZJ (1000 * (ZJ (Zk - ((lg ZB 0).2.2.2.2.1)))))+((lg ZB 0).2.2.2.1))).tmod 4294967296)]:List (Str × Int))++nA).length)]),(1,[sl (some (b13,0)) ((([List.replicate ((ZJ (X7.1.tdiv 8)).toNat) 0#8]:List (Str))).length) ((([List.replicate ((ZJ (X7.1.tdiv 8)).toNat) 0#8]:List (Str))++nS).length)]),(1,[vi 0]),(1,[sl none ((nI).length) ((nI++nI).length)]),(1,[sl none ((nS).length) ((nS++nS).length)]),(1,[vi 0]),(1,[vs ([]:Str)]),(1,[vi 0]),(1,[vi 0]),(1,[vs ([]:Str)]),(1,[vi 0])]) [0,0,0,0,1,1,2,3,4,5,6,7,8,8,9,10,10,10,10,10,10] [(1,_),(1,_),(1,_),(1,_),(1,_),(1,_),(1,_),(1,_),(1,_),(1,_),(1,_),(1,_),(1,_),(1,_),(1,_),(1,_),(1,_),(1,_),(1,_),(1,_),(1,_)] rfl Xg) (fun _=>?_)
   refine Y2 ?_
   refine Z6 (Wz [8,9] [0,0,0,0,31,0,0,31,0,31,0,31,0,31,0,31,0,31,0,31,0,0,31,0,31,0,0,0,0,0,0] rfl rfl ?_)
   refine Y7 ?_
   obtain rfl:=sj H
   exact JK ((cf UD).1,some (b4,0),(cf Pm).1,some (b6,0),some (qy,0),some (b7,0),some (lS,0),some (b13,0),none,none,(cf UD).2,(cf Pm).2) [4,6,7,8,9,10,11,12,14,15] (vs:=[_,_]) rfl ⟨(Wp [0,1,2,3,5,6,8,10,12,14,16,18,20,21,23,25,26,27,28,29,30] rfl rfl isAgg30 Xg),rfl,trivial⟩ rfl
  refine ZN (Z7 (Z_ (ZV (VY [46,47,48,49,51,52,54,56,58,60,62,64,66,67,69,71,72,73,74,75,76] rfl rfl isAgg30 Xg) ?_)))
  refine VM (za (b:=b2) (o:=0) (ns:=[(1,[vi 1]),(1,[vs random]),(1,[vs session]),(1,[sl ((cf UD).1) ((ZI).length) ((ZI++((cf UD).2)).length)]),(1,[vs Zb]),(1,[sl (some (b4,0)) ((([772]:List (Int))).length) ((([772]:List (Int))++nI).length)]),(1,[sl ((cf Pm).1) ((ZR).length) ((ZR++((cf Pm).2)).length)]),(1,[sl (some (b6,0)) ((([1027]:List (Int))).length) ((([1027]:List (Int))++nI).length)]),(1,[sl none ((nI).length) ((nI++nI).length)]),(1,[sl (some (b7,0)) ((([(lg ZR 0,share)]:List (Int × Str))).length) ((([(lg ZR 0,share)]:List (Int × Str))++nB).length)]),(1,[sl none ((nA).length) ((nA++nA).length)]),(1,[sl none ((nS).length) ((nS++nS).length)]),(1,[vi 0]),(1,[sl none ((nI).length) ((nI++nI).length)]),(1,[sl none ((nS).length) ((nS++nS).length)]),(1,[vi 0]),(1,[vs ([]:Str)]),(1,[vi 0]),(1,[vi 0]),(1,[vs ([]:Str)]),(1,[vi 0])]) [15,15,15,15,16,16,17,18,19,20,21,22,23,23,24,25,25,25,25,25,25] [(1,_),(1,_),(1,_),(1,_),(1,_),(1,_),(1,_),(1,_),(1,_),(1,_),(1,_),(1,_),(1,_),(1,_),(1,_),(1,_),(1,_),(1,_),(1,_),(1,_),(1,_)] rfl Xg) (fun _=>?_)
  refine Y2 ?_
  refine Z6 (Wz [8,9] [0,0,0,0,46,0,0,46,0,46,0,46,0,46,0,46,0,46,0,46,0,0,46,0,46,0,0,0,0,0,0] rfl rfl ?_)
  refine Y7 ?_
  obtain rfl:=sj H
  exact JK ((cf UD).1,some (b4,0),(cf Pm).1,some (b6,0),none,some (b7,0),none,none,none,none,(cf UD).2,(cf Pm).2) [4,6,7,8,9,10,11,12,14,15] (vs:=[_,_]) rfl ⟨(Wp [0,1,2,3,5,6,8,10,12,14,16,18,20,21,23,25,26,27,28,29,30] rfl rfl isAgg30 Xg),rfl,trivial⟩ rfl
 intro hJ
 replace H:=Hj
 refine Mg (d:=17) H (fun hc H=>?_) (fun hc H=>?_)
 ·refine Zj 17 rfl ?_
  refine ZK ?_
  obtain rfl:=sj H
  exact WW (rp 46 0) (hJ ())
 refine Zc (ZQ 0 underlying26 MS) ?_
 refine Zc (Z8 rfl (.o 0) rfl isAgg4) ?_
 refine Zj 2 rfl ?_
 refine Mg (d:=21) H (fun hc H=>?_) (fun hc H=>?_)
 ·refine Zj 13 rfl ?_
  refine ZK ?_
  obtain rfl:=sj H
  exact WW (rp 46 0) (hJ ())
 refine Zc (ZO rfl) ?_
 refine Zc (Zf rfl underlying9) ?_
 refine Zc (ZT SN) ?_
 refine Zj 2 rfl ?_
 refine Td (d:=26) H (fun hc H=>?_) (fun hc H=>?_)
 ·refine Zj 8 rfl ?_
  refine ZK ?_
  obtain rfl:=sj H
  exact WW (rp 46 0) (hJ ())
 refine Zc (ZO rfl) ?_
 refine Zc (Zf rfl underlying9) ?_
 refine Zc (ZT SN) ?_
 refine Zj 2 rfl ?_
 refine Td (d:=31) H (fun hc H=>?_) (fun hc H=>?_)
 ·refine Zj 3 rfl ?_
  refine ZK ?_
  obtain rfl:=sj H
  exact WW (rp 46 0) (hJ ())
 refine Zc (ZO rfl) ?_
 refine Zc (Zg rfl rfl (fun w=>L6 w share ([]:Str))) ?_
 refine FE ?_
 refine ZK ?_
 obtain rfl:=sj H
 exact WW (rp 46 0) (hJ ())
def Uy (x least most:Int):Option (Bool) :=
 if least≤x then (X5 (decide (x≤most)) fun x1=>(some x1)) else (some false)
theorem Vn {x:Int} {least:Int} {most:Int} {r:Bool} (H:Uy x least most=some r) :
  Does Tryz.prog 46 [vi x,vi least,vi most] [] [] (Γ:=Unit) (fun g=>vb r) (fun g=>[]):=by
 intro w hmem hro hd
 refine Zn func46 rfl ntmps46 rfl hmem hro hd ?_
 unfold Uy at H
 refine Z_ (Y2 ?_)
 refine Z6 (Z_ (Zj 2 rfl ?_))
 refine ZV (ZT LD) ?_
 refine YP ?_
 refine Td (d:=10) H (fun hc H=>?_) (fun hc H=>?_)
 ·refine Zj 2 rfl ?_
  refine Zc (ZT RH) ?_
  refine Zj 2 rfl ?_
  have ⟨x1,TK,H⟩:=ZX H
  refine WN 6 (congrArg vb TK) ?_
  refine Zq ?_
  obtain rfl:=sj H
  exact Wj
 refine Zj 5 rfl ?_
 refine Zq ?_
 obtain rfl:=sj H
 exact Wj
def Yb.b0 (s_:List (Int)) (v s0:Int):Option ((Int) ⊕ ((Unit) ⊕ (Int))) :=
 if s0<((s_).length:Int) then (if 0≤s0∧s0<((s_).length:Int) then (if v=(lg s_ ((s0).toNat)) then (some (.inr (.inr s0))) else (some (.inl (ZJ (s0+1))))) else none) else (some (.inr (.inl ())))
def Yb (s_:List (Int)) (v:Int):Option (Int) :=
 (loop (Yb.b0 s_ v) BIG 0).bind fun Yw=>(match Yw with | .inl Yw=>(some (-1)) | .inr rv=>some rv)
theorem oU {As_:Y6} {cs_:Nat} {s_:List (Int)} {v:Int} (FN:(s_).length≤cs_) {r:Int} (H:Yb s_ v=some r) :
  Does Tryz.prog 83 [sl As_ ((s_).length) cs_,vi v] [] [⟨As_,eI s_⟩] (Γ:=Unit) (fun g=>vi r) (fun g=>[]):=by
 intro w hmem hro hd
 refine Zn func83 rfl ntmps83 rfl hmem hro hd ?_
 unfold Yb at H
 refine Z_ (Y2 ?_)
 refine Z6 (ZY (Z_ (YP ?_)))
 refine ZV (ZG rfl underlying22) ?_
 refine YP ?_
 refine Z6 (ZP ?_)
 have ⟨Yw,Hl,H⟩:=Z9 H
 refine Wz [0,1,7,8] [] rfl rfl ?_
 refine U0 (id:=0) (body:=(Yb.b0 s_ v)) (σ:=Int) (Γ:=Unit) (Γx:=Unit) (fun s0 WG=>[(0,sl As_ ((s_).length) cs_),(1,vi v),(7,vi ((s_).length:Int)),(8,vi s0)]) (fun s0 WG=>[]) (fun t g=>[]) (fun t g=>[]) r ?_ BIG 0 () Yw Hl ?_
 ·intro s0 WG r1 H K hK hE MK
  unfold Yb.b0 at H
  refine Z_ (ZV (ZT WV) ?_)
  refine Z6 (ZY (UK H (fun hc H=>?_) (fun hc H=>?_)))
  ·refine ZN (Z7 (ZY (ZP (Z_ (Zj 2 rfl ?_)))))
   refine Z6 (Z_ (Zj 3 rfl ?_))
   have ⟨h1,H⟩:=Z4 H
   refine ZV (YK (i:=s0) rfl rfl underlying22 YM rfl (.r 0) (Uf (tl h1)) h1.1 h1.2 (k:=(s0).toNat) (JZ _)) ?_
   refine ZV (Z8 rfl (.r 0) (UL (f:=vi) (l:=s_) (tl h1)) isAgg3) ?_
   refine ZV (ZT Xr) ?_
   refine Z6 (UK H (fun hc H=>?_) (fun hc H=>?_))
   ·refine Z_ (Zj 2 rfl ?_)
    refine Zq (ZE (ZZ (ZZ (ZE (ZZ ?_)))))
    have M3:=(MK _ (Option.some.inj H).symm)
    subst M3
    exact Wj
   refine ZN (ZW (Z7 (ZH (ZV (ZT XN) ?_))))
   refine YP ?_
   refine ZK ?_
   obtain rfl:=sj H
   exact Ri [] (hK (ZJ (s0+1)) rfl ())
  refine YW (Z0 (Z0 ?_))
  obtain rfl:=sj H
  exact WW [] (hE () rfl ())
 rcases Yw with Yw | rv
 ·intro Fe
  dsimp only at H
  refine ZL (Z7 (Z_ (Y2 ?_)))
  refine Zq ?_
  obtain rfl:=sj H
  exact Wj
 exact (Option.some.inj H)
def Yi (s_:List (Int)) (v:Int):Option (Bool) :=
 (Yb s_ v).bind fun Zu=>(X5 (decide (0≤Zu)) fun x1=>(some x1))
theorem Sw {As_:Y6} {cs_:Nat} {s_:List (Int)} {v:Int} (FN:(s_).length≤cs_) {r:Bool} (H:Yi s_ v=some r) :
  Does Tryz.prog 62 [sl As_ ((s_).length) cs_,vi v] [] [⟨As_,eI s_⟩] (Γ:=Unit) (fun g=>vb r) (fun g=>[]):=by
 intro w hmem hro hd
 refine Zn func62 rfl ntmps62 rfl hmem hro hd ?_
 unfold Yi at H
 refine Z_ (Y2 ?_)
 refine Z6 (Z_ (Zj 2 rfl ?_))
 have ⟨Zu,Yk,H⟩:=Z9 H
 refine YE (Y4 (oU FN Yk :) call83 ⟨.r 0,trivial⟩) (fun Re=>?_)
 refine ZV (ZT LD) ?_
 refine Y2 ?_
 have ⟨x1,TK,H⟩:=ZX H
 refine WN 4 (congrArg vb TK) ?_
 refine Zq ?_
 obtain rfl:=sj H
 exact Wj
def Nj (x:Int):Option (Bool) :=
 (OU x).bind fun Zu=>(X5 (decide (Zu.2.2=0)) fun x1=>(some x1))
theorem qM {x:Int} {r:Bool} (H:Nj x=some r) :
  Does Tryz.prog 44 [vi x] [] [] (Γ:=Unit) (fun g=>vb r) (fun g=>[]):=by
 intro w hmem hro hd
 refine Zn func44 rfl ntmps44 rfl hmem hro hd ?_
 unfold Nj at H
 refine Z_ (Y2 ?_)
 refine Z6 (Z_ (YP ?_))
 have ⟨Zu,Yk,H⟩:=Z9 H
 refine YE (Y4 (Gh Yk :) call70 .z) (fun Re=>?_)
 refine Zj 7 rfl ?_
 refine Z6 (Z_ (YP ?_))
 refine ZV (ZT Xr) ?_
 refine Y2 ?_
 have ⟨x1,TK,H⟩:=ZX H
 refine WN 2 (congrArg vb TK) ?_
 refine Zq ?_
 obtain rfl:=sj H
 exact Wj
def Nf (x:Int):Option (Bool) :=
 if x=29 then (some true) else (X5 (decide (x=23)) fun x1=>(some x1))
theorem oL {x:Int} {r:Bool} (H:Nf x=some r) :
  Does Tryz.prog 45 [vi x] [] [] (Γ:=Unit) (fun g=>vb r) (fun g=>[]):=by
 intro w hmem hro hd
 refine Zn func45 rfl ntmps45 rfl hmem hro hd ?_
 unfold Nf at H
 refine Z_ (Y2 ?_)
 refine Z6 (Z_ (YP ?_))
 refine ZV (ZT Xr) ?_
 refine YP ?_
 refine Td (d:=5) H (fun hc H=>?_) (fun hc H=>?_)
 ·refine Zj 4 rfl ?_
  refine Zq ?_
  obtain rfl:=sj H
  exact Wj
 refine Zc (ZO rfl) ?_
 refine Zc (ZT Xr) ?_
 refine Zj 2 rfl ?_
 have ⟨x1,TK,H⟩:=ZX H
 refine WN 2 (congrArg vb TK) ?_
 refine Zq ?_
 obtain rfl:=sj H
 exact Wj
def V_.b0 (xs:List (Int)) (s0:Int):Option ((Int) ⊕ ((Unit) ⊕ (Bool))) :=
 if s0<((xs).length:Int) then (if 0≤s0∧s0<((xs).length:Int) then (X5 (lg xs ((s0).toNat)) fun x1=>((Nj x1).bind fun YJ=>((if (!YJ)=true then (some true) else (if 0≤s0 then (if (s0).toNat≤(xs).length then (if (s0).toNat≤(xs).length then (if (s0).toNat≤(xs).length then ((Yi (PH xs 0 ((s0).toNat)) x1).bind fun X7=>(some X7)) else none) else none) else none) else none)).bind fun j1=>(if j1=true then (some (.inr (.inr false))) else (some (.inl (ZJ (s0+1)))))))) else none) else (some (.inr (.inl ())))
def V_ (xs:List (Int)) (most:Int):Option (Bool) :=
 (Uy ((xs).length:Int) 1 most).bind fun Zu=>(if (!Zu)=true then (some false) else ((loop (V_.b0 xs) BIG 0).bind fun Yw=>(match Yw with | .inl Yw=>(some true) | .inr rv=>some rv)))
def Wd.b0 (xs:List (Int)) (s0:Int):Option ((Int) ⊕ ((Unit) ⊕ (Bool))) :=
 if s0<((xs).length:Int) then (if 0≤s0∧s0<((xs).length:Int) then (X5 (lg xs ((s0).toNat)) fun x1=>((Nf x1).bind fun YJ=>((if (!YJ)=true then (some true) else (if 0≤s0 then (if (s0).toNat≤(xs).length then (if (s0).toNat≤(xs).length then (if (s0).toNat≤(xs).length then ((Yi (PH xs 0 ((s0).toNat)) x1).bind fun X7=>(some X7)) else none) else none) else none) else none)).bind fun j1=>(if j1=true then (some (.inr (.inr false))) else (some (.inl (ZJ (s0+1)))))))) else none) else (some (.inr (.inl ())))
def Wd (xs:List (Int)) (most:Int):Option (Bool) :=
 (Uy ((xs).length:Int) 1 most).bind fun Zu=>(if (!Zu)=true then (some false) else ((loop (Wd.b0 xs) BIG 0).bind fun Yw=>(match Yw with | .inl Yw=>(some true) | .inr rv=>some rv)))
theorem FV {Axs:Y6} {cxs:Nat} {xs:List (Int)} {most:Int} (Gf:(xs).length≤cxs) {r:Bool} (H:V_ xs most=some r) :
  Does Tryz.prog 43 [sl Axs ((xs).length) cxs,vi most,Value.func (.func 44) #[] #[]] [] [⟨Axs,eI xs⟩] (Γ:=Unit) (fun g=>vb r) (fun g=>[]):=by
 intro w hmem hro hd
 refine Zn func43 rfl ntmps43 rfl hmem hro hd ?_
 unfold V_ at H
 refine Z_ (Y2 ?_)
 refine Z6 (ZY (Z_ (YP ?_)))
 refine ZV (ZG rfl underlying22) ?_
 refine YP ?_
 have ⟨Zu,Yk,H⟩:=Z9 H
 refine YE (Y4 (Vn Yk :) call46 .z) (fun Re=>?_)
 refine ZV (UF T_) ?_
 refine Z6 (Sn H (fun hc H=>?_) (fun hc H=>?_))
 ·refine Z_ (Y2 ?_)
  refine Zq (ZZ ?_)
  obtain rfl:=sj H
  exact Wj
 refine ZN (Z7 (ZY (Z_ (YP ?_))))
 refine ZV (ZG rfl underlying22) ?_
 refine YP ?_
 refine Z6 (ZP ?_)
 have ⟨Yw,Hl,H⟩:=Z9 H
 refine Wz [0,2,14,15,16] [] rfl rfl ?_
 refine U0 (id:=0) (body:=(V_.b0 xs)) (σ:=Int) (Γ:=Unit) (Γx:=Unit) (fun s0 WG=>[(0,sl Axs ((xs).length) cxs),(2,Value.func (.func 44) #[] #[]),(14,sl Axs ((xs).length) cxs),(15,vi ((xs).length:Int)),(16,vi s0)]) (fun s0 WG=>[]) (fun t g=>[]) (fun t g=>[]) r ?_ BIG 0 () Yw Hl ?_
 ·intro s0 WG r1 H K hK hE MK
  unfold V_.b0 at H
  refine Z_ (ZV (ZT WV) ?_)
  refine Z6 (ZY (UK H (fun hc H=>?_) (fun hc H=>?_)))
  ·refine ZN (Z7 (ZY (ZP (Z_ (YP ?_)))))
   have ⟨h1,H⟩:=Z4 H
   refine ZV (YK (i:=s0) rfl rfl underlying22 YM rfl (.r 0) (Uf (tl h1)) h1.1 h1.2 (k:=(s0).toNat) (JZ _)) ?_
   refine ZV (Z8 rfl (.r 0) (UL (f:=vi) (l:=xs) (tl h1)) isAgg3) ?_
   refine Zj 2 rfl ?_
   have ⟨x1,TK,H⟩:=ZX H
   refine WN 8 (congrArg vi TK) ?_
   refine Z6 (Z_ (Zj 2 rfl ?_))
   have ⟨YJ,X6,H⟩:=Z9 H
   refine YE (Cg (vs:=[vi x1]) (cap:=[]) (qM X6 :) call44 .z) (fun UD=>?_)
   refine ZV (UF T_) ?_
   refine YP ?_
   have ⟨j1,Hj,H⟩:=Z9 H
   refine VH (Γ:=Unit) (fun Sc=>[(0,sl Axs ((xs).length) cxs),(2,Value.func (.func 44) #[] #[]),(14,sl Axs ((xs).length) cxs),(15,vi ((xs).length:Int)),(16,vi s0),(31,vb j1)]) (fun Sc=>[]) ?_ ?_
   ·intro Sc
    refine Z7 (Sn H (fun hc H=>?_) (fun hc H=>?_))
    ·refine Z_ (Y2 ?_)
     refine Zq (ZE (ZZ (ZZ (ZE (ZZ ?_)))))
     have M3:=(MK _ (Option.some.inj H).symm)
     subst M3
     exact Wj
    refine ZN (ZW (Z7 (ZH (ZV (ZT XN) ?_))))
    refine YP ?_
    refine ZK ?_
    obtain rfl:=sj H
    exact Ri [] (hK (ZJ (s0+1)) rfl ())
   intro hJ
   replace H:=Hj
   refine Mg (d:=25) H (fun hc H=>?_) (fun hc H=>?_)
   ·refine Zj 6 rfl ?_
    refine ZK ?_
    obtain rfl:=sj H
    exact WW [] (hJ ())
   refine Zj 2 rfl ?_
   have ⟨h2,H⟩:=Z4 H
   have ⟨h3,H⟩:=Z4 H
   refine Zc (KE (l:=0) (h:=(s0).toNat) rfl underlying22 YM rfl OZ.none' (OZ.some' (i:=s0) rfl h2) (Nat.zero_le _) (Nat.le_trans h3 Gf)) ?_
   refine Zc (ZO rfl) ?_
   have ⟨h4,H⟩:=Z4 H
   have ⟨h5,H⟩:=Z4 H
   refine WN 28 (congrArg (fun n=>sl (R5 Axs cxs 0 0 1) n (cxs - 0)) (TP h5).symm) ?_
   have ⟨X7,Vt,H⟩:=Z9 H
   refine JQ (Y4 (Sw (EW h4 (Nat.le_trans h3 Gf)) Vt :) call62 ⟨(Ap (f:=vi) (Db:=xs) (QH.ro (j:=0) rfl) (Nat.le_trans h3 Gf)),trivial⟩) (fun Pm=>?_)
   refine WN 28 (congrArg (fun n=>sl (R5 Axs cxs 0 0 1) n (cxs - 0)) (TP h5)) ?_
   refine FE ?_
   refine ZK ?_
   obtain rfl:=sj H
   exact WW [] (hJ ())
  refine YW (Z0 (Z0 ?_))
  obtain rfl:=sj H
  exact WW [] (hE () rfl ())
 rcases Yw with Yw | rv
 ·intro Fe
  dsimp only at H
  refine ZL (Z7 (Z_ (Y2 ?_)))
  refine Zq ?_
  obtain rfl:=sj H
  exact Wj
 exact (Option.some.inj H)
theorem Gj {Axs:Y6} {cxs:Nat} {xs:List (Int)} {most:Int} (Gf:(xs).length≤cxs) {r:Bool} (H:Wd xs most=some r) :
  Does Tryz.prog 43 [sl Axs ((xs).length) cxs,vi most,Value.func (.func 45) #[] #[]] [] [⟨Axs,eI xs⟩] (Γ:=Unit) (fun g=>vb r) (fun g=>[]):=by
 intro w hmem hro hd
 refine Zn func43 rfl ntmps43 rfl hmem hro hd ?_
 unfold Wd at H
 refine Z_ (Y2 ?_)
 refine Z6 (ZY (Z_ (YP ?_)))
 refine ZV (ZG rfl underlying22) ?_
 refine YP ?_
 have ⟨Zu,Yk,H⟩:=Z9 H
 refine YE (Y4 (Vn Yk :) call46 .z) (fun Re=>?_)
 refine ZV (UF T_) ?_
 refine Z6 (Sn H (fun hc H=>?_) (fun hc H=>?_))
 ·refine Z_ (Y2 ?_)
  refine Zq (ZZ ?_)
  obtain rfl:=sj H
  exact Wj
 refine ZN (Z7 (ZY (Z_ (YP ?_))))
 refine ZV (ZG rfl underlying22) ?_
 refine YP ?_
 refine Z6 (ZP ?_)
 have ⟨Yw,Hl,H⟩:=Z9 H
 refine Wz [0,2,14,15,16] [] rfl rfl ?_
 refine U0 (id:=0) (body:=(Wd.b0 xs)) (σ:=Int) (Γ:=Unit) (Γx:=Unit) (fun s0 WG=>[(0,sl Axs ((xs).length) cxs),(2,Value.func (.func 45) #[] #[]),(14,sl Axs ((xs).length) cxs),(15,vi ((xs).length:Int)),(16,vi s0)]) (fun s0 WG=>[]) (fun t g=>[]) (fun t g=>[]) r ?_ BIG 0 () Yw Hl ?_
 ·intro s0 WG r1 H K hK hE MK
  unfold Wd.b0 at H
  refine Z_ (ZV (ZT WV) ?_)
  refine Z6 (ZY (UK H (fun hc H=>?_) (fun hc H=>?_)))
  ·refine ZN (Z7 (ZY (ZP (Z_ (YP ?_)))))
   have ⟨h1,H⟩:=Z4 H
   refine ZV (YK (i:=s0) rfl rfl underlying22 YM rfl (.r 0) (Uf (tl h1)) h1.1 h1.2 (k:=(s0).toNat) (JZ _)) ?_
   refine ZV (Z8 rfl (.r 0) (UL (f:=vi) (l:=xs) (tl h1)) isAgg3) ?_
   refine Zj 2 rfl ?_
   have ⟨x1,TK,H⟩:=ZX H
   refine WN 8 (congrArg vi TK) ?_
   refine Z6 (Z_ (Zj 2 rfl ?_))
   have ⟨YJ,X6,H⟩:=Z9 H
   refine YE (Cg (vs:=[vi x1]) (cap:=[]) (oL X6 :) call45 .z) (fun UD=>?_)
   refine ZV (UF T_) ?_
   refine YP ?_
   have ⟨j1,Hj,H⟩:=Z9 H
   refine VH (Γ:=Unit) (fun Sc=>[(0,sl Axs ((xs).length) cxs),(2,Value.func (.func 45) #[] #[]),(14,sl Axs ((xs).length) cxs),(15,vi ((xs).length:Int)),(16,vi s0),(31,vb j1)]) (fun Sc=>[]) ?_ ?_
   ·intro Sc
    refine Z7 (Sn H (fun hc H=>?_) (fun hc H=>?_))
    ·refine Z_ (Y2 ?_)
     refine Zq (ZE (ZZ (ZZ (ZE (ZZ ?_)))))
     have M3:=(MK _ (Option.some.inj H).symm)
     subst M3
     exact Wj
    refine ZN (ZW (Z7 (ZH (ZV (ZT XN) ?_))))
    refine YP ?_
    refine ZK ?_
    obtain rfl:=sj H
    exact Ri [] (hK (ZJ (s0+1)) rfl ())
   intro hJ
   replace H:=Hj
   refine Mg (d:=25) H (fun hc H=>?_) (fun hc H=>?_)
   ·refine Zj 6 rfl ?_
    refine ZK ?_
    obtain rfl:=sj H
    exact WW [] (hJ ())
   refine Zj 2 rfl ?_
   have ⟨h2,H⟩:=Z4 H
   have ⟨h3,H⟩:=Z4 H
   refine Zc (KE (l:=0) (h:=(s0).toNat) rfl underlying22 YM rfl OZ.none' (OZ.some' (i:=s0) rfl h2) (Nat.zero_le _) (Nat.le_trans h3 Gf)) ?_
   refine Zc (ZO rfl) ?_
   have ⟨h4,H⟩:=Z4 H
   have ⟨h5,H⟩:=Z4 H
   refine WN 28 (congrArg (fun n=>sl (R5 Axs cxs 0 0 1) n (cxs - 0)) (TP h5).symm) ?_
   have ⟨X7,Vt,H⟩:=Z9 H
   refine JQ (Y4 (Sw (EW h4 (Nat.le_trans h3 Gf)) Vt :) call62 ⟨(Ap (f:=vi) (Db:=xs) (QH.ro (j:=0) rfl) (Nat.le_trans h3 Gf)),trivial⟩) (fun Pm=>?_)
   refine WN 28 (congrArg (fun n=>sl (R5 Axs cxs 0 0 1) n (cxs - 0)) (TP h5)) ?_
   refine FE ?_
   refine ZK ?_
   obtain rfl:=sj H
   exact WW [] (hJ ())
  refine YW (Z0 (Z0 ?_))
  obtain rfl:=sj H
  exact WW [] (hE () rfl ())
 rcases Yw with Yw | rv
 ·intro Fe
  dsimp only at H
  refine ZL (Z7 (Z_ (Y2 ?_)))
  refine Zq ?_
  obtain rfl:=sj H
  exact Wj
 exact (Option.some.inj H)
end Go.Proofs
end

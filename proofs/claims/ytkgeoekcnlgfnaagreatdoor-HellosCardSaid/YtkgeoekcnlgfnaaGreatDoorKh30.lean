/-
  Part 30 of the proof of what several laws share.
-/
import Derived.Test.YtkgeoekcnlgfnaaGreatDoorKh22
import Derived.Test.YtkgeoekcnlgfnaaGreatDoorKh29
set_option maxHeartbeats 4000000
set_option maxRecDepth 20000
set_option linter.unusedVariables false
set_option linter.unusedSimpArgs false
section
namespace Go.Proofs
open Go Go.Kx
open TryzI Tryz
def SQ (Zm:Bool) (ZI ZR:List (Int)) (Zx:List (Str)) (Yp:Str) (Zr:List (Str)) (Zb:Str) (ZC:Int) (Y5:Str) (ZB:List (Str × Str × Int × Int × Int × Int)) (YN:Str) (Zk Ye:Int) (Zd YO WF:Int) (X9 Yu:Str) (Yz:List (Int)) (Wx:Str) (Za YI:List (Int)) (YX Yj:List (Int)) (Y_:List (Int × Str)) (Zv:List (Str × Int)) (YS:List (Str)) (Vl:Int) (Yy:List (Int)) (Yf:List (Str)) (X8:Int) (Wv:Str) (Ww Vm:Int) (XD:Str) (X_:Int) (again:Bool) (group:Int):Option (Int × Int × Str × Bool × Bool × Int) :=
 (X0 ZI Yz).bind fun Zu=>((X0 ZR YI).bind fun YJ=>((Ty Zm ZI ZR Zx Yp Zr Zb ZC Y5 ZB YN Zk Ye Zd YO).bind fun X7=>((if (!X7)=true then (some true) else (if (!Zm)=true then (some true) else (X5 (decide (WF ≠ 1)) fun x6=>(some x6)))).bind fun j1=>(if j1=true then ((XQ 40).bind fun Xu=>(some (0,0,([]:Str),false,false,Xu))) else ((Yh Za 772).bind fun UC=>(if (!UC)=true then ((XQ 70).bind fun MV=>(some (0,0,([]:Str),false,false,MV))) else (X5 (decide (Zu<0)) fun x1=>(if x1=true then ((XQ 40).bind fun JM=>(some (0,0,([]:Str),false,false,JM))) else ((if ((YI).length:Int)=0 then (some true) else (X5 (decide (((Y_).length:Int)=0)) fun x5=>(some x5))).bind fun j2=>(if j2=true then ((XQ 109).bind fun JY=>(some (0,0,([]:Str),false,false,JY))) else (X5 (decide (YJ<0)) fun x2=>(if x2=true then ((XQ 40).bind fun xG=>(some (0,0,([]:Str),false,false,xG))) else ((XG WF X9 Yu Yz Wx Za YI YX Yj Y_ Zv YS Vl Yy Yf X8 Wv Ww Vm XD X_).bind fun IJ=>((if IJ=true then (some true) else (if again=true then (if ((Y_).length:Int) ≠ 1 then (some true) else (if 0≤(0:Int)∧(0:Int)<((Y_).length:Int) then (X5 (decide (((lg Y_ 0).1) ≠ group)) fun x4=>(some x4)) else none)) else (some false))).bind fun j3=>(if j3=true then ((XQ 47).bind fun rz=>(some (0,0,([]:Str),false,false,rz))) else ((if again=true then (some group) else (some YJ)).bind fun j4=>((Xh WF X9 Yu Yz Wx Za YI YX Yj Y_ Zv YS Vl Yy Yf X8 Wv Ww Vm XD X_ j4).bind fun FU=>(if FU.2=0 then (some (Zu,j4,([]:Str),true,false,(-1))) else ((if 0<((Zv).length:Int) then (some (decide (((Yj).length:Int)=0))) else (some false)).bind fun j5=>(if j5=true then ((XQ 109).bind fun IG=>(some (0,0,([]:Str),false,false,IG))) else ((Uw Zm ZI ZR Zx Yp Zr Zb ZC Y5 ZB YN Zk Ye Zd YO WF X9 Yu Yz Wx Za YI YX Yj Y_ Zv YS Vl Yy Yf X8 Wv Ww Vm XD X_ Zu).bind fun Ff=>(if Ff=true then (some (Zu,j4,FU.1,false,Ff,(-1))) else (X5 (decide (((YX).length:Int)=0)) fun x3=>(if x3=true then ((XQ 109).bind fun vI=>(some (0,0,([]:Str),false,false,vI))) else ((Yh YX 1027).bind fun gH=>(if (!gH)=true then ((XQ 40).bind fun jk=>(some (0,0,([]:Str),false,false,jk))) else (some (Zu,j4,FU.1,false,Ff,(-1)))))))))))))))))))))))))))))
theorem qR {YZ:Y6} {Y0:Nat} {Y1:Y6} {YY:Nat} {YC:Y6} {YH:Nat} {YG:Y6} {YF:Nat} {XR:Y6} {XP:Nat} {WP:Y6} {WO:Nat} {XV:Y6} {XU:Nat} {WS:Y6} {WQ:Nat} {Xy:Y6} {Xx:Nat} {VU:Y6} {VW:Nat} {WT:Y6} {WR:Nat} {Yl:Y6} {Ym:Nat} {Xw:Y6} {Xz:Nat} {WU:Y6} {WM:Nat} {VV:Y6} {VX:Nat} {Zm:Bool} {ZI:List (Int)} {ZR:List (Int)} {Zx:List (Str)} {Yp:Str} {Zr:List (Str)} {Zb:Str} {ZC:Int} {Y5:Str} {ZB:List (Str × Str × Int × Int × Int × Int)} {YN:Str} {Zk:Int} {Ye:Int} {Zd:Int} {YO:Int} {WF:Int} {X9:Str} {Yu:Str} {Yz:List (Int)} {Wx:Str} {Za:List (Int)} {YI:List (Int)} {YX:List (Int)} {Yj:List (Int)} {Y_:List (Int × Str)} {Zv:List (Str × Int)} {YS:List (Str)} {Vl:Int} {Yy:List (Int)} {Yf:List (Str)} {X8:Int} {Wv:Str} {Ww:Int} {Vm:Int} {XD:Str} {X_:Int} {again:Bool} {group:Int} (YV:(ZI).length≤Y0) (YD:(ZR).length≤YY) (Y8:(Zx).length≤YH) (Yq:(Zr).length≤YF) (Xk:(ZB).length≤XP) (W9:(Yz).length≤WO) (XW:(Za).length≤XU) (Xd:(YI).length≤WQ) (XA:(YX).length≤Xx) (Ws:(Yj).length≤VW) (WJ:(Y_).length≤WR) (Yd:(Zv).length≤Ym) (Xq:(YS).length≤Xz) (WL:(Yy).length≤WM) (V6:(Yf).length≤VX) {r:Int × Int × Str × Bool × Bool × Int} (H:SQ Zm ZI ZR Zx Yp Zr Zb ZC Y5 ZB YN Zk Ye Zd YO WF X9 Yu Yz Wx Za YI YX Yj Y_ Zv YS Vl Yy Yf X8 Wv Ww Vm XD X_ again group=some r) :
  Does Tryz.prog 13 [aG [(1,[vb Zm]),(1,[sl YZ ((ZI).length) Y0]),(1,[sl Y1 ((ZR).length) YY]),(1,[sl YC ((Zx).length) YH]),(1,[vs Yp]),(1,[sl YG ((Zr).length) YF]),(1,[vs Zb]),(1,[vi ZC]),(1,[vs Y5]),(1,[sl XR ((ZB).length) XP]),(1,[vs YN]),(1,[vi Zk]),(1,[vi Ye]),(1,[vi Zd]),(1,[vi YO])],aG [(1,[vi WF]),(1,[vs X9]),(1,[vs Yu]),(1,[sl WP ((Yz).length) WO]),(1,[vs Wx]),(1,[sl XV ((Za).length) XU]),(1,[sl WS ((YI).length) WQ]),(1,[sl Xy ((YX).length) Xx]),(1,[sl VU ((Yj).length) VW]),(1,[sl WT ((Y_).length) WR]),(1,[sl Yl ((Zv).length) Ym]),(1,[sl Xw ((YS).length) Xz]),(1,[vi Vl]),(1,[sl WU ((Yy).length) WM]),(1,[sl VV ((Yf).length) VX]),(1,[vi X8]),(1,[vs Wv]),(1,[vi Ww]),(1,[vi Vm]),(1,[vs XD]),(1,[vi X_])],vb again,vi group] [] [⟨YZ,eI ZI⟩,⟨Y1,eI ZR⟩,⟨YC,eS Zx⟩,⟨YG,eS Zr⟩,⟨XR,eF (fun p:Str × Str × Int × Int × Int × Int=>[vs p.1,vs p.2.1,vi p.2.2.1,vi p.2.2.2.1,vi p.2.2.2.2.1,vi p.2.2.2.2.2]) ZB⟩,⟨WP,eI Yz⟩,⟨XV,eI Za⟩,⟨WS,eI YI⟩,⟨Xy,eI YX⟩,⟨VU,eI Yj⟩,⟨WT,eF (fun p:Int × Str=>[vi p.1,vs p.2]) Y_⟩,⟨Yl,eF (fun p:Str × Int=>[vs p.1,vi p.2]) Zv⟩,⟨Xw,eS YS⟩,⟨WU,eI Yy⟩,⟨VV,eS Yf⟩] (Γ:=Unit) (fun g=>aG [(1,[vi r.1]),(1,[vi r.2.1]),(1,[vs r.2.2.1]),(1,[vb r.2.2.2.1]),(1,[vb r.2.2.2.2.1]),(1,[vi r.2.2.2.2.2])]) (fun g=>[]):=by
 intro w hmem hro hd
 refine Zn func13 rfl ntmps13 rfl hmem hro hd ?_
 unfold SQ at H
 refine Z_ (YE PT (fun b1=>?_))
 refine YE PT (fun b2=>?_)
 refine YE (SL XE LZ) (fun b3=>?_)
 refine Z6 (Wz [2,3,4,5,8] (rp 15 27++rp 21 6++rp 6 0) rfl rfl ?_)
 refine ZY ?_
 have ⟨Zu,Yk,H⟩:=Z9 H
 have ⟨YJ,X6,H⟩:=Z9 H
 refine U3 [] 12 rfl ?_
 refine PX 0 [] (.v 0 [] rfl rfl (ZQ 1 underlying26 XO) (.v 1 [0] rfl rfl (Z8 rfl (.o 1) rfl isAgg22) (.v 2 [] rfl rfl (ZQ 3 underlying30 XO) (.v 3 [2] rfl rfl (Z8 rfl (.o 18) rfl isAgg22) (.e 4 [3,1] rfl rfl (Qg (Cu YV W9 Yk :) call33 ⟨.r 0, .r 5,trivial⟩) (.v 5 [] rfl rfl (ZQ 2 underlying26 XO) (.v 6 [5] rfl rfl (Z8 rfl (.o 2) rfl isAgg22) (.v 7 [] rfl rfl (ZQ 6 underlying30 XO) (.v 8 [7] rfl rfl (Z8 rfl (.o 21) rfl isAgg22) (.e 9 [6,8] rfl rfl (Qg (Cu YD Xd X6 :) call33 ⟨.r 1, .r 7,trivial⟩) (.v 10 [4] rfl rfl (XL rfl) (.v 11 [9] rfl rfl (XL rfl) .nil)))))))))))) (fun γ=>?_)
 refine Qj [10,9,2,3,4,5,8] rfl rfl ?_
 refine Vi ?_
 refine Z7 (ZY (ZP (Z_ (ZV (VY [0,1,2,3,4,5,6,7,8,9,10,11,12,13,14] rfl rfl isAgg26 We) ?_))))
 have ⟨X7,Vt,H⟩:=Z9 H
 refine YE (Y4 (Ox YV YD Y8 Yq Xk Vt :) call17 ⟨.r 0, .r 1, .r 2, .r 3, .r 4,trivial⟩) (fun Pm=>?_)
 refine ZV (UF T_) ?_
 refine YP ?_
 have ⟨j1,Hj,H⟩:=Z9 H
 refine VH (Γ:=Unit) (fun Sc=>[(2,vb again),(3,vi group),(4,ptr (some (b1,0)) 0),(5,ptr (some (b2,0)) 0),(8,ptr (some (b3,0)) 0),(9,vi Zu),(10,vi YJ),(24,vb j1)]) (fun Sc=>[⟨some (b1,0),[vb Zm]⟩,⟨some (b1,1),[sl YZ ((ZI).length) Y0]⟩,⟨some (b1,2),[sl Y1 ((ZR).length) YY]⟩,⟨some (b1,3),[sl YC ((Zx).length) YH]⟩,⟨some (b1,4),[vs Yp]⟩,⟨some (b1,5),[sl YG ((Zr).length) YF]⟩,⟨some (b1,6),[vs Zb]⟩,⟨some (b1,7),[vi ZC]⟩,⟨some (b1,8),[vs Y5]⟩,⟨some (b1,9),[sl XR ((ZB).length) XP]⟩,⟨some (b1,10),[vs YN]⟩,⟨some (b1,11),[vi Zk]⟩,⟨some (b1,12),[vi Ye]⟩,⟨some (b1,13),[vi Zd]⟩,⟨some (b1,14),[vi YO]⟩,⟨some (b2,0),[vi WF]⟩,⟨some (b2,1),[vs X9]⟩,⟨some (b2,2),[vs Yu]⟩,⟨some (b2,3),[sl WP ((Yz).length) WO]⟩,⟨some (b2,4),[vs Wx]⟩,⟨some (b2,5),[sl XV ((Za).length) XU]⟩,⟨some (b2,6),[sl WS ((YI).length) WQ]⟩,⟨some (b2,7),[sl Xy ((YX).length) Xx]⟩,⟨some (b2,8),[sl VU ((Yj).length) VW]⟩,⟨some (b2,9),[sl WT ((Y_).length) WR]⟩,⟨some (b2,10),[sl Yl ((Zv).length) Ym]⟩,⟨some (b2,11),[sl Xw ((YS).length) Xz]⟩,⟨some (b2,12),[vi Vl]⟩,⟨some (b2,13),[sl WU ((Yy).length) WM]⟩,⟨some (b2,14),[sl VV ((Yf).length) VX]⟩,⟨some (b2,15),[vi X8]⟩,⟨some (b2,16),[vs Wv]⟩,⟨some (b2,17),[vi Ww]⟩,⟨some (b2,18),[vi Vm]⟩,⟨some (b2,19),[vs XD]⟩,⟨some (b2,20),[vi X_]⟩,⟨some (b3,0),[vi 0]⟩,⟨some (b3,1),[vi 0]⟩,⟨some (b3,2),[vs ([]:Str)]⟩,⟨some (b3,3),[vb false]⟩,⟨some (b3,4),[vb false]⟩,⟨some (b3,5),[vi 0]⟩]) ?_ ?_
 ·intro Sc
  refine Z7 (Sn H (fun hc H=>?_) (fun hc H=>?_))
  ·refine Z_ ?_
   have ⟨Xu,UH,H⟩:=Z9 H
   refine YE (Y4 (PG UH :) call34 .z) (fun JV=>?_)
   refine VM (VZ [36,36,36,36,36,36] rfl rfl XE) (fun _=>?_)
   refine Z6 (Wz [8] [0,0,0,0,0,0] rfl rfl ?_)
   refine Y7 (ZE (ZZ ?_))
   obtain rfl:=sj H
   exact SF (vs:=[_]) rfl ⟨(Wp [0,1,2,3,4,5] rfl rfl isAgg34 XE),trivial⟩
  refine Z_ (ZV (ZQ 5 underlying30 XO) ?_)
  refine ZV (Z8 rfl (.o 20) rfl isAgg22) ?_
  have ⟨UC,Qi,H⟩:=Z9 H
  refine YE (Y4 (PI XW Qi :) call35 ⟨.r 6,trivial⟩) (fun zM=>?_)
  refine ZV (UF T_) ?_
  refine Y2 ?_
  refine Z6 (Sn H (fun hc H=>?_) (fun hc H=>?_))
  ·refine Z_ ?_
   have ⟨MV,KG,H⟩:=Z9 H
   refine YE (Y4 (PG KG :) call34 .z) (fun jV=>?_)
   refine VM (VZ [36,36,36,36,36,36] rfl rfl XE) (fun _=>?_)
   refine Z6 (Wz [8] [0,0,0,0,0,0] rfl rfl ?_)
   refine Y7 (ZE (ZZ ?_))
   obtain rfl:=sj H
   exact SF (vs:=[_]) rfl ⟨(Wp [0,1,2,3,4,5] rfl rfl isAgg34 XE),trivial⟩
  refine Z_ (YP ?_)
  refine ZV (ZT WV) ?_
  refine Y2 ?_
  have ⟨x1,TK,H⟩:=ZX H
  refine WN 45 (congrArg vb TK) ?_
  refine Z6 (Sn H (fun hc H=>?_) (fun hc H=>?_))
  ·refine Z_ ?_
   have ⟨JM,L_,H⟩:=Z9 H
   refine YE (Y4 (PG L_ :) call34 .z) (fun rE=>?_)
   refine VM (VZ [36,36,36,36,36,36] rfl rfl XE) (fun _=>?_)
   refine Z6 (Wz [8] [0,0,0,0,0,0] rfl rfl ?_)
   refine Y7 (ZE (ZZ ?_))
   obtain rfl:=sj H
   exact SF (vs:=[_]) rfl ⟨(Wp [0,1,2,3,4,5] rfl rfl isAgg34 XE),trivial⟩
  refine Z_ (ZV (ZQ 6 underlying30 XO) ?_)
  refine ZV (Z8 rfl (.o 21) rfl isAgg22) ?_
  refine ZV (ZG rfl underlying22) ?_
  refine ZV (ZT Xr) ?_
  refine YP ?_
  have ⟨j2,Hj,H⟩:=Z9 H
  refine VH (Γ:=Unit) (fun sQ=>[(2,vb again),(3,vi group),(4,ptr (some (b1,0)) 0),(5,ptr (some (b2,0)) 0),(8,ptr (some (b3,0)) 0),(9,vi Zu),(10,vi YJ),(49,vb j2)]) (fun sQ=>[⟨some (b1,0),[vb Zm]⟩,⟨some (b1,1),[sl YZ ((ZI).length) Y0]⟩,⟨some (b1,2),[sl Y1 ((ZR).length) YY]⟩,⟨some (b1,3),[sl YC ((Zx).length) YH]⟩,⟨some (b1,4),[vs Yp]⟩,⟨some (b1,5),[sl YG ((Zr).length) YF]⟩,⟨some (b1,6),[vs Zb]⟩,⟨some (b1,7),[vi ZC]⟩,⟨some (b1,8),[vs Y5]⟩,⟨some (b1,9),[sl XR ((ZB).length) XP]⟩,⟨some (b1,10),[vs YN]⟩,⟨some (b1,11),[vi Zk]⟩,⟨some (b1,12),[vi Ye]⟩,⟨some (b1,13),[vi Zd]⟩,⟨some (b1,14),[vi YO]⟩,⟨some (b2,0),[vi WF]⟩,⟨some (b2,1),[vs X9]⟩,⟨some (b2,2),[vs Yu]⟩,⟨some (b2,3),[sl WP ((Yz).length) WO]⟩,⟨some (b2,4),[vs Wx]⟩,⟨some (b2,5),[sl XV ((Za).length) XU]⟩,⟨some (b2,6),[sl WS ((YI).length) WQ]⟩,⟨some (b2,7),[sl Xy ((YX).length) Xx]⟩,⟨some (b2,8),[sl VU ((Yj).length) VW]⟩,⟨some (b2,9),[sl WT ((Y_).length) WR]⟩,⟨some (b2,10),[sl Yl ((Zv).length) Ym]⟩,⟨some (b2,11),[sl Xw ((YS).length) Xz]⟩,⟨some (b2,12),[vi Vl]⟩,⟨some (b2,13),[sl WU ((Yy).length) WM]⟩,⟨some (b2,14),[sl VV ((Yf).length) VX]⟩,⟨some (b2,15),[vi X8]⟩,⟨some (b2,16),[vs Wv]⟩,⟨some (b2,17),[vi Ww]⟩,⟨some (b2,18),[vi Vm]⟩,⟨some (b2,19),[vs XD]⟩,⟨some (b2,20),[vi X_]⟩,⟨some (b3,0),[vi 0]⟩,⟨some (b3,1),[vi 0]⟩,⟨some (b3,2),[vs ([]:Str)]⟩,⟨some (b3,3),[vb false]⟩,⟨some (b3,4),[vb false]⟩,⟨some (b3,5),[vi 0]⟩]) ?_ ?_
  ·intro sQ
   refine Z7 (Sn H (fun hc H=>?_) (fun hc H=>?_))
   ·refine Z_ ?_
    have ⟨JY,JL,H⟩:=Z9 H
    refine YE (Y4 (PG JL :) call34 .z) (fun jY=>?_)
    refine VM (VZ [36,36,36,36,36,36] rfl rfl XE) (fun _=>?_)
    refine Z6 (Wz [8] [0,0,0,0,0,0] rfl rfl ?_)
    refine Y7 (ZE (ZZ ?_))
    obtain rfl:=sj H
    exact SF (vs:=[_]) rfl ⟨(Wp [0,1,2,3,4,5] rfl rfl isAgg34 XE),trivial⟩
   refine Z_ (YP ?_)
   refine ZV (ZT WV) ?_
   refine Y2 ?_
   have ⟨x2,KO,H⟩:=ZX H
   refine WN 61 (congrArg vb KO) ?_
   refine Z6 (Sn H (fun hc H=>?_) (fun hc H=>?_))
   ·refine Z_ ?_
    have ⟨xG,CP,H⟩:=Z9 H
    refine YE (Y4 (PG CP :) call34 .z) (fun g_9=>?_)
    refine VM (VZ [36,36,36,36,36,36] rfl rfl XE) (fun _=>?_)
    refine Z6 (Wz [8] [0,0,0,0,0,0] rfl rfl ?_)
    refine Y7 (ZE (ZZ ?_))
    obtain rfl:=sj H
    exact SF (vs:=[_]) rfl ⟨(Wp [0,1,2,3,4,5] rfl rfl isAgg34 XE),trivial⟩
   refine Z_ (ZV (VY [15,16,17,18,19,20,21,22,23,24,25,26,27,28,29,30,31,32,33,34,35] rfl rfl isAgg30 Xg) ?_)
   have ⟨IJ,Gx,H⟩:=Z9 H
   refine YE (Y4 (qO W9 XW Xd XA Ws WJ Yd Xq WL V6 Gx :) call36 ⟨.r 5, .r 6, .r 7, .r 8, .r 9, .r 10, .r 11, .r 12, .r 13, .r 14,trivial⟩) (fun mY=>?_)
   refine YP ?_
   have ⟨j3,Hj,H⟩:=Z9 H
   refine VH (Γ:=Unit) (fun fe=>[(2,vb again),(3,vi group),(4,ptr (some (b1,0)) 0),(5,ptr (some (b2,0)) 0),(8,ptr (some (b3,0)) 0),(9,vi Zu),(10,vi YJ),(65,vb j3)]) (fun fe=>[⟨some (b1,0),[vb Zm]⟩,⟨some (b1,1),[sl YZ ((ZI).length) Y0]⟩,⟨some (b1,2),[sl Y1 ((ZR).length) YY]⟩,⟨some (b1,3),[sl YC ((Zx).length) YH]⟩,⟨some (b1,4),[vs Yp]⟩,⟨some (b1,5),[sl YG ((Zr).length) YF]⟩,⟨some (b1,6),[vs Zb]⟩,⟨some (b1,7),[vi ZC]⟩,⟨some (b1,8),[vs Y5]⟩,⟨some (b1,9),[sl XR ((ZB).length) XP]⟩,⟨some (b1,10),[vs YN]⟩,⟨some (b1,11),[vi Zk]⟩,⟨some (b1,12),[vi Ye]⟩,⟨some (b1,13),[vi Zd]⟩,⟨some (b1,14),[vi YO]⟩,⟨some (b2,0),[vi WF]⟩,⟨some (b2,1),[vs X9]⟩,⟨some (b2,2),[vs Yu]⟩,⟨some (b2,3),[sl WP ((Yz).length) WO]⟩,⟨some (b2,4),[vs Wx]⟩,⟨some (b2,5),[sl XV ((Za).length) XU]⟩,⟨some (b2,6),[sl WS ((YI).length) WQ]⟩,⟨some (b2,7),[sl Xy ((YX).length) Xx]⟩,⟨some (b2,8),[sl VU ((Yj).length) VW]⟩,⟨some (b2,9),[sl WT ((Y_).length) WR]⟩,⟨some (b2,10),[sl Yl ((Zv).length) Ym]⟩,⟨some (b2,11),[sl Xw ((YS).length) Xz]⟩,⟨some (b2,12),[vi Vl]⟩,⟨some (b2,13),[sl WU ((Yy).length) WM]⟩,⟨some (b2,14),[sl VV ((Yf).length) VX]⟩,⟨some (b2,15),[vi X8]⟩,⟨some (b2,16),[vs Wv]⟩,⟨some (b2,17),[vi Ww]⟩,⟨some (b2,18),[vi Vm]⟩,⟨some (b2,19),[vs XD]⟩,⟨some (b2,20),[vi X_]⟩,⟨some (b3,0),[vi 0]⟩,⟨some (b3,1),[vi 0]⟩,⟨some (b3,2),[vs ([]:Str)]⟩,⟨some (b3,3),[vb false]⟩,⟨some (b3,4),[vb false]⟩,⟨some (b3,5),[vi 0]⟩]) ?_ ?_
   ·intro fe
    refine Z7 (Sn H (fun hc H=>?_) (fun hc H=>?_))
    ·refine Z_ ?_
     have ⟨rz,vk,H⟩:=Z9 H
     refine YE (Y4 (PG vk :) call34 .z) (fun aaA=>?_)
     refine VM (VZ [36,36,36,36,36,36] rfl rfl XE) (fun _=>?_)
     refine Z6 (Wz [8] [0,0,0,0,0,0] rfl rfl ?_)
     refine Y7 (ZE (ZZ ?_))
     obtain rfl:=sj H
     exact SF (vs:=[_]) rfl ⟨(Wp [0,1,2,3,4,5] rfl rfl isAgg34 XE),trivial⟩
    refine ZN (ZW (Z7 (ZY (Z_ (YP ?_)))))
    refine Z6 ?_
    have ⟨j4,Hj,H⟩:=Z9 H
    refine Ns (Γ:=Unit) (fun gj4=>[(4,ptr (some (b1,0)) 0),(5,ptr (some (b2,0)) 0),(8,ptr (some (b3,0)) 0),(9,vi Zu),(10,vi j4)]) (fun gj4=>[⟨some (b1,0),[vb Zm]⟩,⟨some (b1,1),[sl YZ ((ZI).length) Y0]⟩,⟨some (b1,2),[sl Y1 ((ZR).length) YY]⟩,⟨some (b1,3),[sl YC ((Zx).length) YH]⟩,⟨some (b1,4),[vs Yp]⟩,⟨some (b1,5),[sl YG ((Zr).length) YF]⟩,⟨some (b1,6),[vs Zb]⟩,⟨some (b1,7),[vi ZC]⟩,⟨some (b1,8),[vs Y5]⟩,⟨some (b1,9),[sl XR ((ZB).length) XP]⟩,⟨some (b1,10),[vs YN]⟩,⟨some (b1,11),[vi Zk]⟩,⟨some (b1,12),[vi Ye]⟩,⟨some (b1,13),[vi Zd]⟩,⟨some (b1,14),[vi YO]⟩,⟨some (b2,0),[vi WF]⟩,⟨some (b2,1),[vs X9]⟩,⟨some (b2,2),[vs Yu]⟩,⟨some (b2,3),[sl WP ((Yz).length) WO]⟩,⟨some (b2,4),[vs Wx]⟩,⟨some (b2,5),[sl XV ((Za).length) XU]⟩,⟨some (b2,6),[sl WS ((YI).length) WQ]⟩,⟨some (b2,7),[sl Xy ((YX).length) Xx]⟩,⟨some (b2,8),[sl VU ((Yj).length) VW]⟩,⟨some (b2,9),[sl WT ((Y_).length) WR]⟩,⟨some (b2,10),[sl Yl ((Zv).length) Ym]⟩,⟨some (b2,11),[sl Xw ((YS).length) Xz]⟩,⟨some (b2,12),[vi Vl]⟩,⟨some (b2,13),[sl WU ((Yy).length) WM]⟩,⟨some (b2,14),[sl VV ((Yf).length) VX]⟩,⟨some (b2,15),[vi X8]⟩,⟨some (b2,16),[vs Wv]⟩,⟨some (b2,17),[vi Ww]⟩,⟨some (b2,18),[vi Vm]⟩,⟨some (b2,19),[vs XD]⟩,⟨some (b2,20),[vi X_]⟩,⟨some (b3,0),[vi 0]⟩,⟨some (b3,1),[vi 0]⟩,⟨some (b3,2),[vs ([]:Str)]⟩,⟨some (b3,3),[vb false]⟩,⟨some (b3,4),[vb false]⟩,⟨some (b3,5),[vi 0]⟩]) ?_ ?_
    ·intro gj4
     refine Z7 (Z_ (Zj 2 rfl ?_))
     refine ZV (Y9 (pv:=[(0,vi Zu),(1,vi j4),(5,vi (-1))]) (pl:=[(0,1),(1,1),(2,1),(3,1),(4,1),(5,1)]) rfl rfl underlying34 XE Mr LZ (cs:=flat [(1,[vi Zu]),(1,[vi j4]),(1,[vs ([]:Str)]),(1,[vb false]),(1,[vb false]),(1,[vi (-1)])]) (by kernel_rfl)) ?_
     refine YE (SL XE LZ) (fun b4=>?_)
     refine VM (VZ [0,0,0,0,0,0] rfl rfl XE) (fun _=>?_)
     refine Z6 (Wz [4,5,8,9,10,11] (rp 42 6++rp 6 0) rfl rfl ?_)
     refine Z_ (ZV (VY [15,16,17,18,19,20,21,22,23,24,25,26,27,28,29,30,31,32,33,34,35] rfl rfl isAgg30 Xg) ?_)
     refine YP ?_
     have ⟨FU,lw,H⟩:=Z9 H
     refine YE (Y4 (Bv W9 XW Xd XA Ws WJ Yd Xq WL V6 lw :) call37 ⟨.r 5, .r 6, .r 7, .r 8, .r 9, .r 10, .r 11, .r 12, .r 13, .r 14,trivial⟩) (fun acV=>?_)
     refine Zj 5 rfl ?_
     refine Z6 (ZY (Z_ (YP ?_)))
     refine ZV (ZT Xr) ?_
     refine Z6 (UK H (fun hc H=>?_) (fun hc H=>?_))
     ·refine Z_ (ZV (ZQ 3 underlying34 MS) ?_)
      refine VM (YR (j:=45) rfl rfl MS rfl rfl rfl (Nat.lt_succ_self 0) (cs':=[vb true]) rfl) (fun _=>?_)
      refine Z6 (Wz [8,11] (rp 12 36) rfl rfl ?_)
      refine Z_ (ZV (VY [6,7,8,9,10,11] rfl rfl isAgg34 XE) ?_)
      refine VM (VZ [0,0,0,0,0,0] rfl rfl XE) (fun _=>?_)
      refine Zq (ZZ ?_)
      obtain rfl:=sj H
      exact SF (vs:=[_]) rfl ⟨(Wp [0,1,2,3,4,5] rfl rfl isAgg34 XE),trivial⟩
     refine ZN (Z7 (Z_ (YP ?_)))
     refine ZV (ZQ 2 underlying34 Xe) ?_
     refine VM (YR (j:=44) rfl rfl Xe rfl rfl rfl (Nat.lt_succ_self 0) (cs':=[vs FU.1]) rfl) (fun _=>?_)
     refine Z6 (Wz [4,5,8,9,11] (rp 48 0) rfl rfl ?_)
     refine ZY (Z_ (ZV (ZQ 10 underlying30 MX) ?_))
     refine ZV (Z8 rfl (.o 25) rfl isAgg28) ?_
     refine ZV (ZG rfl underlying28) ?_
     refine ZV (ZT Sv) ?_
     refine YP ?_
     have ⟨j5,Hj,H⟩:=Z9 H
     refine VH (Γ:=Unit) (fun gj5=>[(4,ptr (some (b1,0)) 0),(5,ptr (some (b2,0)) 0),(8,ptr (some (b3,0)) 0),(9,vi Zu),(11,ptr (some (b4,0)) 0),(113,vb j5)]) (fun gj5=>[⟨some (b1,0),[vb Zm]⟩,⟨some (b1,1),[sl YZ ((ZI).length) Y0]⟩,⟨some (b1,2),[sl Y1 ((ZR).length) YY]⟩,⟨some (b1,3),[sl YC ((Zx).length) YH]⟩,⟨some (b1,4),[vs Yp]⟩,⟨some (b1,5),[sl YG ((Zr).length) YF]⟩,⟨some (b1,6),[vs Zb]⟩,⟨some (b1,7),[vi ZC]⟩,⟨some (b1,8),[vs Y5]⟩,⟨some (b1,9),[sl XR ((ZB).length) XP]⟩,⟨some (b1,10),[vs YN]⟩,⟨some (b1,11),[vi Zk]⟩,⟨some (b1,12),[vi Ye]⟩,⟨some (b1,13),[vi Zd]⟩,⟨some (b1,14),[vi YO]⟩,⟨some (b2,0),[vi WF]⟩,⟨some (b2,1),[vs X9]⟩,⟨some (b2,2),[vs Yu]⟩,⟨some (b2,3),[sl WP ((Yz).length) WO]⟩,⟨some (b2,4),[vs Wx]⟩,⟨some (b2,5),[sl XV ((Za).length) XU]⟩,⟨some (b2,6),[sl WS ((YI).length) WQ]⟩,⟨some (b2,7),[sl Xy ((YX).length) Xx]⟩,⟨some (b2,8),[sl VU ((Yj).length) VW]⟩,⟨some (b2,9),[sl WT ((Y_).length) WR]⟩,⟨some (b2,10),[sl Yl ((Zv).length) Ym]⟩,⟨some (b2,11),[sl Xw ((YS).length) Xz]⟩,⟨some (b2,12),[vi Vl]⟩,⟨some (b2,13),[sl WU ((Yy).length) WM]⟩,⟨some (b2,14),[sl VV ((Yf).length) VX]⟩,⟨some (b2,15),[vi X8]⟩,⟨some (b2,16),[vs Wv]⟩,⟨some (b2,17),[vi Ww]⟩,⟨some (b2,18),[vi Vm]⟩,⟨some (b2,19),[vs XD]⟩,⟨some (b2,20),[vi X_]⟩,⟨some (b3,0),[vi 0]⟩,⟨some (b3,1),[vi 0]⟩,⟨some (b3,2),[vs ([]:Str)]⟩,⟨some (b3,3),[vb false]⟩,⟨some (b3,4),[vb false]⟩,⟨some (b3,5),[vi 0]⟩,⟨some (b4,0),[vi Zu]⟩,⟨some (b4,1),[vi j4]⟩,⟨some (b4,2),[vs FU.1]⟩,⟨some (b4,3),[vb false]⟩,⟨some (b4,4),[vb false]⟩,⟨some (b4,5),[vi (-1)]⟩]) ?_ ?_
     ·intro gj5
      refine Z7 (Sn H (fun hc H=>?_) (fun hc H=>?_))
      ·refine Z_ ?_
       have ⟨IG,lW,H⟩:=Z9 H
       refine YE (Y4 (PG lW :) call34 .z) (fun adW=>?_)
       refine VM (VZ [36,36,36,36,36,36] rfl rfl XE) (fun _=>?_)
       refine Z6 (Wz [8] [0,0,0,0,0,0] rfl rfl ?_)
       refine Y7 (ZZ ?_)
       obtain rfl:=sj H
       exact SF (vs:=[_]) rfl ⟨(Wp [0,1,2,3,4,5] rfl rfl isAgg34 XE),trivial⟩
      refine ZN (Z7 (Z_ (ZV (VY [0,1,2,3,4,5,6,7,8,9,10,11,12,13,14] rfl rfl isAgg26 We) ?_)))
      refine ZV (VY [15,16,17,18,19,20,21,22,23,24,25,26,27,28,29,30,31,32,33,34,35] rfl rfl isAgg30 Xg) ?_
      refine YP ?_
      have ⟨Ff,kV,H⟩:=Z9 H
      refine YE (Y4 (rM YV YD Y8 Yq Xk W9 XW Xd XA Ws WJ Yd Xq WL V6 kV :) call38 ⟨.r 0, .r 1, .r 2, .r 3, .r 4, .r 5, .r 6, .r 7, .r 8, .r 9, .r 10, .r 11, .r 12, .r 13, .r 14,trivial⟩) (fun ac9=>?_)
      refine ZV (ZQ 4 underlying34 MS) ?_
      refine VM (YR (j:=46) rfl rfl MS rfl rfl rfl (Nat.lt_succ_self 0) (cs':=[vb Ff]) rfl) (fun _=>?_)
      refine Z6 (Wz [5,8,11] (rp 33 15) rfl rfl ?_)
      refine ZY (ZP (Z_ (ZV (ZQ 4 underlying34 MS) ?_)))
      refine ZV (Z8 rfl (.o 31) rfl isAgg4) ?_
      refine Y2 ?_
      refine Z6 (Sn H (fun hc H=>?_) (fun hc H=>?_))
      ·refine ZN (ZW (Z7 (Z_ (ZV (VY [27,28,29,30,31,32] rfl rfl isAgg34 XE) ?_))))
       refine VM (VZ [21,21,21,21,21,21] rfl rfl XE) (fun _=>?_)
       refine Zq ?_
       obtain rfl:=sj H
       exact SF (vs:=[_]) rfl ⟨(Wp [0,1,2,3,4,5] rfl rfl isAgg34 XE),trivial⟩
      refine Z_ (ZV (ZQ 7 underlying30 XO) ?_)
      refine ZV (Z8 rfl (.o 7) rfl isAgg22) ?_
      refine ZV (ZG rfl underlying22) ?_
      refine ZV (ZT Xr) ?_
      refine Y2 ?_
      have ⟨x3,qx,H⟩:=ZX H
      refine WN 123 (congrArg vb qx) ?_
      refine Z6 (Sn H (fun hc H=>?_) (fun hc H=>?_))
      ·refine Z_ ?_
       have ⟨vI,kZ,H⟩:=Z9 H
       refine YE (Y4 (PG kZ :) call34 .z) (fun acU=>?_)
       refine VM (VZ [21,21,21,21,21,21] rfl rfl XE) (fun _=>?_)
       refine Z6 (Wz [8] [0,0,0,0,0,0] rfl rfl ?_)
       refine Y7 (ZE (ZZ ?_))
       obtain rfl:=sj H
       exact SF (vs:=[_]) rfl ⟨(Wp [0,1,2,3,4,5] rfl rfl isAgg34 XE),trivial⟩
      refine Z_ (ZV (ZQ 7 underlying30 XO) ?_)
      refine ZV (Z8 rfl (.o 7) rfl isAgg22) ?_
      have ⟨gH,aaU,H⟩:=Z9 H
      refine YE (Y4 (PI XA aaU :) call35 ⟨.r 8,trivial⟩) (fun aeO=>?_)
      refine ZV (UF T_) ?_
      refine Y2 ?_
      refine Z6 (Sn H (fun hc H=>?_) (fun hc H=>?_))
      ·refine Z_ ?_
       have ⟨jk,ab7,H⟩:=Z9 H
       refine YE (Y4 (PG ab7 :) call34 .z) (fun aeN=>?_)
       refine VM (VZ [21,21,21,21,21,21] rfl rfl XE) (fun _=>?_)
       refine Z6 (Wz [8] [0,0,0,0,0,0] rfl rfl ?_)
       refine Y7 (ZE (ZZ ?_))
       obtain rfl:=sj H
       exact SF (vs:=[_]) rfl ⟨(Wp [0,1,2,3,4,5] rfl rfl isAgg34 XE),trivial⟩
      refine ZN (ZW (Z7 (Z_ (ZV (VY [27,28,29,30,31,32] rfl rfl isAgg34 XE) ?_))))
      refine VM (VZ [21,21,21,21,21,21] rfl rfl XE) (fun _=>?_)
      refine Z6 (Wz [8] [0,0,0,0,0,0] rfl rfl ?_)
      refine Y7 ?_
      obtain rfl:=sj H
      exact SF (vs:=[_]) rfl ⟨(Wp [0,1,2,3,4,5] rfl rfl isAgg34 XE),trivial⟩
     intro hJ
     replace H:=Hj
     refine Td (d:=108) H (fun hc H=>?_) (fun hc H=>?_)
     ·refine Zc (ZQ 8 underlying30 XO) ?_
      refine Zc (Z8 rfl (.o 23) rfl isAgg22) ?_
      refine Zc (ZG rfl underlying22) ?_
      refine Zc (ZT Xr) ?_
      refine ak ?_
      refine ZK ?_
      obtain rfl:=sj H
      exact WW (rp 48 0) (hJ ())
     refine Zj 5 rfl ?_
     refine ZK ?_
     obtain rfl:=sj H
     exact WW (rp 48 0) (hJ ())
    intro hJ
    replace H:=Hj
    refine Sn H (fun hc H=>?_) (fun hc H=>?_)
    ·refine ZH (Zj 2 rfl ?_)
     refine ZK ?_
     obtain rfl:=sj H
     exact WW (rp 42 0) (hJ ())
    refine ZN ?_
    obtain rfl:=sj H
    exact WW (rp 42 0) (hJ ())
   intro hJ
   replace H:=Hj
   refine Mg (d:=68) H (fun hc H=>?_) (fun hc H=>?_)
   ·refine Zj 2 rfl ?_
    refine Vs rfl rfl rfl rfl rfl rfl ?_
    refine Vs rfl rfl rfl rfl rfl rfl ?_
    refine Vs rfl rfl rfl rfl rfl rfl ?_
    refine Vs rfl rfl rfl rfl rfl rfl ?_
    refine Vs rfl rfl rfl rfl rfl rfl ?_
    refine Vs rfl rfl rfl rfl rfl rfl ?_
    refine Vs rfl rfl rfl rfl rfl rfl ?_
    refine Vs rfl rfl rfl rfl rfl rfl ?_
    refine Vs rfl rfl rfl rfl rfl rfl ?_
    refine Vs rfl rfl rfl rfl rfl rfl ?_
    refine Vs rfl rfl rfl rfl rfl rfl ?_
    refine Vs rfl rfl rfl rfl rfl rfl ?_
    refine Vs rfl rfl rfl rfl rfl rfl ?_
    refine Zj 3 rfl ?_
    refine ZK ?_
    obtain rfl:=sj H
    exact WW (rp 42 0) (hJ ())
   refine Zj 2 rfl ?_
   refine Mg (d:=70) H (fun hc H=>?_) (fun hc H=>?_)
   ·refine Zc (ZQ 9 underlying30 QR) ?_
    refine Zc (Z8 rfl (.o 24) rfl isAgg27) ?_
    refine Zc (ZG rfl underlying27) ?_
    refine Zc (ZT SN) ?_
    refine Zc (ZO rfl) ?_
    refine Td (d:=75) H (fun hc H=>?_) (fun hc H=>?_)
    ·refine Zj 11 rfl ?_
     refine ZK ?_
     obtain rfl:=sj H
     exact WW (rp 42 0) (hJ ())
    refine Zc (ZQ 9 underlying30 QR) ?_
    refine Zc (Z8 rfl (.o 24) rfl isAgg27) ?_
    have ⟨h1,H⟩:=Z4 H
    refine Zc (YK (i:=0) rfl rfl underlying27 Rv rfl (.r 10) (VC (s:=2) (fun _=>rfl) rfl (tl h1)) h1.1 h1.2 (k:=0 * 2) rfl) ?_
    refine Zc (Vk rfl underlying50 rfl (k:=0) rfl YM rfl) ?_
    refine Zc (Z8 rfl (.r 10) ((UM (g:=fun p:Int × Str=>[vi p.1,vs p.2]) (s:=2) (fun _=>rfl) Y_ 0 0 (tl h1) (by decide:0<2)).trans rfl) isAgg3) ?_
    refine Zc (ZO rfl) ?_
    refine Zc (ZT SN) ?_
    refine Zj 4 rfl ?_
    have ⟨x4,hx4,H⟩:=ZX H
    refine WN 65 (congrArg vb hx4) ?_
    refine ZK ?_
    obtain rfl:=sj H
    exact WW (rp 42 0) (hJ ())
   refine Zj 5 rfl ?_
   refine Vs rfl rfl rfl rfl rfl rfl ?_
   refine Vs rfl rfl rfl rfl rfl rfl ?_
   refine Vs rfl rfl rfl rfl rfl rfl ?_
   refine Vs rfl rfl rfl rfl rfl rfl ?_
   refine Vs rfl rfl rfl rfl rfl rfl ?_
   refine Vs rfl rfl rfl rfl rfl rfl ?_
   refine Vs rfl rfl rfl rfl rfl rfl ?_
   refine Zj 4 rfl ?_
   refine ZK ?_
   obtain rfl:=sj H
   exact WW (rp 42 0) (hJ ())
  intro hJ
  replace H:=Hj
  refine Td (d:=54) H (fun hc H=>?_) (fun hc H=>?_)
  ·refine Zj 6 rfl ?_
   refine ZK ?_
   obtain rfl:=sj H
   exact WW (rp 42 0) (hJ ())
  refine Zc (ZQ 9 underlying30 QR) ?_
  refine Zc (Z8 rfl (.o 24) rfl isAgg27) ?_
  refine Zc (ZG rfl underlying27) ?_
  refine Zc (ZT Xr) ?_
  refine Zj 2 rfl ?_
  have ⟨x5,hx5,H⟩:=ZX H
  refine WN 49 (congrArg vb hx5) ?_
  refine ZK ?_
  obtain rfl:=sj H
  exact WW (rp 42 0) (hJ ())
 intro hJ
 replace H:=Hj
 refine Mg (d:=28) H (fun hc H=>?_) (fun hc H=>?_)
 ·refine Zj 10 rfl ?_
  refine ZK ?_
  obtain rfl:=sj H
  exact WW (rp 42 0) (hJ ())
 refine Zc (ZQ 0 underlying26 MS) ?_
 refine Zc (Z8 rfl (.o 0) rfl isAgg4) ?_
 refine Zc (UF T_) ?_
 refine Zj 2 rfl ?_
 refine Mg (d:=33) H (fun hc H=>?_) (fun hc H=>?_)
 ·refine Zj 5 rfl ?_
  refine ZK ?_
  obtain rfl:=sj H
  exact WW (rp 42 0) (hJ ())
 refine Zc (ZQ 0 underlying30 YM) ?_
 refine Zc (Z8 rfl (.o 15) rfl isAgg3) ?_
 refine Zc (ZT SN) ?_
 refine Zj 2 rfl ?_
 have ⟨x6,hx6,H⟩:=ZX H
 refine WN 24 (congrArg vb hx6) ?_
 refine ZK ?_
 obtain rfl:=sj H
 exact WW (rp 42 0) (hJ ())
def Vg (s_:List (Int)):Option (List (Int)) :=
 if 0=(([]:List (Int))).length then (if (([]:List (Int))).length+(s_).length≤17592186044416 then (X5 (([]:List (Int))++s_) fun l1=>(some l1)) else none) else none
theorem Co {As_:Y6} {cs_:Nat} {s_:List (Int)} (FN:(s_).length≤cs_) {r:List (Int)} (H:Vg s_=some r) :
  Does Tryz.prog 39 [sl As_ ((s_).length) cs_] [] [⟨As_,eI s_⟩] (Γ:=Y6 × List (Int)) (fun g=>sl g.1 ((r).length) ((r++g.2).length)) (fun g=>[⟨g.1,eI (r++g.2)⟩]):=by
 intro w hmem hro hd
 refine Zn func39 rfl ntmps39 rfl hmem hro hd ?_
 unfold Vg at H
 refine cZ (A:=As_) (cs:=eI s_) (.ro (j:=0) rfl) (fun hA hcs=>?_) (fun hA=>?_)
 ·have oC:s_=[]:=dC hcs
  subst hA oC
  replace H:some nI=some r:=H
  refine Z_ (YE (FM rfl (z:=eI (nI++nI)) rfl) (fun A1=>?_))
  refine Z6 (ZY (Z_ (YP ?_)))
  refine ZV (Zg rfl rfl (fun w=>iU w underlying22)) ?_
  refine Z6 (VI rfl ?_)
  refine Z_ (YE (FM rfl (z:=eI (nI++nI)) rfl) (fun A2=>?_))
  refine Zq (ZZ ?_)
  obtain rfl:=sj H
  exact JK (A2,nI) [0] (vs:=[_]) rfl ⟨rfl,trivial⟩ rfl
 skip
 refine Z_ (YE (FM rfl (z:=eI (nI++nI)) rfl) (fun A1=>?_))
 refine Z6 (ZY (Z_ (YP ?_)))
 refine ZV (Zg rfl rfl (fun w=>av w underlying22 hA)) ?_
 refine Z6 (KJ rfl ?_)
 refine ZN (Z7 (Z_ (YE (WB (cs:=eI nI) underlying22 YM rfl) (fun b1=>?_))))
 refine YP ?_
 have ⟨h1,H⟩:=Z4 H
 refine Ta 0 (congrArg (eI) (List.append_nil _).symm) ?_
 refine WN (v':=sl (some (b1,0)) ((nI).length) ((nI++nI).length)) 5 (Us h1) ?_
 have ⟨h2,H⟩:=Z4 H
 have ⟨l1,AO,H⟩:=ZX H
 refine YE (SH (f:=vi) (j:=0) (l:=([]:List (Int))) (sp:=([]:List (Int))) (ds:=s_) (0:Int) (.r 0) rfl rfl rfl (fun _=>rfl) underlying22 underlying22 YM rfl LG (B':=8) rfl (by have:=h2; omega) (by have:=h2; omega) AO) (fun q1=>?_)
 refine Y2 ?_
 refine Zq ?_
 obtain rfl:=sj H
 exact JK (q1.1,q1.2) [0] (vs:=[_]) rfl ⟨rfl,trivial⟩ rfl
def Um (Zm:Bool) (ZI ZR:List (Int)) (Zx:List (Str)) (Yp:Str) (Zr:List (Str)) (Zb:Str) (ZC:Int) (Y5:Str) (ZB:List (Str × Str × Int × Int × Int × Int)) (YN:Str) (Zk Ye:Int) (Zd YO:Int):Option (Str × Str × Int × Int × Int × Int × Bool) :=
 if ((ZB).length:Int)=0 then (some (([]:Str),([]:Str),0,0,0,0,false)) else (if 0≤(0:Int)∧(0:Int)<((ZB).length:Int) then (if Zk<((lg ZB 0).2.2.2.2.1) then (some (([]:Str),([]:Str),0,0,0,0,false)) else (if 0≤(0:Int)∧(0:Int)<((ZB).length:Int) then (if 0≤(0:Int)∧(0:Int)<((ZB).length:Int) then (if ((lg ZB 0).2.2.2.2.2)<(ZJ (Zk - ((lg ZB 0).2.2.2.2.1))) then (some (([]:Str),([]:Str),0,0,0,0,false)) else (if 0≤(0:Int)∧(0:Int)<((ZB).length:Int) then (some ((lg ZB 0).1,(lg ZB 0).2.1,(lg ZB 0).2.2.1,(lg ZB 0).2.2.2.1,(lg ZB 0).2.2.2.2.1,(lg ZB 0).2.2.2.2.2,true)) else none)) else none) else none)) else none)
theorem qw {bc:Nat} {obc:Nat} {YZ:Y6} {Y0:Nat} {Y1:Y6} {YY:Nat} {YC:Y6} {YH:Nat} {YG:Y6} {YF:Nat} {XR:Y6} {XP:Nat} {Zm:Bool} {ZI:List (Int)} {ZR:List (Int)} {Zx:List (Str)} {Yp:Str} {Zr:List (Str)} {Zb:Str} {ZC:Int} {Y5:Str} {ZB:List (Str × Str × Int × Int × Int × Int)} {YN:Str} {Zk:Int} {Ye:Int} {Zd:Int} {YO:Int} (YV:(ZI).length≤Y0) (YD:(ZR).length≤YY) (Y8:(Zx).length≤YH) (Yq:(Zr).length≤YF) (Xk:(ZB).length≤XP) {r:Str × Str × Int × Int × Int × Int × Bool} (H:Um Zm ZI ZR Zx Yp Zr Zb ZC Y5 ZB YN Zk Ye Zd YO=some r) :
  Does Tryz.prog 40 [ptr (some (bc,obc)) 0] [] [⟨some (bc,obc),[vb Zm]⟩,⟨some (bc,obc+1),[sl YZ ((ZI).length) Y0]⟩,⟨some (bc,obc+2),[sl Y1 ((ZR).length) YY]⟩,⟨some (bc,obc+3),[sl YC ((Zx).length) YH]⟩,⟨some (bc,obc+4),[vs Yp]⟩,⟨some (bc,obc+5),[sl YG ((Zr).length) YF]⟩,⟨some (bc,obc+6),[vs Zb]⟩,⟨some (bc,obc+7),[vi ZC]⟩,⟨some (bc,obc+8),[vs Y5]⟩,⟨some (bc,obc+9),[sl XR ((ZB).length) XP]⟩,⟨some (bc,obc+10),[vs YN]⟩,⟨some (bc,obc+11),[vi Zk]⟩,⟨some (bc,obc+12),[vi Ye]⟩,⟨some (bc,obc+13),[vi Zd]⟩,⟨some (bc,obc+14),[vi YO]⟩,⟨YZ,eI ZI⟩,⟨Y1,eI ZR⟩,⟨YC,eS Zx⟩,⟨YG,eS Zr⟩,⟨XR,eF (fun p:Str × Str × Int × Int × Int × Int=>[vs p.1,vs p.2.1,vi p.2.2.1,vi p.2.2.2.1,vi p.2.2.2.2.1,vi p.2.2.2.2.2]) ZB⟩] (Γ:=Unit) (fun g=>Value.tuple [aG [(1,[vs r.1]),(1,[vs r.2.1]),(1,[vi r.2.2.1]),(1,[vi r.2.2.2.1]),(1,[vi r.2.2.2.2.1]),(1,[vi r.2.2.2.2.2.1])],vb r.2.2.2.2.2.2].toArray) (fun g=>[]):=by
 intro w hmem hro hd
 refine Zn func40 rfl ntmps40 rfl hmem hro hd ?_
 unfold Um at H
 refine Z_ (YE (SL Ut Fx) (fun b1=>?_))
 refine Y2 ?_
 refine Z6 (ZY (ZY (UI (decide (((ZB).length:Int)=0)) (fun Ce=>?_) (fun Ce=>?_))))
 ·replace H:=U8 (of_decide_eq_true Ce) H
  refine U3 [0,0,0,0,0,0] 42 rfl ?_
  refine YA 1 0 rfl ?_
  refine Zz 2 rfl (ZQ 9 underlying26 R6) ?_
  refine Zz 3 rfl (Z8 rfl (.r 9) rfl isAgg24) ?_
  refine Zz 4 rfl (ZG rfl underlying24) ?_
  refine Zz 5 rfl (ZT Xr) ?_
  refine YA 0 6 rfl ?_
  refine Xb 10 (congrArg vb Ce) ?_
  refine YA 34 7 rfl ?_
  refine Vi ?_
  refine Z7 (Wz [0,2,45] [0,0,0,0,0,0] rfl rfl ?_)
  refine VI rfl ?_
  refine Z_ (ZV (Y9 (pv:=[]) (pl:=[(0,1),(1,1),(2,1),(3,1),(4,1),(5,1)]) rfl rfl underlying57 Ut En Fx (cs:=flat [(1,[vs ([]:Str)]),(1,[vs ([]:Str)]),(1,[vi 0]),(1,[vi 0]),(1,[vi 0]),(1,[vi 0])]) (by kernel_rfl)) ?_)
  refine VM (VZ [0,0,0,0,0,0] rfl rfl Ut) (fun _=>?_)
  refine Y2 ?_
  refine Zq (ZZ ?_)
  obtain rfl:=sj H
  exact SF (vs:=[_,_]) rfl ⟨(Wp [0,1,2,3,4,5] rfl rfl isAgg57 Ut),rfl,trivial⟩
 replace H:=U7 (of_decide_eq_false Ce) H
 have ⟨h1,H⟩:=Z4 H
 refine UI (decide (Zk<((lg ZB 0).2.2.2.2.1))) (fun Df=>?_) (fun Df=>?_)
 ·replace H:=U8 (of_decide_eq_true Df) H
  refine U3 [0,0,0,0,0,0] 42 rfl ?_
  refine YA 1 0 rfl ?_
  refine Zz 2 rfl (ZQ 9 underlying26 R6) ?_
  refine Zz 3 rfl (Z8 rfl (.r 9) rfl isAgg24) ?_
  refine Zz 4 rfl (ZG rfl underlying24) ?_
  refine Zz 5 rfl (ZT Xr) ?_
  refine YA 0 6 rfl ?_
  refine Xb 10 (congrArg vb Ce) ?_
  refine YA 1 7 rfl ?_
  refine Zz 9 rfl (ZQ 9 underlying26 R6) ?_
  refine Zz 10 rfl (Z8 rfl (.r 9) rfl isAgg24) ?_
  refine Zz 11 rfl (YK (i:=0) rfl rfl underlying24 Ut rfl (.r 19) (VC (s:=6) (fun _=>rfl) rfl (tl h1)) h1.1 h1.2 (k:=0 * 6) rfl) ?_
  refine Zz 12 rfl (Vk rfl underlying57 rfl (k:=4) rfl YM rfl) ?_
  refine Zz 13 rfl (Z8 rfl (.r 19) ((UM (g:=fun p:Str × Str × Int × Int × Int × Int=>[vs p.1,vs p.2.1,vi p.2.2.1,vi p.2.2.2.1,vi p.2.2.2.2.1,vi p.2.2.2.2.2]) (s:=6) (fun _=>rfl) ZB 0 4 (tl h1) (by decide:4<6)).trans rfl) isAgg3) ?_
  refine YA 1 14 rfl ?_
  refine Zz 16 rfl (ZQ 11 underlying26 YM) ?_
  refine Zz 17 rfl (Z8 rfl (.r 11) rfl isAgg3) ?_
  refine Zz 18 rfl (ZT Sv) ?_
  refine YA 1 19 rfl ?_
  refine Xb 24 (congrArg vb Df) ?_
  refine YA 20 21 rfl ?_
  refine Vi ?_
  refine Z7 (Wz [0,2,45] [0,0,0,0,0,0] rfl rfl ?_)
  refine VI rfl ?_
  refine Z_ (ZV (Y9 (pv:=[]) (pl:=[(0,1),(1,1),(2,1),(3,1),(4,1),(5,1)]) rfl rfl underlying57 Ut En Fx (cs:=flat [(1,[vs ([]:Str)]),(1,[vs ([]:Str)]),(1,[vi 0]),(1,[vi 0]),(1,[vi 0]),(1,[vi 0])]) (by kernel_rfl)) ?_)
  refine VM (VZ [0,0,0,0,0,0] rfl rfl Ut) (fun _=>?_)
  refine Y2 ?_
  refine Zq (ZZ ?_)
  obtain rfl:=sj H
  exact SF (vs:=[_,_]) rfl ⟨(Wp [0,1,2,3,4,5] rfl rfl isAgg57 Ut),rfl,trivial⟩
 replace H:=U7 (of_decide_eq_false Df) H
 have ⟨h2,H⟩:=Z4 H
 have ⟨h3,H⟩:=Z4 H
 refine U3 [0,0,0,0,0,0] 42 rfl ?_
 refine YA 1 0 rfl ?_
 refine Zz 2 rfl (ZQ 9 underlying26 R6) ?_
 refine Zz 3 rfl (Z8 rfl (.r 9) rfl isAgg24) ?_
 refine Zz 4 rfl (ZG rfl underlying24) ?_
 refine Zz 5 rfl (ZT Xr) ?_
 refine YA 0 6 rfl ?_
 refine Xb 10 (congrArg vb Ce) ?_
 refine YA 1 7 rfl ?_
 refine Zz 9 rfl (ZQ 9 underlying26 R6) ?_
 refine Zz 10 rfl (Z8 rfl (.r 9) rfl isAgg24) ?_
 refine Zz 11 rfl (YK (i:=0) rfl rfl underlying24 Ut rfl (.r 19) (VC (s:=6) (fun _=>rfl) rfl (tl h1)) h1.1 h1.2 (k:=0 * 6) rfl) ?_
 refine Zz 12 rfl (Vk rfl underlying57 rfl (k:=4) rfl YM rfl) ?_
 refine Zz 13 rfl (Z8 rfl (.r 19) ((UM (g:=fun p:Str × Str × Int × Int × Int × Int=>[vs p.1,vs p.2.1,vi p.2.2.1,vi p.2.2.2.1,vi p.2.2.2.2.1,vi p.2.2.2.2.2]) (s:=6) (fun _=>rfl) ZB 0 4 (tl h1) (by decide:4<6)).trans rfl) isAgg3) ?_
 refine YA 1 14 rfl ?_
 refine Zz 16 rfl (ZQ 11 underlying26 YM) ?_
 refine Zz 17 rfl (Z8 rfl (.r 11) rfl isAgg3) ?_
 refine Zz 18 rfl (ZT Sv) ?_
 refine YA 1 19 rfl ?_
 refine Xb 24 (congrArg vb Df) ?_
 refine YA 1 21 rfl ?_
 refine Zz 23 rfl (ZQ 11 underlying26 YM) ?_
 refine Zz 24 rfl (Z8 rfl (.r 11) rfl isAgg3) ?_
 refine YA 1 25 rfl ?_
 refine Zz 27 rfl (ZQ 9 underlying26 R6) ?_
 refine Zz 28 rfl (Z8 rfl (.r 9) rfl isAgg24) ?_
 refine Zz 29 rfl (YK (i:=0) rfl rfl underlying24 Ut rfl (.r 19) (VC (s:=6) (fun _=>rfl) rfl (tl h2)) h2.1 h2.2 (k:=0 * 6) rfl) ?_
 refine Zz 30 rfl (Vk rfl underlying57 rfl (k:=4) rfl YM rfl) ?_
 refine Zz 31 rfl (Z8 rfl (.r 19) ((UM (g:=fun p:Str × Str × Int × Int × Int × Int=>[vs p.1,vs p.2.1,vi p.2.2.1,vi p.2.2.2.1,vi p.2.2.2.2.1,vi p.2.2.2.2.2]) (s:=6) (fun _=>rfl) ZB 0 4 (tl h2) (by decide:4<6)).trans rfl) isAgg3) ?_
 refine Zz 32 rfl (ZT OX) ?_
 refine YA 1 33 rfl ?_
 refine Zz 35 rfl (ZQ 9 underlying26 R6) ?_
 refine Zz 36 rfl (Z8 rfl (.r 9) rfl isAgg24) ?_
 refine Zz 37 rfl (YK (i:=0) rfl rfl underlying24 Ut rfl (.r 19) (VC (s:=6) (fun _=>rfl) rfl (tl h3)) h3.1 h3.2 (k:=0 * 6) rfl) ?_
 refine Zz 38 rfl (Vk rfl underlying57 rfl (k:=5) rfl YM rfl) ?_
 refine Zz 39 rfl (Z8 rfl (.r 19) ((UM (g:=fun p:Str × Str × Int × Int × Int × Int=>[vs p.1,vs p.2.1,vi p.2.2.1,vi p.2.2.2.1,vi p.2.2.2.2.1,vi p.2.2.2.2.2]) (s:=6) (fun _=>rfl) ZB 0 5 (tl h3) (by decide:5<6)).trans rfl) isAgg3) ?_
 refine Zz 40 rfl (ZT Sv) ?_
 refine YA 0 41 rfl ?_
 refine Vi ?_
 refine Z7 (Wz [0,2,45] [0,0,0,0,0,0] rfl rfl ?_)
 refine UK H (fun hc H=>?_) (fun hc H=>?_)
 ·refine Z_ (ZV (Y9 (pv:=[]) (pl:=[(0,1),(1,1),(2,1),(3,1),(4,1),(5,1)]) rfl rfl underlying57 Ut En Fx (cs:=flat [(1,[vs ([]:Str)]),(1,[vs ([]:Str)]),(1,[vi 0]),(1,[vi 0]),(1,[vi 0]),(1,[vi 0])]) (by kernel_rfl)) ?_)
  refine VM (VZ [0,0,0,0,0,0] rfl rfl Ut) (fun _=>?_)
  refine Y2 ?_
  refine Zq (ZZ ?_)
  obtain rfl:=sj H
  exact SF (vs:=[_,_]) rfl ⟨(Wp [0,1,2,3,4,5] rfl rfl isAgg57 Ut),rfl,trivial⟩
 refine ZN (Z7 (Z_ (Zj 2 rfl ?_)))
 refine ZV (ZQ 9 underlying26 R6) ?_
 refine ZV (Z8 rfl (.r 9) rfl isAgg24) ?_
 have ⟨h4,H⟩:=Z4 H
 refine ZV (YK (i:=0) rfl rfl underlying24 Ut rfl (.r 19) (VC (s:=6) (fun _=>rfl) rfl (tl h4)) h4.1 h4.2 (k:=0 * 6) rfl) ?_
 refine ZV (UE (n:=6) (ds:=[vs ((lg ZB 0).1),vs ((lg ZB 0).2.1),vi ((lg ZB 0).2.2.1),vi ((lg ZB 0).2.2.2.1),vi ((lg ZB 0).2.2.2.2.1),vi ((lg ZB 0).2.2.2.2.2)]) rfl (.r 19) (RJ (g:=fun p:Str × Str × Int × Int × Int × Int=>[vs p.1,vs p.2.1,vi p.2.2.1,vi p.2.2.2.1,vi p.2.2.2.2.1,vi p.2.2.2.2.2]) (s:=6) (fun _=>rfl) ZB 0 (tl h4)) rfl rfl isAgg57 Ut rfl) ?_
 refine VM (za (b:=b1) (o:=0) (ns:=[(1,[vs ((lg ZB 0).1)]),(1,[vs ((lg ZB 0).2.1)]),(1,[vi ((lg ZB 0).2.2.1)]),(1,[vi ((lg ZB 0).2.2.2.1)]),(1,[vi ((lg ZB 0).2.2.2.2.1)]),(1,[vi ((lg ZB 0).2.2.2.2.2)])]) [0,0,0,0,0,0] [(1,_),(1,_),(1,_),(1,_),(1,_),(1,_)] rfl Ut) (fun _=>?_)
 refine Y2 ?_
 refine Zq ?_
 obtain rfl:=sj H
 exact SF (vs:=[_,_]) rfl ⟨(Wp [0,1,2,3,4,5] rfl rfl isAgg57 Ut),rfl,trivial⟩
end Go.Proofs
end

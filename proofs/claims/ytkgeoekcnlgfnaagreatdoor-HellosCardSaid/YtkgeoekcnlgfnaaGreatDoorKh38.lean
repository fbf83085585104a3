/-
  Part 38 of the proof of what several laws share.
-/
import Derived.Test.YtkgeoekcnlgfnaaGreatDoorKh34
import Derived.Test.YtkgeoekcnlgfnaaGreatDoorKh37
set_option maxHeartbeats 4000000
set_option maxRecDepth 20000
set_option linter.unusedVariables false
set_option linter.unusedSimpArgs false
section
namespace Go.Proofs
open Go Go.Kx
open TryzI Tryz
def Ra (Zm:Bool) (ZI ZR:List (Int)) (Zx:List (Str)) (Yp:Str) (Zr:List (Str)) (Zb:Str) (ZC:Int) (Y5:Str) (ZB:List (Str × Str × Int × Int × Int × Int)) (YN:Str) (Zk Ye:Int) (Zd YO WF:Int) (X9 Yu:Str) (Yz:List (Int)) (Wx:Str) (Za YI:List (Int)) (YX Yj:List (Int)) (Y_:List (Int × Str)) (Zv:List (Str × Int)) (YS:List (Str)) (Vl:Int) (Yy:List (Int)) (Yf:List (Str)) (X8:Int) (Wv:Str) (Ww Vm:Int) (XD:Str) (X_:Int) (again:Bool) (group:Int) (random session share:Str):Option (Bool) :=
 (Ug Zm ZI ZR Zx Yp Zr Zb ZC Y5 ZB YN Zk Ye Zd YO).bind fun Zu=>((SY WF X9 Yu Yz Wx Za YI YX Yj Y_ Zv YS Vl Yy Yf X8 Wv Ww Vm XD X_).bind fun YJ=>((PD Zu.1 Zu.2.2.2.2.2.2.2.2.2.2.1 Zu.2.2.2.2.2.2.2.2.2.2.2.1 Zu.2.2.2.2.2.2.2.2.2.2.2.2.1 Zu.2.1 Zu.2.2.2.2.2.2.2.2.2.2.2.2.2.1 Zu.2.2.1 Zu.2.2.2.1 Zu.2.2.2.2.1 Zu.2.2.2.2.2.2.2.2.2.2.2.2.2.2 Zu.2.2.2.2.2.1 Zu.2.2.2.2.2.2.1 Zu.2.2.2.2.2.2.2.1 Zu.2.2.2.2.2.2.2.2.1 Zu.2.2.2.2.2.2.2.2.2.1 YJ.1 YJ.2.1 YJ.2.2.1 YJ.2.2.2.2.2.2.2.2.2.2.2.1 YJ.2.2.2.1 YJ.2.2.2.2.2.2.2.2.2.2.2.2.1 YJ.2.2.2.2.2.2.2.2.2.2.2.2.2.1 YJ.2.2.2.2.2.2.2.2.2.2.2.2.2.2.1 YJ.2.2.2.2.2.2.2.2.2.2.2.2.2.2.2.1 YJ.2.2.2.2.2.2.2.2.2.2.2.2.2.2.2.2.1 YJ.2.2.2.2.2.2.2.2.2.2.2.2.2.2.2.2.2.1 YJ.2.2.2.2.2.2.2.2.2.2.2.2.2.2.2.2.2.2.1 YJ.2.2.2.2.1 YJ.2.2.2.2.2.2.2.2.2.2.2.2.2.2.2.2.2.2.2.1 YJ.2.2.2.2.2.2.2.2.2.2.2.2.2.2.2.2.2.2.2.2 YJ.2.2.2.2.2.1 YJ.2.2.2.2.2.2.1 YJ.2.2.2.2.2.2.2.1 YJ.2.2.2.2.2.2.2.2.1 YJ.2.2.2.2.2.2.2.2.2.1 YJ.2.2.2.2.2.2.2.2.2.2.1 again group).bind fun X7=>((SQ Zm ZI ZR Zx Yp Zr Zb ZC Y5 ZB YN Zk Ye Zd YO WF X9 Yu Yz Wx Za YI YX Yj Y_ Zv YS Vl Yy Yf X8 Wv Ww Vm XD X_ again group).bind fun Xu=>((P5 Zu.1 Zu.2.2.2.2.2.2.2.2.2.2.1 Zu.2.2.2.2.2.2.2.2.2.2.2.1 Zu.2.2.2.2.2.2.2.2.2.2.2.2.1 Zu.2.1 Zu.2.2.2.2.2.2.2.2.2.2.2.2.2.1 Zu.2.2.1 Zu.2.2.2.1 Zu.2.2.2.2.1 Zu.2.2.2.2.2.2.2.2.2.2.2.2.2.2 Zu.2.2.2.2.2.1 Zu.2.2.2.2.2.2.1 Zu.2.2.2.2.2.2.2.1 Zu.2.2.2.2.2.2.2.2.1 Zu.2.2.2.2.2.2.2.2.2.1 random session share).bind fun UC=>((Sd Zm ZI ZR Zx Yp Zr Zb ZC Y5 ZB YN Zk Ye Zd YO random session share).bind fun MV=>((PQ Zu.1 Zu.2.2.2.2.2.2.2.2.2.2.1 Zu.2.2.2.2.2.2.2.2.2.2.2.1 Zu.2.2.2.2.2.2.2.2.2.2.2.2.1 Zu.2.1 Zu.2.2.2.2.2.2.2.2.2.2.2.2.2.1 Zu.2.2.1 Zu.2.2.2.1 Zu.2.2.2.2.1 Zu.2.2.2.2.2.2.2.2.2.2.2.2.2.2 Zu.2.2.2.2.2.1 Zu.2.2.2.2.2.2.1 Zu.2.2.2.2.2.2.2.1 Zu.2.2.2.2.2.2.2.2.1 Zu.2.2.2.2.2.2.2.2.2.1).bind fun JM=>((Ty Zm ZI ZR Zx Yp Zr Zb ZC Y5 ZB YN Zk Ye Zd YO).bind fun JY=>(if (!(JM == JY))=true then (some false) else (if (!(Lf.all [Lf.i X7.1,Lf.i X7.2.1,Lf.s X7.2.2.1,Lf.b X7.2.2.2.1,Lf.b X7.2.2.2.2.1,Lf.i X7.2.2.2.2.2] [Lf.i Xu.1,Lf.i Xu.2.1,Lf.s Xu.2.2.1,Lf.b Xu.2.2.2.1,Lf.b Xu.2.2.2.2.1,Lf.i Xu.2.2.2.2.2]))=true then (some false) else ((TZ UC.1 UC.2.1 UC.2.2.1 UC.2.2.2.2.2.1 UC.2.2.2.1 UC.2.2.2.2.2.2.1 UC.2.2.2.2.2.2.2.1 UC.2.2.2.2.2.2.2.2.1 UC.2.2.2.2.2.2.2.2.2.1 UC.2.2.2.2.2.2.2.2.2.2.1 UC.2.2.2.2.2.2.2.2.2.2.2.1 UC.2.2.2.2.2.2.2.2.2.2.2.2.1 0 UC.2.2.2.2.2.2.2.2.2.2.2.2.2.1 UC.2.2.2.2.2.2.2.2.2.2.2.2.2.2 0 ([]:Str) 0 0 ([]:Str) 0 MV.1 MV.2.1 MV.2.2.1 MV.2.2.2.2.2.1 MV.2.2.2.1 MV.2.2.2.2.2.2.1 MV.2.2.2.2.2.2.2.1 MV.2.2.2.2.2.2.2.2.1 MV.2.2.2.2.2.2.2.2.2.1 MV.2.2.2.2.2.2.2.2.2.2.1 MV.2.2.2.2.2.2.2.2.2.2.2.1 MV.2.2.2.2.2.2.2.2.2.2.2.2.1 0 MV.2.2.2.2.2.2.2.2.2.2.2.2.2.1 MV.2.2.2.2.2.2.2.2.2.2.2.2.2.2 0 ([]:Str) 0 0 ([]:Str) 0).bind fun xG=>(if (!xG)=true then (some false) else ((QC UC.2.2.2.2.1).bind fun IJ=>(if IJ ≠ MV.2.2.2.2.1 then (some false) else ((U5 Zu.1 Zu.2.2.2.2.2.2.2.2.2.2.1 Zu.2.2.2.2.2.2.2.2.2.2.2.1 Zu.2.2.2.2.2.2.2.2.2.2.2.2.1 Zu.2.1 Zu.2.2.2.2.2.2.2.2.2.2.2.2.2.1 Zu.2.2.1 Zu.2.2.2.1 Zu.2.2.2.2.1 Zu.2.2.2.2.2.2.2.2.2.2.2.2.2.2 Zu.2.2.2.2.2.1 Zu.2.2.2.2.2.2.1 Zu.2.2.2.2.2.2.2.1 Zu.2.2.2.2.2.2.2.2.1 Zu.2.2.2.2.2.2.2.2.2.1 Zm ZI ZR Zx Yp Zr Zb ZC Y5 ZB YN Zk Ye Zd YO).bind fun rz=>(if (!rz)=true then (some false) else ((TZ YJ.1 YJ.2.1 YJ.2.2.1 YJ.2.2.2.2.2.2.2.2.2.2.2.1 YJ.2.2.2.1 YJ.2.2.2.2.2.2.2.2.2.2.2.2.1 YJ.2.2.2.2.2.2.2.2.2.2.2.2.2.1 YJ.2.2.2.2.2.2.2.2.2.2.2.2.2.2.1 YJ.2.2.2.2.2.2.2.2.2.2.2.2.2.2.2.1 YJ.2.2.2.2.2.2.2.2.2.2.2.2.2.2.2.2.1 YJ.2.2.2.2.2.2.2.2.2.2.2.2.2.2.2.2.2.1 YJ.2.2.2.2.2.2.2.2.2.2.2.2.2.2.2.2.2.2.1 YJ.2.2.2.2.1 YJ.2.2.2.2.2.2.2.2.2.2.2.2.2.2.2.2.2.2.2.1 YJ.2.2.2.2.2.2.2.2.2.2.2.2.2.2.2.2.2.2.2.2 YJ.2.2.2.2.2.1 YJ.2.2.2.2.2.2.1 YJ.2.2.2.2.2.2.2.1 YJ.2.2.2.2.2.2.2.2.1 YJ.2.2.2.2.2.2.2.2.2.1 YJ.2.2.2.2.2.2.2.2.2.2.1 WF X9 Yu Yz Wx Za YI YX Yj Y_ Zv YS Vl Yy Yf X8 Wv Ww Vm XD X_).bind fun FU=>(if (!FU)=true then (some false) else ((Tn UC.1 UC.2.1 UC.2.2.1 UC.2.2.2.2.2.1 UC.2.2.2.1 UC.2.2.2.2.2.2.1 UC.2.2.2.2.2.2.2.1 UC.2.2.2.2.2.2.2.2.1 UC.2.2.2.2.2.2.2.2.2.1 UC.2.2.2.2.2.2.2.2.2.2.1 UC.2.2.2.2.2.2.2.2.2.2.2.1 UC.2.2.2.2.2.2.2.2.2.2.2.2.1 0 UC.2.2.2.2.2.2.2.2.2.2.2.2.2.1 UC.2.2.2.2.2.2.2.2.2.2.2.2.2.2 0 ([]:Str) 0 0 ([]:Str) 0).bind fun IG=>(if (IG.2.2.2.2.2.2.2.2.2).length=(UC.2.2.2.2.2.1).length then (if (IG.2.2.2.2.2.2.2.2.1).length=(UC.2.2.2.2.2.2.1).length then (if (IG.2.2.2.2.2.2.2.1).length=(UC.2.2.2.2.2.2.2.1).length then (if (IG.2.2.2.2.2.2.1).length=(UC.2.2.2.2.2.2.2.2.1).length then (if (IG.2.2.2.2.2.1).length=(UC.2.2.2.2.2.2.2.2.2.1).length then (if (IG.2.2.2.2.1).length=(UC.2.2.2.2.2.2.2.2.2.2.1).length then (if (IG.2.2.2.1).length=(UC.2.2.2.2.2.2.2.2.2.2.2.1).length then (if (IG.2.2.1).length=(UC.2.2.2.2.2.2.2.2.2.2.2.2.1).length then (if (IG.2.1).length=(UC.2.2.2.2.2.2.2.2.2.2.2.2.2.1).length then (if (IG.1).length=(UC.2.2.2.2.2.2.2.2.2.2.2.2.2.2).length then ((U5 Zu.1 Zu.2.2.2.2.2.2.2.2.2.2.1 Zu.2.2.2.2.2.2.2.2.2.2.2.1 Zu.2.2.2.2.2.2.2.2.2.2.2.2.1 Zu.2.1 Zu.2.2.2.2.2.2.2.2.2.2.2.2.2.1 Zu.2.2.1 Zu.2.2.2.1 Zu.2.2.2.2.1 Zu.2.2.2.2.2.2.2.2.2.2.2.2.2.2 Zu.2.2.2.2.2.1 Zu.2.2.2.2.2.2.1 Zu.2.2.2.2.2.2.2.1 Zu.2.2.2.2.2.2.2.2.1 Zu.2.2.2.2.2.2.2.2.2.1 Zm ZI ZR Zx Yp Zr Zb ZC Y5 ZB YN Zk Ye Zd YO).bind fun Ff=>(if Ff=true then ((QN).bind fun vI=>(some vI)) else (some false))) else none) else none) else none) else none) else none) else none) else none) else none) else none) else none)))))))))))))))))))
theorem kK (YZ:Y6) (Y0:Nat) (Y1:Y6) (YY:Nat) (YC:Y6) (YH:Nat) (YG:Y6) (YF:Nat) (XR:Y6) (XP:Nat) (WP:Y6) (WO:Nat) (XV:Y6) (XU:Nat) (WS:Y6) (WQ:Nat) (Xy:Y6) (Xx:Nat) (VU:Y6) (VW:Nat) (WT:Y6) (WR:Nat) (Yl:Y6) (Ym:Nat) (Xw:Y6) (Xz:Nat) (WU:Y6) (WM:Nat) (VV:Y6) (VX:Nat) (Zm:Bool) (ZI ZR:List (Int)) (Zx:List (Str)) (Yp:Str) (Zr:List (Str)) (Zb:Str) (ZC:Int) (Y5:Str) (ZB:List (Str × Str × Int × Int × Int × Int)) (YN:Str) (Zk Ye:Int) (Zd YO WF:Int) (X9 Yu:Str) (Yz:List (Int)) (Wx:Str) (Za YI:List (Int)) (YX Yj:List (Int)) (Y_:List (Int × Str)) (Zv:List (Str × Int)) (YS:List (Str)) (Vl:Int) (Yy:List (Int)) (Yf:List (Str)) (X8:Int) (Wv:Str) (Ww Vm:Int) (XD:Str) (X_:Int) (again:Bool) (group:Int) (random session share:Str) (YV:(ZI).length≤Y0) (YD:(ZR).length≤YY) (Y8:(Zx).length≤YH) (Yq:(Zr).length≤YF) (Xk:(ZB).length≤XP) (W9:(Yz).length≤WO) (XW:(Za).length≤XU) (Xd:(YI).length≤WQ) (XA:(YX).length≤Xx) (Ws:(Yj).length≤VW) (WJ:(Y_).length≤WR) (Yd:(Zv).length≤Ym) (Xq:(YS).length≤Xz) (WL:(Yy).length≤WM) (V6:(Yf).length≤VX) (r:Bool) (H:Ra Zm ZI ZR Zx Yp Zr Zb ZC Y5 ZB YN Zk Ye Zd YO WF X9 Yu Yz Wx Za YI YX Yj Y_ Zv YS Vl Yy Yf X8 Wv Ww Vm XD X_ again group random session share=some r) :
  Does Tryz.prog 3 [aG [(1,[vb Zm]),(1,[sl YZ ((ZI).length) Y0]),(1,[sl Y1 ((ZR).length) YY]),(1,[sl YC ((Zx).length) YH]),(1,[vs Yp]),(1,[sl YG ((Zr).length) YF]),(1,[vs Zb]),(1,[vi ZC]),(1,[vs Y5]),(1,[sl XR ((ZB).length) XP]),(1,[vs YN]),(1,[vi Zk]),(1,[vi Ye]),(1,[vi Zd]),(1,[vi YO])],aG [(1,[vi WF]),(1,[vs X9]),(1,[vs Yu]),(1,[sl WP ((Yz).length) WO]),(1,[vs Wx]),(1,[sl XV ((Za).length) XU]),(1,[sl WS ((YI).length) WQ]),(1,[sl Xy ((YX).length) Xx]),(1,[sl VU ((Yj).length) VW]),(1,[sl WT ((Y_).length) WR]),(1,[sl Yl ((Zv).length) Ym]),(1,[sl Xw ((YS).length) Xz]),(1,[vi Vl]),(1,[sl WU ((Yy).length) WM]),(1,[sl VV ((Yf).length) VX]),(1,[vi X8]),(1,[vs Wv]),(1,[vi Ww]),(1,[vi Vm]),(1,[vs XD]),(1,[vi X_])],vb again,vi group,vs random,vs session,vs share] [] [⟨YZ,eI ZI⟩,⟨Y1,eI ZR⟩,⟨YC,eS Zx⟩,⟨YG,eS Zr⟩,⟨XR,eF (fun p:Str × Str × Int × Int × Int × Int=>[vs p.1,vs p.2.1,vi p.2.2.1,vi p.2.2.2.1,vi p.2.2.2.2.1,vi p.2.2.2.2.2]) ZB⟩,⟨WP,eI Yz⟩,⟨XV,eI Za⟩,⟨WS,eI YI⟩,⟨Xy,eI YX⟩,⟨VU,eI Yj⟩,⟨WT,eF (fun p:Int × Str=>[vi p.1,vs p.2]) Y_⟩,⟨Yl,eF (fun p:Str × Int=>[vs p.1,vi p.2]) Zv⟩,⟨Xw,eS YS⟩,⟨WU,eI Yy⟩,⟨VV,eS Yf⟩,⟨some (0,0),[vo]⟩] (Γ:=Unit) (fun g=>vb r) (fun g=>[]):=by
 intro w hmem hro hd
 refine Zn func3 rfl ntmps3 rfl hmem hro hd ?_
 unfold Ra at H
 refine Z_ (YE PT (fun b1=>?_))
 refine YE PT (fun b2=>?_)
 refine Y2 ?_
 refine Z6 (Wz [2,3,4,5,6,7,8] (rp 15 21++rp 21 0) rfl rfl ?_)
 refine ZY ?_
 have ⟨Zu,Yk,H⟩:=Z9 H
 have ⟨YJ,X6,H⟩:=Z9 H
 refine Ns (Γ:=Nat × Nat × ((Y6 × Y6 × Y6 × Y6 × Y6 × List (Int) × List (Int) × List (Str) × List (Str) × (List (Str × Str × Int × Int × Int × Int)))) × ((Y6 × Y6 × Y6 × Y6 × Y6 × Y6 × Y6 × Y6 × Y6 × Y6 × List (Int) × List (Int) × List (Int) × List (Int) × List (Int) × (List (Int × Str)) × (List (Str × Int)) × List (Str) × List (Int) × List (Str)))) (fun Tg=>[(2,vb again),(3,vi group),(4,vs random),(5,vs session),(6,vs share),(7,ptr (some (b1,0)) 0),(8,ptr (some (b2,0)) 0),(15,ptr (some (Tg.1,0)) 0),(16,ptr (some (Tg.2.1,0)) 0)]) (fun Tg=>[⟨some (b1,0),[vb Zm]⟩,⟨some (b1,1),[sl YZ ((ZI).length) Y0]⟩,⟨some (b1,2),[sl Y1 ((ZR).length) YY]⟩,⟨some (b1,3),[sl YC ((Zx).length) YH]⟩,⟨some (b1,4),[vs Yp]⟩,⟨some (b1,5),[sl YG ((Zr).length) YF]⟩,⟨some (b1,6),[vs Zb]⟩,⟨some (b1,7),[vi ZC]⟩,⟨some (b1,8),[vs Y5]⟩,⟨some (b1,9),[sl XR ((ZB).length) XP]⟩,⟨some (b1,10),[vs YN]⟩,⟨some (b1,11),[vi Zk]⟩,⟨some (b1,12),[vi Ye]⟩,⟨some (b1,13),[vi Zd]⟩,⟨some (b1,14),[vi YO]⟩,⟨some (b2,0),[vi WF]⟩,⟨some (b2,1),[vs X9]⟩,⟨some (b2,2),[vs Yu]⟩,⟨some (b2,3),[sl WP ((Yz).length) WO]⟩,⟨some (b2,4),[vs Wx]⟩,⟨some (b2,5),[sl XV ((Za).length) XU]⟩,⟨some (b2,6),[sl WS ((YI).length) WQ]⟩,⟨some (b2,7),[sl Xy ((YX).length) Xx]⟩,⟨some (b2,8),[sl VU ((Yj).length) VW]⟩,⟨some (b2,9),[sl WT ((Y_).length) WR]⟩,⟨some (b2,10),[sl Yl ((Zv).length) Ym]⟩,⟨some (b2,11),[sl Xw ((YS).length) Xz]⟩,⟨some (b2,12),[vi Vl]⟩,⟨some (b2,13),[sl WU ((Yy).length) WM]⟩,⟨some (b2,14),[sl VV ((Yf).length) VX]⟩,⟨some (b2,15),[vi X8]⟩,⟨some (b2,16),[vs Wv]⟩,⟨some (b2,17),[vi Ww]⟩,⟨some (b2,18),[vi Vm]⟩,⟨some (b2,19),[vs XD]⟩,⟨some (b2,20),[vi X_]⟩,⟨some (Tg.1,0),[vb Zu.1]⟩,⟨some (Tg.1,1),[sl Tg.2.2.1.1 ((Zu.2.2.2.2.2.2.2.2.2.2.1).length) ((Zu.2.2.2.2.2.2.2.2.2.2.1++Tg.2.2.1.2.2.2.2.2.1).length)]⟩,⟨Tg.2.2.1.1,eI (Zu.2.2.2.2.2.2.2.2.2.2.1++Tg.2.2.1.2.2.2.2.2.1)⟩,⟨some (Tg.1,2),[sl Tg.2.2.1.2.1 ((Zu.2.2.2.2.2.2.2.2.2.2.2.1).length) ((Zu.2.2.2.2.2.2.2.2.2.2.2.1++Tg.2.2.1.2.2.2.2.2.2.1).length)]⟩,⟨Tg.2.2.1.2.1,eI (Zu.2.2.2.2.2.2.2.2.2.2.2.1++Tg.2.2.1.2.2.2.2.2.2.1)⟩,⟨some (Tg.1,3),[sl Tg.2.2.1.2.2.1 ((Zu.2.2.2.2.2.2.2.2.2.2.2.2.1).length) ((Zu.2.2.2.2.2.2.2.2.2.2.2.2.1++Tg.2.2.1.2.2.2.2.2.2.2.1).length)]⟩,⟨Tg.2.2.1.2.2.1,eS (Zu.2.2.2.2.2.2.2.2.2.2.2.2.1++Tg.2.2.1.2.2.2.2.2.2.2.1)⟩,⟨some (Tg.1,4),[vs Zu.2.1]⟩,⟨some (Tg.1,5),[sl Tg.2.2.1.2.2.2.1 ((Zu.2.2.2.2.2.2.2.2.2.2.2.2.2.1).length) ((Zu.2.2.2.2.2.2.2.2.2.2.2.2.2.1++Tg.2.2.1.2.2.2.2.2.2.2.2.1).length)]⟩,⟨Tg.2.2.1.2.2.2.1,eS (Zu.2.2.2.2.2.2.2.2.2.2.2.2.2.1++Tg.2.2.1.2.2.2.2.2.2.2.2.1)⟩,⟨some (Tg.1,6),[vs Zu.2.2.1]⟩,⟨some (Tg.1,7),[vi Zu.2.2.2.1]⟩,⟨some (Tg.1,8),[vs Zu.2.2.2.2.1]⟩,⟨some (Tg.1,9),[sl Tg.2.2.1.2.2.2.2.1 ((Zu.2.2.2.2.2.2.2.2.2.2.2.2.2.2).length) ((Zu.2.2.2.2.2.2.2.2.2.2.2.2.2.2++Tg.2.2.1.2.2.2.2.2.2.2.2.2).length)]⟩,⟨Tg.2.2.1.2.2.2.2.1,eF (fun p:Str × Str × Int × Int × Int × Int=>[vs p.1,vs p.2.1,vi p.2.2.1,vi p.2.2.2.1,vi p.2.2.2.2.1,vi p.2.2.2.2.2]) (Zu.2.2.2.2.2.2.2.2.2.2.2.2.2.2++Tg.2.2.1.2.2.2.2.2.2.2.2.2)⟩,⟨some (Tg.1,10),[vs Zu.2.2.2.2.2.1]⟩,⟨some (Tg.1,11),[vi Zu.2.2.2.2.2.2.1]⟩,⟨some (Tg.1,12),[vi Zu.2.2.2.2.2.2.2.1]⟩,⟨some (Tg.1,13),[vi Zu.2.2.2.2.2.2.2.2.1]⟩,⟨some (Tg.1,14),[vi Zu.2.2.2.2.2.2.2.2.2.1]⟩,⟨some (Tg.2.1,0),[vi YJ.1]⟩,⟨some (Tg.2.1,1),[vs YJ.2.1]⟩,⟨some (Tg.2.1,2),[vs YJ.2.2.1]⟩,⟨some (Tg.2.1,3),[sl Tg.2.2.2.1 ((YJ.2.2.2.2.2.2.2.2.2.2.2.1).length) ((YJ.2.2.2.2.2.2.2.2.2.2.2.1++Tg.2.2.2.2.2.2.2.2.2.2.2.2.2.1).length)]⟩,⟨Tg.2.2.2.1,eI (YJ.2.2.2.2.2.2.2.2.2.2.2.1++Tg.2.2.2.2.2.2.2.2.2.2.2.2.2.1)⟩,⟨some (Tg.2.1,4),[vs YJ.2.2.2.1]⟩,⟨some (Tg.2.1,5),[sl Tg.2.2.2.2.1 ((YJ.2.2.2.2.2.2.2.2.2.2.2.2.1).length) ((YJ.2.2.2.2.2.2.2.2.2.2.2.2.1++Tg.2.2.2.2.2.2.2.2.2.2.2.2.2.2.1).length)]⟩,⟨Tg.2.2.2.2.1,eI (YJ.2.2.2.2.2.2.2.2.2.2.2.2.1++Tg.2.2.2.2.2.2.2.2.2.2.2.2.2.2.1)⟩,⟨some (Tg.2.1,6),[sl Tg.2.2.2.2.2.1 ((YJ.2.2.2.2.2.2.2.2.2.2.2.2.2.1).length) ((YJ.2.2.2.2.2.2.2.2.2.2.2.2.2.1++Tg.2.2.2.2.2.2.2.2.2.2.2.2.2.2.2.1).length)]⟩,⟨Tg.2.2.2.2.2.1,eI (YJ.2.2.2.2.2.2.2.2.2.2.2.2.2.1++Tg.2.2.2.2.2.2.2.2.2.2.2.2.2.2.2.1)⟩,⟨some (Tg.2.1,7),[sl Tg.2.2.2.2.2.2.1 ((YJ.2.2.2.2.2.2.2.2.2.2.2.2.2.2.1).length) ((YJ.2.2.2.2.2.2.2.2.2.2.2.2.2.2.1++Tg.2.2.2.2.2.2.2.2.2.2.2.2.2.2.2.2.1).length)]⟩,⟨Tg.2.2.2.2.2.2.1,eI (YJ.2.2.2.2.2.2.2.2.2.2.2.2.2.2.1++Tg.2.2.2.2.2.2.2.2.2.2.2.2.2.2.2.2.1)⟩,⟨some (Tg.2.1,8),[sl Tg.2.2.2.2.2.2.2.1 ((YJ.2.2.2.2.2.2.2.2.2.2.2.2.2.2.2.1).length) ((YJ.2.2.2.2.2.2.2.2.2.2.2.2.2.2.2.1++Tg.2.2.2.2.2.2.2.2.2.2.2.2.2.2.2.2.2.1).length)]⟩,⟨Tg.2.2.2.2.2.2.2.1,eI (YJ.2.2.2.2.2.2.2.2.2.2.2.2.2.2.2.1++Tg.2.2.2.2.2.2.2.2.2.2.2.2.2.2.2.2.2.1)⟩,⟨some (Tg.2.1,9),[sl Tg.2.2.2.2.2.2.2.2.1 ((YJ.2.2.2.2.2.2.2.2.2.2.2.2.2.2.2.2.1).length) ((YJ.2.2.2.2.2.2.2.2.2.2.2.2.2.2.2.2.1++Tg.2.2.2.2.2.2.2.2.2.2.2.2.2.2.2.2.2.2.1).length)]⟩,⟨Tg.2.2.2.2.2.2.2.2.1,eF (fun p:Int × Str=>[vi p.1,vs p.2]) (YJ.2.2.2.2.2.2.2.2.2.2.2.2.2.2.2.2.1++Tg.2.2.2.2.2.2.2.2.2.2.2.2.2.2.2.2.2.2.1)⟩,⟨some (Tg.2.1,10),[sl Tg.2.2.2.2.2.2.2.2.2.1 ((YJ.2.2.2.2.2.2.2.2.2.2.2.2.2.2.2.2.2.1).length) ((YJ.2.2.2.2.2.2.2.2.2.2.2.2.2.2.2.2.2.1++Tg.2.2.2.2.2.2.2.2.2.2.2.2.2.2.2.2.2.2.2.1).length)]⟩,⟨Tg.2.2.2.2.2.2.2.2.2.1,eF (fun p:Str × Int=>[vs p.1,vi p.2]) (YJ.2.2.2.2.2.2.2.2.2.2.2.2.2.2.2.2.2.1++Tg.2.2.2.2.2.2.2.2.2.2.2.2.2.2.2.2.2.2.2.1)⟩,⟨some (Tg.2.1,11),[sl Tg.2.2.2.2.2.2.2.2.2.2.1 ((YJ.2.2.2.2.2.2.2.2.2.2.2.2.2.2.2.2.2.2.1).length) ((YJ.2.2.2.2.2.2.2.2.2.2.2.2.2.2.2.2.2.2.1++Tg.2.2.2.2.2.2.2.2.2.2.2.2.2.2.2.2.2.2.2.2.1).length)]⟩,⟨Tg.2.2.2.2.2.2.2.2.2.2.1,eS (YJ.2.2.2.2.2.2.2.2.2.2.2.2.2.2.2.2.2.2.1++Tg.2.2.2.2.2.2.2.2.2.2.2.2.2.2.2.2.2.2.2.2.1)⟩,⟨some (Tg.2.1,12),[vi YJ.2.2.2.2.1]⟩,⟨some (Tg.2.1,13),[sl Tg.2.2.2.2.2.2.2.2.2.2.2.1 ((YJ.2.2.2.2.2.2.2.2.2.2.2.2.2.2.2.2.2.2.2.1).length) ((YJ.2.2.2.2.2.2.2.2.2.2.2.2.2.2.2.2.2.2.2.1++Tg.2.2.2.2.2.2.2.2.2.2.2.2.2.2.2.2.2.2.2.2.2.1).length)]⟩,⟨Tg.2.2.2.2.2.2.2.2.2.2.2.1,eI (YJ.2.2.2.2.2.2.2.2.2.2.2.2.2.2.2.2.2.2.2.1++Tg.2.2.2.2.2.2.2.2.2.2.2.2.2.2.2.2.2.2.2.2.2.1)⟩,⟨some (Tg.2.1,14),[sl Tg.2.2.2.2.2.2.2.2.2.2.2.2.1 ((YJ.2.2.2.2.2.2.2.2.2.2.2.2.2.2.2.2.2.2.2.2).length) ((YJ.2.2.2.2.2.2.2.2.2.2.2.2.2.2.2.2.2.2.2.2++Tg.2.2.2.2.2.2.2.2.2.2.2.2.2.2.2.2.2.2.2.2.2.2).length)]⟩,⟨Tg.2.2.2.2.2.2.2.2.2.2.2.2.1,eS (YJ.2.2.2.2.2.2.2.2.2.2.2.2.2.2.2.2.2.2.2.2++Tg.2.2.2.2.2.2.2.2.2.2.2.2.2.2.2.2.2.2.2.2.2.2)⟩,⟨some (Tg.2.1,15),[vi YJ.2.2.2.2.2.1]⟩,⟨some (Tg.2.1,16),[vs YJ.2.2.2.2.2.2.1]⟩,⟨some (Tg.2.1,17),[vi YJ.2.2.2.2.2.2.2.1]⟩,⟨some (Tg.2.1,18),[vi YJ.2.2.2.2.2.2.2.2.1]⟩,⟨some (Tg.2.1,19),[vs YJ.2.2.2.2.2.2.2.2.2.1]⟩,⟨some (Tg.2.1,20),[vi YJ.2.2.2.2.2.2.2.2.2.2.1]⟩]) ?_ ?_
 ·intro Tg
  obtain ⟨b3,hgd⟩ : ∃ z,z=Tg.1:=⟨_,rfl⟩; rw [← hgd]; clear hgd
  obtain ⟨b4,hgd⟩ : ∃ z,z=Tg.2.1:=⟨_,rfl⟩; rw [← hgd]; clear hgd
  obtain ⟨Re,hgd⟩ : ∃ z,z=Tg.2.2.1:=⟨_,rfl⟩; rw [← hgd]; clear hgd
  obtain ⟨UD,hgd⟩ : ∃ z,z=Tg.2.2.2:=⟨_,rfl⟩; rw [← hgd]; clear hgd
  refine Z7 (Z_ (ZV (VY [36,37,39,41,43,44,46,47,48,49,51,52,53,54,55] rfl rfl isAgg26 We) ?_))
  refine ZV (VY [56,57,58,59,61,62,64,66,68,70,72,74,76,77,79,81,82,83,84,85,86] rfl rfl isAgg30 Xg) ?_
  refine Zj 2 rfl ?_
  have ⟨X7,Vt,H⟩:=Z9 H
  refine YE (Y4 (Cc (Zy _ _) (Zy _ _) (Zy _ _) (Zy _ _) (Zy _ _) (Zy _ _) (Zy _ _) (Zy _ _) (Zy _ _) (Zy _ _) (Zy _ _) (Zy _ _) (Zy _ _) (Zy _ _) (Zy _ _) Vt :) call12 ⟨(Zt (.o 38)),(Zt (.o 40)),(Zt (.o 42)),(Zt (.o 45)),(Xt (s:=6) (fun _=>rfl) (.o 50)),(Zt (.o 60)),(Zt (.o 63)),(Zt (.o 65)),(Zt (.o 67)),(Zt (.o 69)),(Xt (s:=2) (fun _=>rfl) (.o 71)),(Xt (s:=2) (fun _=>rfl) (.o 73)),(Zt (.o 75)),(Zt (.o 78)),(Zt (.o 80)), .r 15,trivial⟩) (fun Pm=>?_)
  refine YE (SL XE LZ) (fun b5=>?_)
  refine VM (VZ [0,0,0,0,0,0] rfl rfl XE) (fun _=>?_)
  refine Z6 (Wz [2,3,4,5,6,7,8,15,16,17] (rp 87 6++rp 6 0) rfl rfl ?_)
  refine Z_ (ZV (VY [0,1,2,3,4,5,6,7,8,9,10,11,12,13,14] rfl rfl isAgg26 We) ?_)
  refine ZV (VY [15,16,17,18,19,20,21,22,23,24,25,26,27,28,29,30,31,32,33,34,35] rfl rfl isAgg30 Xg) ?_
  refine Zj 2 rfl ?_
  have ⟨Xu,UH,H⟩:=Z9 H
  refine YE (Y4 (qR YV YD Y8 Yq Xk W9 XW Xd XA Ws WJ Yd Xq WL V6 UH :) call13 ⟨.r 0, .r 1, .r 2, .r 3, .r 4, .r 5, .r 6, .r 7, .r 8, .r 9, .r 10, .r 11, .r 12, .r 13, .r 14,trivial⟩) (fun JV=>?_)
  refine YE (SL XE LZ) (fun b6=>?_)
  refine VM (VZ [0,0,0,0,0,0] rfl rfl XE) (fun _=>?_)
  refine Z6 (Wz [4,5,6,7,8,15,16,17,18] (rp 93 6++rp 6 0) rfl rfl ?_)
  refine Z_ (ZV (VY [36,37,39,41,43,44,46,47,48,49,51,52,53,54,55] rfl rfl isAgg26 We) ?_)
  refine Zj 3 rfl ?_
  have ⟨UC,Qi,H⟩:=Z9 H
  refine YE (Wq (is:=[]) rfl call14 (FY (Zy _ _) (Zy _ _) (Zy _ _) (Zy _ _) (Zy _ _) Qi :) rfl ⟨(Zt (.o 38)),(Zt (.o 40)),(Zt (.o 42)),(Zt (.o 45)),(Xt (s:=6) (fun _=>rfl) (.o 50)),trivial⟩) (fun zM=>?_)
  refine Zj 3 rfl ?_
  refine YE (SL Xg Pw) (fun b7=>?_)
  refine Mo [zS,zI,zS,zA,zB,zI,zI,zI,zI,zI] rfl ?_
  refine VM (VZ (rp 21 10) rfl rfl Xg) (fun _=>?_)
  refine Y2 ?_
  refine Z6 (Wz [4,5,6,7,8,15,16,17,18,19,20] (rp 99 41++rp 4 0++27 :: 0 :: 0 :: 25 :: 0 :: 24 :: 0 :: 23 :: 0 :: 22 :: 0 :: 21 :: 0 :: 20 :: 0 :: 19 :: 0 :: 0 :: 17 :: 0 :: 16 :: rp 6 0) rfl rfl ?_)
  refine Z_ (ZV (VY [0,1,2,3,4,5,6,7,8,9,10,11,12,13,14] rfl rfl isAgg26 We) ?_)
  refine Zj 3 rfl ?_
  have ⟨MV,KG,H⟩:=Z9 H
  refine YE (Wq (is:=[]) rfl call15 (rQ YV YD Y8 Yq Xk KG :) rfl ⟨.r 0, .r 1, .r 2, .r 3, .r 4,trivial⟩) (fun jV=>?_)
  refine Zj 3 rfl ?_
  refine YE (SL Xg Pw) (fun b8=>?_)
  refine Mo [zS,zI,zS,zA,zB,zI,zI,zI,zI,zI] rfl ?_
  refine VM (VZ (rp 21 10) rfl rfl Xg) (fun _=>?_)
  refine Y2 ?_
  refine Z6 (Wz [7,8,15,16,17,18,19,20,21,22] (rp 130 41++rp 4 0++27 :: 0 :: 0 :: 25 :: 0 :: 24 :: 0 :: 23 :: 0 :: 22 :: 0 :: 21 :: 0 :: 20 :: 0 :: 19 :: 0 :: 0 :: 17 :: 0 :: 16 :: rp 6 0) rfl rfl ?_)
  refine ZY (ZY ?_)
  have ⟨JM,L_,H⟩:=Z9 H
  have ⟨JY,JL,H⟩:=Z9 H
  refine UI (!(JM == JY)) (fun GY=>?_) (fun GY=>?_)
  ·replace H:=U8 GY H
   refine U3 (rp 161 0) 34 rfl ?_
   refine Zz 0 rfl (VY [36,37,39,41,43,44,46,47,48,49,51,52,53,54,55] rfl rfl isAgg26 We) ?_
   refine Zz 2 rfl (VY [0,1,2,3,4,5,6,7,8,9,10,11,12,13,14] rfl rfl isAgg26 We) ?_
   refine Tm 1 (rp 161 0) rfl (Y4 (Qv (Zy _ _) (Zy _ _) (Zy _ _) (Zy _ _) (Zy _ _) L_ :) call16 ⟨(Zt (.o 38)),(Zt (.o 40)),(Zt (.o 42)),(Zt (.o 45)),(Xt (s:=6) (fun _=>rfl) (.o 50)),trivial⟩) (fun _=>rfl) (fun rE=>?_)
   refine Tm 3 (rp 161 0) rfl (Y4 (Ox YV YD Y8 Yq Xk JL :) call17 ⟨.r 0, .r 1, .r 2, .r 3, .r 4,trivial⟩) (fun _=>rfl) (fun jY=>?_)
   refine Zz 4 rfl (Zg rfl rfl (fun w=>pR w JM JY underlying4)) ?_
   refine YA 0 5 rfl ?_
   refine Xb 58 (congrArg vb GY) ?_
   refine YA 27 6 rfl ?_
   refine Vi ?_
   refine Z7 (Wz [7,15,19,86] (rp 15 0++rp 20 21++rp 31 64) rfl rfl ?_)
   refine VI rfl ?_
   refine Z_ (Y2 ?_)
   refine Zq (ZZ ?_)
   obtain rfl:=sj H
   exact Wj
  replace H:=U7 (Bool.eq_false_iff.1 GY) H
  refine UI (!(Lf.all [Lf.i X7.1,Lf.i X7.2.1,Lf.s X7.2.2.1,Lf.b X7.2.2.2.1,Lf.b X7.2.2.2.2.1,Lf.i X7.2.2.2.2.2] [Lf.i Xu.1,Lf.i Xu.2.1,Lf.s Xu.2.2.1,Lf.b Xu.2.2.2.1,Lf.b Xu.2.2.2.2.1,Lf.i Xu.2.2.2.2.2])) (fun JG=>?_) (fun JG=>?_)
  ·replace H:=U8 JG H
   refine U3 (rp 161 0) 34 rfl ?_
   refine Zz 0 rfl (VY [36,37,39,41,43,44,46,47,48,49,51,52,53,54,55] rfl rfl isAgg26 We) ?_
   refine Zz 2 rfl (VY [0,1,2,3,4,5,6,7,8,9,10,11,12,13,14] rfl rfl isAgg26 We) ?_
   refine Tm 1 (rp 161 0) rfl (Y4 (Qv (Zy _ _) (Zy _ _) (Zy _ _) (Zy _ _) (Zy _ _) L_ :) call16 ⟨(Zt (.o 38)),(Zt (.o 40)),(Zt (.o 42)),(Zt (.o 45)),(Xt (s:=6) (fun _=>rfl) (.o 50)),trivial⟩) (fun _=>rfl) (fun rE=>?_)
   refine Tm 3 (rp 161 0) rfl (Y4 (Ox YV YD Y8 Yq Xk JL :) call17 ⟨.r 0, .r 1, .r 2, .r 3, .r 4,trivial⟩) (fun _=>rfl) (fun jY=>?_)
   refine Zz 4 rfl (Zg rfl rfl (fun w=>pR w JM JY underlying4)) ?_
   refine YA 0 5 rfl ?_
   refine Xb 58 (congrArg vb GY) ?_
   refine Zz 6 rfl (VY [87,88,89,90,91,92] rfl rfl isAgg34 XE) ?_
   refine Zz 7 rfl (VY [93,94,95,96,97,98] rfl rfl isAgg34 XE) ?_
   refine Zz 8 rfl (Zg rfl rfl (fun w=>FB w underlying34 (by kernel_rfl) (by kernel_rfl) [Lf.i X7.1,Lf.i X7.2.1,Lf.s X7.2.2.1,Lf.b X7.2.2.2.1,Lf.b X7.2.2.2.2.1,Lf.i X7.2.2.2.2.2] [Lf.i Xu.1,Lf.i Xu.2.1,Lf.s Xu.2.2.1,Lf.b Xu.2.2.2.1,Lf.b Xu.2.2.2.2.1,Lf.i Xu.2.2.2.2.2] (by kernel_rfl) (by kernel_rfl) (by kernel_rfl) (by kernel_rfl))) ?_
   refine YA 1 9 rfl ?_
   refine Xb 63 (congrArg vb JG) ?_
   refine YA 22 11 rfl ?_
   refine Vi ?_
   refine Z7 (Wz [7,15,19,86] (rp 15 0++rp 20 21++rp 31 64) rfl rfl ?_)
   refine VI rfl ?_
   refine Z_ (Y2 ?_)
   refine Zq (ZZ ?_)
   obtain rfl:=sj H
   exact Wj
  replace H:=U7 (Bool.eq_false_iff.1 JG) H
  have ⟨xG,CP,H⟩:=Z9 H
  refine UI (!xG) (fun Ib=>?_) (fun Ib=>?_)
  ·replace H:=U8 Ib H
   refine U3 (rp 161 0) 34 rfl ?_
   refine Zz 0 rfl (VY [36,37,39,41,43,44,46,47,48,49,51,52,53,54,55] rfl rfl isAgg26 We) ?_
   refine Zz 2 rfl (VY [0,1,2,3,4,5,6,7,8,9,10,11,12,13,14] rfl rfl isAgg26 We) ?_
   refine Tm 1 (rp 161 0) rfl (Y4 (Qv (Zy _ _) (Zy _ _) (Zy _ _) (Zy _ _) (Zy _ _) L_ :) call16 ⟨(Zt (.o 38)),(Zt (.o 40)),(Zt (.o 42)),(Zt (.o 45)),(Xt (s:=6) (fun _=>rfl) (.o 50)),trivial⟩) (fun _=>rfl) (fun rE=>?_)
   refine Tm 3 (rp 161 0) rfl (Y4 (Ox YV YD Y8 Yq Xk JL :) call17 ⟨.r 0, .r 1, .r 2, .r 3, .r 4,trivial⟩) (fun _=>rfl) (fun jY=>?_)
   refine Zz 4 rfl (Zg rfl rfl (fun w=>pR w JM JY underlying4)) ?_
   refine YA 0 5 rfl ?_
   refine Xb 58 (congrArg vb GY) ?_
   refine Zz 6 rfl (VY [87,88,89,90,91,92] rfl rfl isAgg34 XE) ?_
   refine Zz 7 rfl (VY [93,94,95,96,97,98] rfl rfl isAgg34 XE) ?_
   refine Zz 8 rfl (Zg rfl rfl (fun w=>FB w underlying34 (by kernel_rfl) (by kernel_rfl) [Lf.i X7.1,Lf.i X7.2.1,Lf.s X7.2.2.1,Lf.b X7.2.2.2.1,Lf.b X7.2.2.2.2.1,Lf.i X7.2.2.2.2.2] [Lf.i Xu.1,Lf.i Xu.2.1,Lf.s Xu.2.2.1,Lf.b Xu.2.2.2.1,Lf.b Xu.2.2.2.2.1,Lf.i Xu.2.2.2.2.2] (by kernel_rfl) (by kernel_rfl) (by kernel_rfl) (by kernel_rfl))) ?_
   refine YA 1 9 rfl ?_
   refine Xb 63 (congrArg vb JG) ?_
   refine Zz 11 rfl (VY [99,100,101,102,104,105,107,109,111,113,115,117,119,120,122,124,125,126,127,128,129] rfl rfl isAgg30 Xg) ?_
   refine Zz 12 rfl (VY [130,131,132,133,135,136,138,140,142,144,146,148,150,151,153,155,156,157,158,159,160] rfl rfl isAgg30 Xg) ?_
   refine Tm 13 (rp 161 0) rfl (Y4 (K9 (Zy _ _) (Zy _ _) (Zy _ _) (Zy _ _) (Zy _ _) (Zy _ _) (Zy _ _) (Zy _ _) (Zy _ _) (Zy _ _) (Zy _ _) (Zy _ _) (Zy _ _) (Zy _ _) (Zy _ _) (Zy _ _) (Zy _ _) (Zy _ _) (Zy _ _) (Zy _ _) CP :) call18 ⟨(Zt (.o 103)),(Zt (.o 106)),(Zt (.o 108)),(Zt (.o 110)),(Zt (.o 112)),(Xt (s:=2) (fun _=>rfl) (.o 114)),(Xt (s:=2) (fun _=>rfl) (.o 116)),(Zt (.o 118)),(Zt (.o 121)),(Zt (.o 123)),(Zt (.o 134)),(Zt (.o 137)),(Zt (.o 139)),(Zt (.o 141)),(Zt (.o 143)),(Xt (s:=2) (fun _=>rfl) (.o 145)),(Xt (s:=2) (fun _=>rfl) (.o 147)),(Zt (.o 149)),(Zt (.o 152)),(Zt (.o 154)),trivial⟩) (fun _=>rfl) (fun g_9=>?_)
   refine Zz 14 rfl (UF T_) ?_
   refine YA 1 15 rfl ?_
   refine Xb 69 (congrArg vb Ib) ?_
   refine YA 16 17 rfl ?_
   refine Vi ?_
   refine Z7 (Wz [7,15,19,86] (rp 15 0++rp 20 21++rp 31 64) rfl rfl ?_)
   refine VI rfl ?_
   refine Z_ (Y2 ?_)
   refine Zq (ZZ ?_)
   obtain rfl:=sj H
   exact Wj
  replace H:=U7 (Bool.eq_false_iff.1 Ib) H
  have ⟨IJ,Gx,H⟩:=Z9 H
  refine UI (decide (IJ ≠ MV.2.2.2.2.1)) (fun Gm=>?_) (fun Gm=>?_)
  ·replace H:=U8 (of_decide_eq_true Gm) H
   refine U3 (rp 161 0) 34 rfl ?_
   refine Zz 0 rfl (VY [36,37,39,41,43,44,46,47,48,49,51,52,53,54,55] rfl rfl isAgg26 We) ?_
   refine Zz 2 rfl (VY [0,1,2,3,4,5,6,7,8,9,10,11,12,13,14] rfl rfl isAgg26 We) ?_
   refine Tm 1 (rp 161 0) rfl (Y4 (Qv (Zy _ _) (Zy _ _) (Zy _ _) (Zy _ _) (Zy _ _) L_ :) call16 ⟨(Zt (.o 38)),(Zt (.o 40)),(Zt (.o 42)),(Zt (.o 45)),(Xt (s:=6) (fun _=>rfl) (.o 50)),trivial⟩) (fun _=>rfl) (fun rE=>?_)
   refine Tm 3 (rp 161 0) rfl (Y4 (Ox YV YD Y8 Yq Xk JL :) call17 ⟨.r 0, .r 1, .r 2, .r 3, .r 4,trivial⟩) (fun _=>rfl) (fun jY=>?_)
   refine Zz 4 rfl (Zg rfl rfl (fun w=>pR w JM JY underlying4)) ?_
   refine YA 0 5 rfl ?_
   refine Xb 58 (congrArg vb GY) ?_
   refine Zz 6 rfl (VY [87,88,89,90,91,92] rfl rfl isAgg34 XE) ?_
   refine Zz 7 rfl (VY [93,94,95,96,97,98] rfl rfl isAgg34 XE) ?_
   refine Zz 8 rfl (Zg rfl rfl (fun w=>FB w underlying34 (by kernel_rfl) (by kernel_rfl) [Lf.i X7.1,Lf.i X7.2.1,Lf.s X7.2.2.1,Lf.b X7.2.2.2.1,Lf.b X7.2.2.2.2.1,Lf.i X7.2.2.2.2.2] [Lf.i Xu.1,Lf.i Xu.2.1,Lf.s Xu.2.2.1,Lf.b Xu.2.2.2.1,Lf.b Xu.2.2.2.2.1,Lf.i Xu.2.2.2.2.2] (by kernel_rfl) (by kernel_rfl) (by kernel_rfl) (by kernel_rfl))) ?_
   refine YA 1 9 rfl ?_
   refine Xb 63 (congrArg vb JG) ?_
   refine Zz 11 rfl (VY [99,100,101,102,104,105,107,109,111,113,115,117,119,120,122,124,125,126,127,128,129] rfl rfl isAgg30 Xg) ?_
   refine Zz 12 rfl (VY [130,131,132,133,135,136,138,140,142,144,146,148,150,151,153,155,156,157,158,159,160] rfl rfl isAgg30 Xg) ?_
   refine Tm 13 (rp 161 0) rfl (Y4 (K9 (Zy _ _) (Zy _ _) (Zy _ _) (Zy _ _) (Zy _ _) (Zy _ _) (Zy _ _) (Zy _ _) (Zy _ _) (Zy _ _) (Zy _ _) (Zy _ _) (Zy _ _) (Zy _ _) (Zy _ _) (Zy _ _) (Zy _ _) (Zy _ _) (Zy _ _) (Zy _ _) CP :) call18 ⟨(Zt (.o 103)),(Zt (.o 106)),(Zt (.o 108)),(Zt (.o 110)),(Zt (.o 112)),(Xt (s:=2) (fun _=>rfl) (.o 114)),(Xt (s:=2) (fun _=>rfl) (.o 116)),(Zt (.o 118)),(Zt (.o 121)),(Zt (.o 123)),(Zt (.o 134)),(Zt (.o 137)),(Zt (.o 139)),(Zt (.o 141)),(Zt (.o 143)),(Xt (s:=2) (fun _=>rfl) (.o 145)),(Xt (s:=2) (fun _=>rfl) (.o 147)),(Zt (.o 149)),(Zt (.o 152)),(Zt (.o 154)),trivial⟩) (fun _=>rfl) (fun g_9=>?_)
   refine Zz 14 rfl (UF T_) ?_
   refine YA 1 15 rfl ?_
   refine Xb 69 (congrArg vb Ib) ?_
   refine YA 0 17 rfl ?_
   refine YA 0 19 rfl ?_
   refine Tm 18 (rp 161 0) rfl (Y4 (KL Gx :) call19 .z) (fun _=>rfl) (fun mY=>?_)
   refine Zz 20 rfl (ZT SN) ?_
   refine YA 1 21 rfl ?_
   refine Xb 75 (congrArg vb Gm) ?_
   refine YA 10 23 rfl ?_
   refine Vi ?_
   refine Z7 (Wz [7,15,19,86] (rp 15 0++rp 20 21++rp 31 64) rfl rfl ?_)
   refine VI rfl ?_
   refine Z_ (Y2 ?_)
   refine Zq (ZZ ?_)
   obtain rfl:=sj H
   exact Wj
  replace H:=U7 (of_decide_eq_false Gm) H
  have ⟨rz,vk,H⟩:=Z9 H
  refine UI (!rz) (fun Di=>?_) (fun Di=>?_)
  ·replace H:=U8 Di H
   refine U3 (rp 161 0) 34 rfl ?_
   refine Zz 0 rfl (VY [36,37,39,41,43,44,46,47,48,49,51,52,53,54,55] rfl rfl isAgg26 We) ?_
   refine Zz 2 rfl (VY [0,1,2,3,4,5,6,7,8,9,10,11,12,13,14] rfl rfl isAgg26 We) ?_
   refine Tm 1 (rp 161 0) rfl (Y4 (Qv (Zy _ _) (Zy _ _) (Zy _ _) (Zy _ _) (Zy _ _) L_ :) call16 ⟨(Zt (.o 38)),(Zt (.o 40)),(Zt (.o 42)),(Zt (.o 45)),(Xt (s:=6) (fun _=>rfl) (.o 50)),trivial⟩) (fun _=>rfl) (fun rE=>?_)
   refine Tm 3 (rp 161 0) rfl (Y4 (Ox YV YD Y8 Yq Xk JL :) call17 ⟨.r 0, .r 1, .r 2, .r 3, .r 4,trivial⟩) (fun _=>rfl) (fun jY=>?_)
   refine Zz 4 rfl (Zg rfl rfl (fun w=>pR w JM JY underlying4)) ?_
   refine YA 0 5 rfl ?_
   refine Xb 58 (congrArg vb GY) ?_
   refine Zz 6 rfl (VY [87,88,89,90,91,92] rfl rfl isAgg34 XE) ?_
   refine Zz 7 rfl (VY [93,94,95,96,97,98] rfl rfl isAgg34 XE) ?_
   refine Zz 8 rfl (Zg rfl rfl (fun w=>FB w underlying34 (by kernel_rfl) (by kernel_rfl) [Lf.i X7.1,Lf.i X7.2.1,Lf.s X7.2.2.1,Lf.b X7.2.2.2.1,Lf.b X7.2.2.2.2.1,Lf.i X7.2.2.2.2.2] [Lf.i Xu.1,Lf.i Xu.2.1,Lf.s Xu.2.2.1,Lf.b Xu.2.2.2.1,Lf.b Xu.2.2.2.2.1,Lf.i Xu.2.2.2.2.2] (by kernel_rfl) (by kernel_rfl) (by kernel_rfl) (by kernel_rfl))) ?_
   refine YA 1 9 rfl ?_
   refine Xb 63 (congrArg vb JG) ?_
   refine Zz 11 rfl (VY [99,100,101,102,104,105,107,109,111,113,115,117,119,120,122,124,125,126,127,128,129] rfl rfl isAgg30 Xg) ?_
   refine Zz 12 rfl (VY [130,131,132,133,135,136,138,140,142,144,146,148,150,151,153,155,156,157,158,159,160] rfl rfl isAgg30 Xg) ?_
   refine Tm 13 (rp 161 0) rfl (Y4 (K9 (Zy _ _) (Zy _ _) (Zy _ _) (Zy _ _) (Zy _ _) (Zy _ _) (Zy _ _) (Zy _ _) (Zy _ _) (Zy _ _) (Zy _ _) (Zy _ _) (Zy _ _) (Zy _ _) (Zy _ _) (Zy _ _) (Zy _ _) (Zy _ _) (Zy _ _) (Zy _ _) CP :) call18 ⟨(Zt (.o 103)),(Zt (.o 106)),(Zt (.o 108)),(Zt (.o 110)),(Zt (.o 112)),(Xt (s:=2) (fun _=>rfl) (.o 114)),(Xt (s:=2) (fun _=>rfl) (.o 116)),(Zt (.o 118)),(Zt (.o 121)),(Zt (.o 123)),(Zt (.o 134)),(Zt (.o 137)),(Zt (.o 139)),(Zt (.o 141)),(Zt (.o 143)),(Xt (s:=2) (fun _=>rfl) (.o 145)),(Xt (s:=2) (fun _=>rfl) (.o 147)),(Zt (.o 149)),(Zt (.o 152)),(Zt (.o 154)),trivial⟩) (fun _=>rfl) (fun g_9=>?_)
   refine Zz 14 rfl (UF T_) ?_
   refine YA 1 15 rfl ?_
   refine Xb 69 (congrArg vb Ib) ?_
   refine YA 0 17 rfl ?_
   refine YA 0 19 rfl ?_
   refine Tm 18 (rp 161 0) rfl (Y4 (KL Gx :) call19 .z) (fun _=>rfl) (fun mY=>?_)
   refine Zz 20 rfl (ZT SN) ?_
   refine YA 1 21 rfl ?_
   refine Xb 75 (congrArg vb Gm) ?_
   refine Zz 23 rfl (VY [36,37,39,41,43,44,46,47,48,49,51,52,53,54,55] rfl rfl isAgg26 We) ?_
   refine Zz 24 rfl (VY [0,1,2,3,4,5,6,7,8,9,10,11,12,13,14] rfl rfl isAgg26 We) ?_
   refine Tm 25 (rp 161 0) rfl (Y4 (Gb (Zy _ _) (Zy _ _) (Zy _ _) (Zy _ _) (Zy _ _) YV YD Y8 Yq Xk vk :) call20 ⟨(Zt (.o 38)),(Zt (.o 40)),(Zt (.o 42)),(Zt (.o 45)),(Xt (s:=6) (fun _=>rfl) (.o 50)), .r 0, .r 1, .r 2, .r 3, .r 4,trivial⟩) (fun _=>rfl) (fun aaA=>?_)
   refine Zz 26 rfl (UF T_) ?_
   refine YA 1 27 rfl ?_
   refine Xb 81 (congrArg vb Di) ?_
   refine YA 4 29 rfl ?_
   refine Vi ?_
   refine Z7 (Wz [7,15,19,86] (rp 15 0++rp 20 21++rp 31 64) rfl rfl ?_)
   refine VI rfl ?_
   refine Z_ (Y2 ?_)
   refine Zq (ZZ ?_)
   obtain rfl:=sj H
   exact Wj
  replace H:=U7 (Bool.eq_false_iff.1 Di) H
  have ⟨FU,lw,H⟩:=Z9 H
  refine U3 (rp 161 0) 34 rfl ?_
  refine Zz 0 rfl (VY [36,37,39,41,43,44,46,47,48,49,51,52,53,54,55] rfl rfl isAgg26 We) ?_
  refine Zz 2 rfl (VY [0,1,2,3,4,5,6,7,8,9,10,11,12,13,14] rfl rfl isAgg26 We) ?_
  refine Tm 1 (rp 161 0) rfl (Y4 (Qv (Zy _ _) (Zy _ _) (Zy _ _) (Zy _ _) (Zy _ _) L_ :) call16 ⟨(Zt (.o 38)),(Zt (.o 40)),(Zt (.o 42)),(Zt (.o 45)),(Xt (s:=6) (fun _=>rfl) (.o 50)),trivial⟩) (fun _=>rfl) (fun rE=>?_)
  refine Tm 3 (rp 161 0) rfl (Y4 (Ox YV YD Y8 Yq Xk JL :) call17 ⟨.r 0, .r 1, .r 2, .r 3, .r 4,trivial⟩) (fun _=>rfl) (fun jY=>?_)
  refine Zz 4 rfl (Zg rfl rfl (fun w=>pR w JM JY underlying4)) ?_
  refine YA 0 5 rfl ?_
  refine Xb 58 (congrArg vb GY) ?_
  refine Zz 6 rfl (VY [87,88,89,90,91,92] rfl rfl isAgg34 XE) ?_
  refine Zz 7 rfl (VY [93,94,95,96,97,98] rfl rfl isAgg34 XE) ?_
  refine Zz 8 rfl (Zg rfl rfl (fun w=>FB w underlying34 (by kernel_rfl) (by kernel_rfl) [Lf.i X7.1,Lf.i X7.2.1,Lf.s X7.2.2.1,Lf.b X7.2.2.2.1,Lf.b X7.2.2.2.2.1,Lf.i X7.2.2.2.2.2] [Lf.i Xu.1,Lf.i Xu.2.1,Lf.s Xu.2.2.1,Lf.b Xu.2.2.2.1,Lf.b Xu.2.2.2.2.1,Lf.i Xu.2.2.2.2.2] (by kernel_rfl) (by kernel_rfl) (by kernel_rfl) (by kernel_rfl))) ?_
  refine YA 1 9 rfl ?_
  refine Xb 63 (congrArg vb JG) ?_
  refine Zz 11 rfl (VY [99,100,101,102,104,105,107,109,111,113,115,117,119,120,122,124,125,126,127,128,129] rfl rfl isAgg30 Xg) ?_
  refine Zz 12 rfl (VY [130,131,132,133,135,136,138,140,142,144,146,148,150,151,153,155,156,157,158,159,160] rfl rfl isAgg30 Xg) ?_
  refine Tm 13 (rp 161 0) rfl (Y4 (K9 (Zy _ _) (Zy _ _) (Zy _ _) (Zy _ _) (Zy _ _) (Zy _ _) (Zy _ _) (Zy _ _) (Zy _ _) (Zy _ _) (Zy _ _) (Zy _ _) (Zy _ _) (Zy _ _) (Zy _ _) (Zy _ _) (Zy _ _) (Zy _ _) (Zy _ _) (Zy _ _) CP :) call18 ⟨(Zt (.o 103)),(Zt (.o 106)),(Zt (.o 108)),(Zt (.o 110)),(Zt (.o 112)),(Xt (s:=2) (fun _=>rfl) (.o 114)),(Xt (s:=2) (fun _=>rfl) (.o 116)),(Zt (.o 118)),(Zt (.o 121)),(Zt (.o 123)),(Zt (.o 134)),(Zt (.o 137)),(Zt (.o 139)),(Zt (.o 141)),(Zt (.o 143)),(Xt (s:=2) (fun _=>rfl) (.o 145)),(Xt (s:=2) (fun _=>rfl) (.o 147)),(Zt (.o 149)),(Zt (.o 152)),(Zt (.o 154)),trivial⟩) (fun _=>rfl) (fun g_9=>?_)
  refine Zz 14 rfl (UF T_) ?_
  refine YA 1 15 rfl ?_
  refine Xb 69 (congrArg vb Ib) ?_
  refine YA 0 17 rfl ?_
  refine YA 0 19 rfl ?_
  refine Tm 18 (rp 161 0) rfl (Y4 (KL Gx :) call19 .z) (fun _=>rfl) (fun mY=>?_)
  refine Zz 20 rfl (ZT SN) ?_
  refine YA 1 21 rfl ?_
  refine Xb 75 (congrArg vb Gm) ?_
  refine Zz 23 rfl (VY [36,37,39,41,43,44,46,47,48,49,51,52,53,54,55] rfl rfl isAgg26 We) ?_
  refine Zz 24 rfl (VY [0,1,2,3,4,5,6,7,8,9,10,11,12,13,14] rfl rfl isAgg26 We) ?_
  refine Tm 25 (rp 161 0) rfl (Y4 (Gb (Zy _ _) (Zy _ _) (Zy _ _) (Zy _ _) (Zy _ _) YV YD Y8 Yq Xk vk :) call20 ⟨(Zt (.o 38)),(Zt (.o 40)),(Zt (.o 42)),(Zt (.o 45)),(Xt (s:=6) (fun _=>rfl) (.o 50)), .r 0, .r 1, .r 2, .r 3, .r 4,trivial⟩) (fun _=>rfl) (fun aaA=>?_)
  refine Zz 26 rfl (UF T_) ?_
  refine YA 1 27 rfl ?_
  refine Xb 81 (congrArg vb Di) ?_
  refine Zz 29 rfl (VY [56,57,58,59,61,62,64,66,68,70,72,74,76,77,79,81,82,83,84,85,86] rfl rfl isAgg30 Xg) ?_
  refine Zz 30 rfl (VY [15,16,17,18,19,20,21,22,23,24,25,26,27,28,29,30,31,32,33,34,35] rfl rfl isAgg30 Xg) ?_
  refine Tm 31 (rp 161 0) rfl (Y4 (K9 (Zy _ _) (Zy _ _) (Zy _ _) (Zy _ _) (Zy _ _) (Zy _ _) (Zy _ _) (Zy _ _) (Zy _ _) (Zy _ _) W9 XW Xd XA Ws WJ Yd Xq WL V6 lw :) call18 ⟨(Zt (.o 60)),(Zt (.o 63)),(Zt (.o 65)),(Zt (.o 67)),(Zt (.o 69)),(Xt (s:=2) (fun _=>rfl) (.o 71)),(Xt (s:=2) (fun _=>rfl) (.o 73)),(Zt (.o 75)),(Zt (.o 78)),(Zt (.o 80)), .r 5, .r 6, .r 7, .r 8, .r 9, .r 10, .r 11, .r 12, .r 13, .r 14,trivial⟩) (fun _=>rfl) (fun acV=>?_)
  refine Zz 32 rfl (UF T_) ?_
  refine YA 0 33 rfl ?_
  refine Vi ?_
  refine Z7 (Wz [7,15,19,86] (rp 15 0++rp 20 21++rp 31 64) rfl rfl ?_)
  refine Sn H (fun hc H=>?_) (fun hc H=>?_)
  ·refine Z_ (Y2 ?_)
   refine Zq (ZZ ?_)
   obtain rfl:=sj H
   exact Wj
  refine ZN (Z7 (Z_ (ZV (VY [35,36,37,38,40,41,43,45,47,49,51,53,55,56,58,60,61,62,63,64,65] rfl rfl isAgg30 Xg) ?_)))
  have ⟨IG,lW,H⟩:=Z9 H
  refine YE (Wq (is:=[39,41,42,43,44,45,46,47,49,50]) rfl call21 (rP lW :) rfl trivial) (fun adW=>?_)
  have ⟨h1,H⟩:=Z4 H
  refine Ta 48 (congrArg (fun z=>[z]) (VG h1)) ?_
  have ⟨h2,H⟩:=Z4 H
  refine Ta 50 (congrArg (fun z=>[z]) (VG h2)) ?_
  have ⟨h3,H⟩:=Z4 H
  refine Ta 51 (congrArg (fun z=>[z]) (VG h3)) ?_
  have ⟨h4,H⟩:=Z4 H
  refine Ta 52 (congrArg (fun z=>[z]) (VG h4)) ?_
  have ⟨h5,H⟩:=Z4 H
  refine Ta 53 (congrArg (fun z=>[z]) (VG h5)) ?_
  have ⟨h6,H⟩:=Z4 H
  refine Ta 54 (congrArg (fun z=>[z]) (VG h6)) ?_
  have ⟨h7,H⟩:=Z4 H
  refine Ta 55 (congrArg (fun z=>[z]) (VG h7)) ?_
  have ⟨h8,H⟩:=Z4 H
  refine Ta 56 (congrArg (fun z=>[z]) (VG h8)) ?_
  have ⟨h9,H⟩:=Z4 H
  refine Ta 58 (congrArg (fun z=>[z]) (VG h9)) ?_
  have ⟨JN,H⟩:=Z4 H
  refine Ta 59 (congrArg (fun z=>[z]) (VG JN)) ?_
  refine Z6 (Wz [7,15] (rp 35 10) rfl rfl ?_)
  refine Z_ (ZV (VY [15,16,18,20,22,23,25,26,27,28,30,31,32,33,34] rfl rfl isAgg26 We) ?_)
  refine ZV (VY [0,1,2,3,4,5,6,7,8,9,10,11,12,13,14] rfl rfl isAgg26 We) ?_
  have ⟨Ff,kV,H⟩:=Z9 H
  refine YE (Y4 (Gb (Zy _ _) (Zy _ _) (Zy _ _) (Zy _ _) (Zy _ _) YV YD Y8 Yq Xk kV :) call20 ⟨(Zt (.o 17)),(Zt (.o 19)),(Zt (.o 21)),(Zt (.o 24)),(Xt (s:=6) (fun _=>rfl) (.o 29)), .r 0, .r 1, .r 2, .r 3, .r 4,trivial⟩) (fun ac9=>?_)
  refine YP ?_
  refine Mg (d:=92) H (fun hc H=>?_) (fun hc H=>?_)
  ·have ⟨vI,kZ,H⟩:=Z9 H
   refine JQ (Y4 (o7 kZ :) call22 ⟨.r 15,trivial⟩) (fun acU=>?_)
   refine Zj 2 rfl ?_
   refine Z6 (Wz [14] [] rfl rfl ?_)
   refine Y7 ?_
   obtain rfl:=sj H
   exact Wj
  refine Zj 3 rfl ?_
  refine Zq ?_
  obtain rfl:=sj H
  exact Wj
 intro hJ
 clear H
 refine U3 (rp 36 0) 7 rfl ?_
 refine Zz 0 rfl (VY [0,1,2,3,4,5,6,7,8,9,10,11,12,13,14] rfl rfl isAgg26 We) ?_
 refine Zz 2 rfl (VY [15,16,17,18,19,20,21,22,23,24,25,26,27,28,29,30,31,32,33,34,35] rfl rfl isAgg30 Xg) ?_
 refine qp [1,4,5] ?_
 refine ⟨?_,?_,?_,trivial⟩
 ·skip
  refine CX 1 (rp 36 5) rfl (Wq (is:=[]) rfl call10 (KT YV YD Y8 Yq Xk Yk :) rfl ⟨.r 0, .r 1, .r 2, .r 3, .r 4,trivial⟩) (fun _=>rfl) (fun Re=>?_)
  refine JJ (rp 41 0) (rp 36 5) rfl rfl ?_
  refine qp [3,4,5] ?_
  refine ⟨?_,?_,?_,trivial⟩
  ·skip
   refine CX 3 (rp 41 10) rfl (Wq (is:=[]) rfl call11 (Q8 W9 XW Xd XA Ws WJ Yd Xq WL V6 X6 :) rfl ⟨.r 5, .r 6, .r 7, .r 8, .r 9, .r 10, .r 11, .r 12, .r 13, .r 14,trivial⟩) (fun _=>rfl) (fun UD=>?_)
   refine JJ (rp 51 0) (rp 41 10) rfl rfl ?_
   refine qp [4,5] ?_
   refine ⟨?_,?_,trivial⟩
   ·skip
    refine CX 4 (rp 51 15) rfl (SL We LM) (fun _=>rfl) (fun b3=>?_)
    refine Tm 5 (rp 51 36) rfl (SL Xg Pw) (fun _=>rfl) (fun b4=>?_)
    refine JJ (rp 21 0++rp 51 15) (rp 51 21) rfl rfl ?_
    refine Qh 6 (rp 72 15) rfl (VZ (rp 15 21) rfl rfl We) (fun _=>rfl) (fun _=>?_)
    refine vS 7 rfl (VZ (rp 21 15) rfl rfl Xg) (fun _=>?_)
    refine Vi ?_
    refine ow [2,3,4,5,6,7,8,15,16] (rp 36 51++21 :: 21 :: 44 :: 21 :: 43 :: 21 :: 42 :: 21 :: 21 :: 40 :: rp 4 21++36 :: rp 5 21++rp 4 0++17 :: 0 :: 0 :: 15 :: 0 :: 14 :: 0 :: 13 :: 0 :: 12 :: 0 :: 11 :: 0 :: 10 :: 0 :: 9 :: 0 :: 0 :: 7 :: 0 :: 6 :: rp 6 0) rfl rfl ?_
    exact hJ (b3,b4,Re,UD)
   skip
   refine CX 5 (rp 51 21) rfl (SL Xg Pw) (fun _=>rfl) (fun b4=>?_)
   refine JJ (rp 72 0) (rp 51 21) rfl rfl ?_
   refine Tm 4 (rp 72 15) rfl (SL We LM) (fun _=>rfl) (fun b3=>?_)
   refine Qh 6 (rp 72 15) rfl (VZ (rp 15 0) rfl rfl We) (fun _=>rfl) (fun _=>?_)
   refine vS 7 rfl (VZ (rp 21 15) rfl rfl Xg) (fun _=>?_)
   refine Vi ?_
   refine ow [2,3,4,5,6,7,8,15,16] (rp 36 51++21 :: 21 :: 44 :: 21 :: 43 :: 21 :: 42 :: 21 :: 21 :: 40 :: rp 4 21++36 :: rp 5 21++rp 4 0++17 :: 0 :: 0 :: 15 :: 0 :: 14 :: 0 :: 13 :: 0 :: 12 :: 0 :: 11 :: 0 :: 10 :: 0 :: 9 :: 0 :: 0 :: 7 :: 0 :: 6 :: rp 6 0) rfl rfl ?_
   exact hJ (b3,b4,Re,UD)
  ·skip
   refine CX 4 (rp 41 15) rfl (SL We LM) (fun _=>rfl) (fun b3=>?_)
   refine qp [3,5] ?_
   refine ⟨?_,?_,trivial⟩
   ·skip
    refine CX 3 (rp 41 25) rfl (Wq (is:=[]) rfl call11 (Q8 W9 XW Xd XA Ws WJ Yd Xq WL V6 X6 :) rfl ⟨.r 5, .r 6, .r 7, .r 8, .r 9, .r 10, .r 11, .r 12, .r 13, .r 14,trivial⟩) (fun _=>rfl) (fun UD=>?_)
    refine JJ (rp 10 0++rp 41 15) (rp 41 10) rfl rfl ?_
    refine Tm 5 (rp 10 21++rp 41 36) rfl (SL Xg Pw) (fun _=>rfl) (fun b4=>?_)
    refine JJ (rp 31 0++rp 41 15) (rp 51 21) rfl rfl ?_
    refine Qh 6 (rp 72 15) rfl (VZ (rp 15 31) rfl rfl We) (fun _=>rfl) (fun _=>?_)
    refine vS 7 rfl (VZ (rp 21 15) rfl rfl Xg) (fun _=>?_)
    refine Vi ?_
    refine ow [2,3,4,5,6,7,8,15,16] (rp 36 51++21 :: 21 :: 44 :: 21 :: 43 :: 21 :: 42 :: 21 :: 21 :: 40 :: rp 4 21++36 :: rp 5 21++rp 4 0++17 :: 0 :: 0 :: 15 :: 0 :: 14 :: 0 :: 13 :: 0 :: 12 :: 0 :: 11 :: 0 :: 10 :: 0 :: 9 :: 0 :: 0 :: 7 :: 0 :: 6 :: rp 6 0) rfl rfl ?_
    exact hJ (b3,b4,Re,UD)
   skip
   refine CX 5 (rp 41 36) rfl (SL Xg Pw) (fun _=>rfl) (fun b4=>?_)
   refine JJ (rp 21 0++rp 41 15) (rp 41 21) rfl rfl ?_
   refine Tm 3 (rp 21 10++rp 41 25) rfl (Wq (is:=[]) rfl call11 (Q8 W9 XW Xd XA Ws WJ Yd Xq WL V6 X6 :) rfl ⟨.r 5, .r 6, .r 7, .r 8, .r 9, .r 10, .r 11, .r 12, .r 13, .r 14,trivial⟩) (fun _=>rfl) (fun UD=>?_)
   refine JJ (rp 31 0++rp 41 15) (rp 62 10) rfl rfl ?_
   refine Qh 6 (rp 72 15) rfl (VZ (rp 15 31) rfl rfl We) (fun _=>rfl) (fun _=>?_)
   refine vS 7 rfl (VZ (rp 21 25) rfl rfl Xg) (fun _=>?_)
   refine Vi ?_
   refine ow [2,3,4,5,6,7,8,15,16] (rp 36 51++21 :: 21 :: 44 :: 21 :: 43 :: 21 :: 42 :: 21 :: 21 :: 40 :: rp 4 21++36 :: rp 5 21++rp 4 0++17 :: 0 :: 0 :: 15 :: 0 :: 14 :: 0 :: 13 :: 0 :: 12 :: 0 :: 11 :: 0 :: 10 :: 0 :: 9 :: 0 :: 0 :: 7 :: 0 :: 6 :: rp 6 0) rfl rfl ?_
   exact hJ (b3,b4,Re,UD)
  skip
  refine CX 5 (rp 41 21) rfl (SL Xg Pw) (fun _=>rfl) (fun b4=>?_)
  refine JJ (rp 62 0) (rp 41 21) rfl rfl ?_
  refine qp [3,4] ?_
  refine ⟨?_,?_,trivial⟩
  ·skip
   refine CX 3 (rp 62 10) rfl (Wq (is:=[]) rfl call11 (Q8 W9 XW Xd XA Ws WJ Yd Xq WL V6 X6 :) rfl ⟨.r 5, .r 6, .r 7, .r 8, .r 9, .r 10, .r 11, .r 12, .r 13, .r 14,trivial⟩) (fun _=>rfl) (fun UD=>?_)
   refine JJ (rp 72 0) (rp 62 10) rfl rfl ?_
   refine Tm 4 (rp 72 15) rfl (SL We LM) (fun _=>rfl) (fun b3=>?_)
   refine Qh 6 (rp 72 15) rfl (VZ (rp 15 0) rfl rfl We) (fun _=>rfl) (fun _=>?_)
   refine vS 7 rfl (VZ (rp 21 25) rfl rfl Xg) (fun _=>?_)
   refine Vi ?_
   refine ow [2,3,4,5,6,7,8,15,16] (rp 36 51++21 :: 21 :: 44 :: 21 :: 43 :: 21 :: 42 :: 21 :: 21 :: 40 :: rp 4 21++36 :: rp 5 21++rp 4 0++17 :: 0 :: 0 :: 15 :: 0 :: 14 :: 0 :: 13 :: 0 :: 12 :: 0 :: 11 :: 0 :: 10 :: 0 :: 9 :: 0 :: 0 :: 7 :: 0 :: 6 :: rp 6 0) rfl rfl ?_
   exact hJ (b3,b4,Re,UD)
  skip
  refine CX 4 (rp 62 15) rfl (SL We LM) (fun _=>rfl) (fun b3=>?_)
  refine Tm 3 (rp 62 25) rfl (Wq (is:=[]) rfl call11 (Q8 W9 XW Xd XA Ws WJ Yd Xq WL V6 X6 :) rfl ⟨.r 5, .r 6, .r 7, .r 8, .r 9, .r 10, .r 11, .r 12, .r 13, .r 14,trivial⟩) (fun _=>rfl) (fun UD=>?_)
  refine JJ (rp 10 0++rp 62 15) (rp 62 10) rfl rfl ?_
  refine Qh 6 (rp 72 15) rfl (VZ (rp 15 10) rfl rfl We) (fun _=>rfl) (fun _=>?_)
  refine vS 7 rfl (VZ (rp 21 25) rfl rfl Xg) (fun _=>?_)
  refine Vi ?_
  refine ow [2,3,4,5,6,7,8,15,16] (rp 36 51++21 :: 21 :: 44 :: 21 :: 43 :: 21 :: 42 :: 21 :: 21 :: 40 :: rp 4 21++36 :: rp 5 21++rp 4 0++17 :: 0 :: 0 :: 15 :: 0 :: 14 :: 0 :: 13 :: 0 :: 12 :: 0 :: 11 :: 0 :: 10 :: 0 :: 9 :: 0 :: 0 :: 7 :: 0 :: 6 :: rp 6 0) rfl rfl ?_
  exact hJ (b3,b4,Re,UD)
 ·skip
  refine CX 4 (rp 36 15) rfl (SL We LM) (fun _=>rfl) (fun b3=>?_)
  refine qp [1,5] ?_
  refine ⟨?_,?_,trivial⟩
  ·skip
   refine CX 1 (rp 36 20) rfl (Wq (is:=[]) rfl call10 (KT YV YD Y8 Yq Xk Yk :) rfl ⟨.r 0, .r 1, .r 2, .r 3, .r 4,trivial⟩) (fun _=>rfl) (fun Re=>?_)
   refine JJ (rp 5 0++rp 36 15) (rp 36 5) rfl rfl ?_
   refine qp [3,5] ?_
   refine ⟨?_,?_,trivial⟩
   ·skip
    refine CX 3 (rp 5 10++rp 36 25) rfl (Wq (is:=[]) rfl call11 (Q8 W9 XW Xd XA Ws WJ Yd Xq WL V6 X6 :) rfl ⟨.r 5, .r 6, .r 7, .r 8, .r 9, .r 10, .r 11, .r 12, .r 13, .r 14,trivial⟩) (fun _=>rfl) (fun UD=>?_)
    refine JJ (rp 15 0++rp 36 15) (rp 41 10) rfl rfl ?_
    refine Tm 5 (rp 15 21++rp 36 36) rfl (SL Xg Pw) (fun _=>rfl) (fun b4=>?_)
    refine JJ (rp 36 0++rp 36 15) (rp 51 21) rfl rfl ?_
    refine Qh 6 (rp 72 15) rfl (VZ (rp 15 36) rfl rfl We) (fun _=>rfl) (fun _=>?_)
    refine vS 7 rfl (VZ (rp 21 15) rfl rfl Xg) (fun _=>?_)
    refine Vi ?_
    refine ow [2,3,4,5,6,7,8,15,16] (rp 36 51++21 :: 21 :: 44 :: 21 :: 43 :: 21 :: 42 :: 21 :: 21 :: 40 :: rp 4 21++36 :: rp 5 21++rp 4 0++17 :: 0 :: 0 :: 15 :: 0 :: 14 :: 0 :: 13 :: 0 :: 12 :: 0 :: 11 :: 0 :: 10 :: 0 :: 9 :: 0 :: 0 :: 7 :: 0 :: 6 :: rp 6 0) rfl rfl ?_
    exact hJ (b3,b4,Re,UD)
   skip
   refine CX 5 (rp 5 21++rp 36 36) rfl (SL Xg Pw) (fun _=>rfl) (fun b4=>?_)
   refine JJ (rp 26 0++rp 36 15) (rp 41 21) rfl rfl ?_
   refine Tm 3 (rp 26 10++rp 36 25) rfl (Wq (is:=[]) rfl call11 (Q8 W9 XW Xd XA Ws WJ Yd Xq WL V6 X6 :) rfl ⟨.r 5, .r 6, .r 7, .r 8, .r 9, .r 10, .r 11, .r 12, .r 13, .r 14,trivial⟩) (fun _=>rfl) (fun UD=>?_)
   refine JJ (rp 36 0++rp 36 15) (rp 62 10) rfl rfl ?_
   refine Qh 6 (rp 72 15) rfl (VZ (rp 15 36) rfl rfl We) (fun _=>rfl) (fun _=>?_)
   refine vS 7 rfl (VZ (rp 21 25) rfl rfl Xg) (fun _=>?_)
   refine Vi ?_
   refine ow [2,3,4,5,6,7,8,15,16] (rp 36 51++21 :: 21 :: 44 :: 21 :: 43 :: 21 :: 42 :: 21 :: 21 :: 40 :: rp 4 21++36 :: rp 5 21++rp 4 0++17 :: 0 :: 0 :: 15 :: 0 :: 14 :: 0 :: 13 :: 0 :: 12 :: 0 :: 11 :: 0 :: 10 :: 0 :: 9 :: 0 :: 0 :: 7 :: 0 :: 6 :: rp 6 0) rfl rfl ?_
   exact hJ (b3,b4,Re,UD)
  skip
  refine CX 5 (rp 36 36) rfl (SL Xg Pw) (fun _=>rfl) (fun b4=>?_)
  refine JJ (rp 21 0++rp 36 15) (rp 36 21) rfl rfl ?_
  refine Tm 1 (rp 21 5++rp 36 20) rfl (Wq (is:=[]) rfl call10 (KT YV YD Y8 Yq Xk Yk :) rfl ⟨.r 0, .r 1, .r 2, .r 3, .r 4,trivial⟩) (fun _=>rfl) (fun Re=>?_)
  refine JJ (rp 26 0++rp 36 15) (rp 57 5) rfl rfl ?_
  refine Tm 3 (rp 26 10++rp 36 25) rfl (Wq (is:=[]) rfl call11 (Q8 W9 XW Xd XA Ws WJ Yd Xq WL V6 X6 :) rfl ⟨.r 5, .r 6, .r 7, .r 8, .r 9, .r 10, .r 11, .r 12, .r 13, .r 14,trivial⟩) (fun _=>rfl) (fun UD=>?_)
  refine JJ (rp 36 0++rp 36 15) (rp 62 10) rfl rfl ?_
  refine Qh 6 (rp 72 15) rfl (VZ (rp 15 36) rfl rfl We) (fun _=>rfl) (fun _=>?_)
  refine vS 7 rfl (VZ (rp 21 30) rfl rfl Xg) (fun _=>?_)
  refine Vi ?_
  refine ow [2,3,4,5,6,7,8,15,16] (rp 36 51++21 :: 21 :: 44 :: 21 :: 43 :: 21 :: 42 :: 21 :: 21 :: 40 :: rp 4 21++36 :: rp 5 21++rp 4 0++17 :: 0 :: 0 :: 15 :: 0 :: 14 :: 0 :: 13 :: 0 :: 12 :: 0 :: 11 :: 0 :: 10 :: 0 :: 9 :: 0 :: 0 :: 7 :: 0 :: 6 :: rp 6 0) rfl rfl ?_
  exact hJ (b3,b4,Re,UD)
 skip
 refine CX 5 (rp 36 21) rfl (SL Xg Pw) (fun _=>rfl) (fun b4=>?_)
 refine JJ (rp 57 0) (rp 36 21) rfl rfl ?_
 refine qp [1,4] ?_
 refine ⟨?_,?_,trivial⟩
 ·skip
  refine CX 1 (rp 57 5) rfl (Wq (is:=[]) rfl call10 (KT YV YD Y8 Yq Xk Yk :) rfl ⟨.r 0, .r 1, .r 2, .r 3, .r 4,trivial⟩) (fun _=>rfl) (fun Re=>?_)
  refine JJ (rp 62 0) (rp 57 5) rfl rfl ?_
  refine qp [3,4] ?_
  refine ⟨?_,?_,trivial⟩
  ·skip
   refine CX 3 (rp 62 10) rfl (Wq (is:=[]) rfl call11 (Q8 W9 XW Xd XA Ws WJ Yd Xq WL V6 X6 :) rfl ⟨.r 5, .r 6, .r 7, .r 8, .r 9, .r 10, .r 11, .r 12, .r 13, .r 14,trivial⟩) (fun _=>rfl) (fun UD=>?_)
   refine JJ (rp 72 0) (rp 62 10) rfl rfl ?_
   refine Tm 4 (rp 72 15) rfl (SL We LM) (fun _=>rfl) (fun b3=>?_)
   refine Qh 6 (rp 72 15) rfl (VZ (rp 15 0) rfl rfl We) (fun _=>rfl) (fun _=>?_)
   refine vS 7 rfl (VZ (rp 21 30) rfl rfl Xg) (fun _=>?_)
   refine Vi ?_
   refine ow [2,3,4,5,6,7,8,15,16] (rp 36 51++21 :: 21 :: 44 :: 21 :: 43 :: 21 :: 42 :: 21 :: 21 :: 40 :: rp 4 21++36 :: rp 5 21++rp 4 0++17 :: 0 :: 0 :: 15 :: 0 :: 14 :: 0 :: 13 :: 0 :: 12 :: 0 :: 11 :: 0 :: 10 :: 0 :: 9 :: 0 :: 0 :: 7 :: 0 :: 6 :: rp 6 0) rfl rfl ?_
   exact hJ (b3,b4,Re,UD)
  skip
  refine CX 4 (rp 62 15) rfl (SL We LM) (fun _=>rfl) (fun b3=>?_)
  refine Tm 3 (rp 62 25) rfl (Wq (is:=[]) rfl call11 (Q8 W9 XW Xd XA Ws WJ Yd Xq WL V6 X6 :) rfl ⟨.r 5, .r 6, .r 7, .r 8, .r 9, .r 10, .r 11, .r 12, .r 13, .r 14,trivial⟩) (fun _=>rfl) (fun UD=>?_)
  refine JJ (rp 10 0++rp 62 15) (rp 62 10) rfl rfl ?_
  refine Qh 6 (rp 72 15) rfl (VZ (rp 15 10) rfl rfl We) (fun _=>rfl) (fun _=>?_)
  refine vS 7 rfl (VZ (rp 21 30) rfl rfl Xg) (fun _=>?_)
  refine Vi ?_
  refine ow [2,3,4,5,6,7,8,15,16] (rp 36 51++21 :: 21 :: 44 :: 21 :: 43 :: 21 :: 42 :: 21 :: 21 :: 40 :: rp 4 21++36 :: rp 5 21++rp 4 0++17 :: 0 :: 0 :: 15 :: 0 :: 14 :: 0 :: 13 :: 0 :: 12 :: 0 :: 11 :: 0 :: 10 :: 0 :: 9 :: 0 :: 0 :: 7 :: 0 :: 6 :: rp 6 0) rfl rfl ?_
  exact hJ (b3,b4,Re,UD)
 skip
 refine CX 4 (rp 57 15) rfl (SL We LM) (fun _=>rfl) (fun b3=>?_)
 refine Tm 1 (rp 57 20) rfl (Wq (is:=[]) rfl call10 (KT YV YD Y8 Yq Xk Yk :) rfl ⟨.r 0, .r 1, .r 2, .r 3, .r 4,trivial⟩) (fun _=>rfl) (fun Re=>?_)
 refine JJ (rp 5 0++rp 57 15) (rp 57 5) rfl rfl ?_
 refine Tm 3 (rp 5 10++rp 57 25) rfl (Wq (is:=[]) rfl call11 (Q8 W9 XW Xd XA Ws WJ Yd Xq WL V6 X6 :) rfl ⟨.r 5, .r 6, .r 7, .r 8, .r 9, .r 10, .r 11, .r 12, .r 13, .r 14,trivial⟩) (fun _=>rfl) (fun UD=>?_)
 refine JJ (rp 15 0++rp 57 15) (rp 62 10) rfl rfl ?_
 refine Qh 6 (rp 72 15) rfl (VZ (rp 15 15) rfl rfl We) (fun _=>rfl) (fun _=>?_)
 refine vS 7 rfl (VZ (rp 21 30) rfl rfl Xg) (fun _=>?_)
 refine Vi ?_
 refine ow [2,3,4,5,6,7,8,15,16] (rp 36 51++21 :: 21 :: 44 :: 21 :: 43 :: 21 :: 42 :: 21 :: 21 :: 40 :: rp 4 21++36 :: rp 5 21++rp 4 0++17 :: 0 :: 0 :: 15 :: 0 :: 14 :: 0 :: 13 :: 0 :: 12 :: 0 :: 11 :: 0 :: 10 :: 0 :: 9 :: 0 :: 0 :: 7 :: 0 :: 6 :: rp 6 0) rfl rfl ?_
 exact hJ (b3,b4,Re,UD)
end Go.Proofs
end

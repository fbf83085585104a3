/-
  Part 28 of the proof of what several laws share.
-/
import Derived.Test.YtkgeoekcnlgfnaaGreatDoorKh27
set_option maxHeartbeats 4000000
set_option maxRecDepth 20000
set_option linter.unusedVariables false
set_option linter.unusedSimpArgs false
section
namespace Go.Proofs
open Go Go.Kx
open TryzI Tryz
def Oq (Zm:Bool) (ZI ZR:List (Int)) (Zx:List (Str)) (Yp:Str) (Zr:List (Str)) (Zb:Str) (ZC:Int) (Y5:Str) (ZB:List (Str × Str × Int × Int × Int × Int)) (YN:Str) (Zk Ye:Int) (Zd YO WF:Int) (X9 Yu:Str) (Yz:List (Int)) (Wx:Str) (Za YI:List (Int)) (YX Yj:List (Int)) (Y_:List (Int × Str)) (Zv:List (Str × Int)) (YS:List (Str)) (Vl:Int) (Yy:List (Int)) (Yf:List (Str)) (X8:Int) (Wv:Str) (Ww Vm:Int) (XD:Str) (X_ Sj:Int):Option (Int × Str × Int × Int × Bool) :=
 (if ((Zv).length:Int)=0 then (some true) else ((Yi Yj 1).bind fun YJ=>(some (!YJ)))).bind fun j1=>(if j1=true then (some (0,([]:Str),0,0,false)) else (if 0≤(0:Int)∧(0:Int)<((Zv).length:Int) then ((Nk Y5 ((lg Zv 0).1)).bind fun Zu=>(if Zu.2.2.2.2=0 then (if Zu.1=Sj then (if Zu.2.2.1≤Zk then (X5 (decide ((ZJ (Zk - Zu.2.2.1))≤604800)) fun x1=>(some (Zu.1,Zu.2.1,Zu.2.2.1,Zu.2.2.2.1,x1))) else (some (Zu.1,Zu.2.1,Zu.2.2.1,Zu.2.2.2.1,false))) else (some (Zu.1,Zu.2.1,Zu.2.2.1,Zu.2.2.2.1,false))) else (some (Zu.1,Zu.2.1,Zu.2.2.1,Zu.2.2.2.1,false)))) else none))
theorem pQ {bc:Nat} {obc:Nat} {YZ:Y6} {Y0:Nat} {Y1:Y6} {YY:Nat} {YC:Y6} {YH:Nat} {YG:Y6} {YF:Nat} {XR:Y6} {XP:Nat} {bm:Nat} {obm:Nat} {WP:Y6} {WO:Nat} {XV:Y6} {XU:Nat} {WS:Y6} {WQ:Nat} {Xy:Y6} {Xx:Nat} {VU:Y6} {VW:Nat} {WT:Y6} {WR:Nat} {Yl:Y6} {Ym:Nat} {Xw:Y6} {Xz:Nat} {WU:Y6} {WM:Nat} {VV:Y6} {VX:Nat} {Zm:Bool} {ZI:List (Int)} {ZR:List (Int)} {Zx:List (Str)} {Yp:Str} {Zr:List (Str)} {Zb:Str} {ZC:Int} {Y5:Str} {ZB:List (Str × Str × Int × Int × Int × Int)} {YN:Str} {Zk:Int} {Ye:Int} {Zd:Int} {YO:Int} {WF:Int} {X9:Str} {Yu:Str} {Yz:List (Int)} {Wx:Str} {Za:List (Int)} {YI:List (Int)} {YX:List (Int)} {Yj:List (Int)} {Y_:List (Int × Str)} {Zv:List (Str × Int)} {YS:List (Str)} {Vl:Int} {Yy:List (Int)} {Yf:List (Str)} {X8:Int} {Wv:Str} {Ww:Int} {Vm:Int} {XD:Str} {X_:Int} {Sj:Int} (YV:(ZI).length≤Y0) (YD:(ZR).length≤YY) (Y8:(Zx).length≤YH) (Yq:(Zr).length≤YF) (Xk:(ZB).length≤XP) (W9:(Yz).length≤WO) (XW:(Za).length≤XU) (Xd:(YI).length≤WQ) (XA:(YX).length≤Xx) (Ws:(Yj).length≤VW) (WJ:(Y_).length≤WR) (Yd:(Zv).length≤Ym) (Xq:(YS).length≤Xz) (WL:(Yy).length≤WM) (V6:(Yf).length≤VX) {r:Int × Str × Int × Int × Bool} (H:Oq Zm ZI ZR Zx Yp Zr Zb ZC Y5 ZB YN Zk Ye Zd YO WF X9 Yu Yz Wx Za YI YX Yj Y_ Zv YS Vl Yy Yf X8 Wv Ww Vm XD X_ Sj=some r) :
  Does Tryz.prog 67 [ptr (some (bc,obc)) 0,ptr (some (bm,obm)) 0,vi Sj] [] [⟨some (bc,obc),[vb Zm]⟩,⟨some (bc,obc+1),[sl YZ ((ZI).length) Y0]⟩,⟨some (bc,obc+2),[sl Y1 ((ZR).length) YY]⟩,⟨some (bc,obc+3),[sl YC ((Zx).length) YH]⟩,⟨some (bc,obc+4),[vs Yp]⟩,⟨some (bc,obc+5),[sl YG ((Zr).length) YF]⟩,⟨some (bc,obc+6),[vs Zb]⟩,⟨some (bc,obc+7),[vi ZC]⟩,⟨some (bc,obc+8),[vs Y5]⟩,⟨some (bc,obc+9),[sl XR ((ZB).length) XP]⟩,⟨some (bc,obc+10),[vs YN]⟩,⟨some (bc,obc+11),[vi Zk]⟩,⟨some (bc,obc+12),[vi Ye]⟩,⟨some (bc,obc+13),[vi Zd]⟩,⟨some (bc,obc+14),[vi YO]⟩,⟨YZ,eI ZI⟩,⟨Y1,eI ZR⟩,⟨YC,eS Zx⟩,⟨YG,eS Zr⟩,⟨XR,eF (fun p:Str × Str × Int × Int × Int × Int=>[vs p.1,vs p.2.1,vi p.2.2.1,vi p.2.2.2.1,vi p.2.2.2.2.1,vi p.2.2.2.2.2]) ZB⟩,⟨some (bm,obm),[vi WF]⟩,⟨some (bm,obm+1),[vs X9]⟩,⟨some (bm,obm+2),[vs Yu]⟩,⟨some (bm,obm+3),[sl WP ((Yz).length) WO]⟩,⟨some (bm,obm+4),[vs Wx]⟩,⟨some (bm,obm+5),[sl XV ((Za).length) XU]⟩,⟨some (bm,obm+6),[sl WS ((YI).length) WQ]⟩,⟨some (bm,obm+7),[sl Xy ((YX).length) Xx]⟩,⟨some (bm,obm+8),[sl VU ((Yj).length) VW]⟩,⟨some (bm,obm+9),[sl WT ((Y_).length) WR]⟩,⟨some (bm,obm+10),[sl Yl ((Zv).length) Ym]⟩,⟨some (bm,obm+11),[sl Xw ((YS).length) Xz]⟩,⟨some (bm,obm+12),[vi Vl]⟩,⟨some (bm,obm+13),[sl WU ((Yy).length) WM]⟩,⟨some (bm,obm+14),[sl VV ((Yf).length) VX]⟩,⟨some (bm,obm+15),[vi X8]⟩,⟨some (bm,obm+16),[vs Wv]⟩,⟨some (bm,obm+17),[vi Ww]⟩,⟨some (bm,obm+18),[vi Vm]⟩,⟨some (bm,obm+19),[vs XD]⟩,⟨some (bm,obm+20),[vi X_]⟩,⟨WP,eI Yz⟩,⟨XV,eI Za⟩,⟨WS,eI YI⟩,⟨Xy,eI YX⟩,⟨VU,eI Yj⟩,⟨WT,eF (fun p:Int × Str=>[vi p.1,vs p.2]) Y_⟩,⟨Yl,eF (fun p:Str × Int=>[vs p.1,vi p.2]) Zv⟩,⟨Xw,eS YS⟩,⟨WU,eI Yy⟩,⟨VV,eS Yf⟩,⟨some (0,0),[vo]⟩] (Γ:=Unit) (fun g=>Value.tuple [aG [(1,[vi r.1]),(1,[vs r.2.1]),(1,[vi r.2.2.1]),(1,[vi r.2.2.2.1])],vb r.2.2.2.2].toArray) (fun g=>[]):=by
 intro w hmem hro hd
 refine Zn func67 rfl ntmps67 rfl hmem hro hd ?_
 unfold Oq at H
 refine Z_ (YE (SL WC Ph) (fun b1=>?_))
 refine Y2 ?_
 refine Z6 (ZY (Z_ (Zj 2 rfl ?_)))
 refine ZV (ZQ 10 underlying30 MX) ?_
 refine ZV (Z8 rfl (.r 30) rfl isAgg28) ?_
 refine ZV (ZG rfl underlying28) ?_
 refine ZV (ZT Xr) ?_
 refine YP ?_
 have ⟨j1,Hj,H⟩:=Z9 H
 refine VH (Γ:=Unit) (fun Sc=>[(0,ptr (some (bc,obc)) 0),(1,ptr (some (bm,obm)) 0),(2,vi Sj),(6,ptr (some (b1,0)) 0),(23,vb j1)]) (fun Sc=>[⟨some (b1,0),[vi 0]⟩,⟨some (b1,1),[vs ([]:Str)]⟩,⟨some (b1,2),[vi 0]⟩,⟨some (b1,3),[vi 0]⟩]) ?_ ?_
 ·intro Sc
  refine Z7 (Sn H (fun hc H=>?_) (fun hc H=>?_))
  ·refine Z_ (ZV (Y9 (pv:=[]) (pl:=[(0,1),(1,1),(2,1),(3,1)]) rfl rfl underlying66 WC Qy Ph (cs:=flat [(1,[vi 0]),(1,[vs ([]:Str)]),(1,[vi 0]),(1,[vi 0])]) (by kernel_rfl)) ?_)
   refine VM (VZ [0,0,0,0] rfl rfl WC) (fun _=>?_)
   refine Y2 ?_
   refine Zq (ZZ ?_)
   obtain rfl:=sj H
   exact SF (vs:=[_,_]) rfl ⟨(Wp [0,1,2,3] rfl rfl isAgg66 WC),rfl,trivial⟩
  refine ZN (Z7 (ZY ?_))
  have ⟨h1,H⟩:=Z4 H
  have ⟨Zu,Yk,H⟩:=Z9 H
  refine U3 [0,0,0,0] 17 rfl ?_
  refine YA 1 0 rfl ?_
  refine Zz 2 rfl (ZQ 8 underlying26 Xe) ?_
  refine Zz 3 rfl (Z8 rfl (.r 8) rfl isAgg9) ?_
  refine YA 1 4 rfl ?_
  refine Zz 6 rfl (ZQ 10 underlying30 MX) ?_
  refine Zz 7 rfl (Z8 rfl (.r 30) rfl isAgg28) ?_
  refine Zz 8 rfl (YK (i:=0) rfl rfl underlying28 LH rfl (.r 47) (VC (s:=2) (fun _=>rfl) rfl (tl h1)) h1.1 h1.2 (k:=0 * 2) rfl) ?_
  refine Zz 9 rfl (Vk rfl underlying60 rfl (k:=0) rfl Xe rfl) ?_
  refine Zz 10 rfl (Z8 rfl (.r 47) ((UM (g:=fun p:Str × Int=>[vs p.1,vi p.2]) (s:=2) (fun _=>rfl) Zv 0 0 (tl h1) (by decide:0<2)).trans rfl) isAgg9) ?_
  refine TBP [ED 11 37 (Value.tuple [aG [(1,[vi Zu.1]),(1,[vs Zu.2.1]),(1,[vi Zu.2.2.1]),(1,[vi Zu.2.2.2.1])],vi Zu.2.2.2.2].toArray) [],ED 12 25 (Value.tuple [aG [(1,[vi Zu.1]),(1,[vs Zu.2.1]),(1,[vi Zu.2.2.1]),(1,[vi Zu.2.2.2.1])],vi Zu.2.2.2.2].toArray) [11],ED 13 38 (aG [(1,[vi Zu.1]),(1,[vs Zu.2.1]),(1,[vi Zu.2.2.1]),(1,[vi Zu.2.2.2.1])]) [12],⟨15,8,fun _ b2=>ptr (some (b2,0)) 0,fun b2=>[⟨some (b2,0),[vi 0]⟩,⟨some (b2,1),[vs ([]:Str)]⟩,⟨some (b2,2),[vi 0]⟩,⟨some (b2,3),[vi 0]⟩],[],none⟩] [ED 14 39 (vi Zu.2.2.2.2) [12]] 2 [4,4,4,4] (.e rfl (Qg (qQ Yk :) call84 ⟨.r 51,trivial⟩) (.v rfl (ZO rfl) (.v rfl K5 (.c rfl (fun _ _=>(SL WC Ph)) .nil)))) (.c rfl (fun _=>K5) .nil) (fun γ=>?_)
  refine Qj [39,8,38,0,2,6] rfl rfl ?_
  generalize γ 15=b2
  refine Qh 16 [4,4,4,4] rfl (VZ [0,0,0,0] rfl rfl WC) (fun _=>rfl) (fun _=>?_)
  refine xH 17 rfl (XL rfl) ?_
  refine Vi ?_
  refine Z7 (ZY (UI (decide (Zu.2.2.2.2=0)) (fun Ei=>?_) (fun Ei=>?_)))
  ·replace H:=U8 (of_decide_eq_true Ei) H
   refine UI (decide (Zu.1=Sj)) (fun Gc=>?_) (fun Gc=>?_)
   ·replace H:=U8 (of_decide_eq_true Gc) H
    refine UI (decide (Zu.2.2.1≤Zk)) (fun Dy=>?_) (fun Dy=>?_)
    ·replace H:=U8 (of_decide_eq_true Dy) H
     have ⟨x1,TK,H⟩:=ZX H
     refine U3 [0,0,0,0] 29 rfl ?_
     refine Zz 0 rfl (VY [0,1,2,3] rfl rfl isAgg66 WC) ?_
     refine YA 0 1 rfl ?_
     refine Zz 2 rfl (ZT Xr) ?_
     refine YA 0 3 rfl ?_
     refine Xb 43 (congrArg vb Ei) ?_
     refine Zz 4 rfl (ZQ 0 underlying66 YM) ?_
     refine Zz 5 rfl (Z8 rfl (.o 0) rfl isAgg3) ?_
     refine YA 0 6 rfl ?_
     refine Zz 7 rfl (ZT Xr) ?_
     refine YA 1 8 rfl ?_
     refine Xb 49 (congrArg vb Gc) ?_
     refine Zz 10 rfl (ZQ 2 underlying66 YM) ?_
     refine Zz 11 rfl (Z8 rfl (.o 2) rfl isAgg3) ?_
     refine YA 1 12 rfl ?_
     refine Zz 14 rfl (ZQ 11 underlying26 YM) ?_
     refine Zz 15 rfl (Z8 rfl (.r 11) rfl isAgg3) ?_
     refine Zz 16 rfl (ZT RH) ?_
     refine YA 1 17 rfl ?_
     refine Xb 58 (congrArg vb Dy) ?_
     refine YA 1 19 rfl ?_
     refine Zz 21 rfl (ZQ 11 underlying26 YM) ?_
     refine Zz 22 rfl (Z8 rfl (.r 11) rfl isAgg3) ?_
     refine Zz 23 rfl (ZQ 2 underlying66 YM) ?_
     refine Zz 24 rfl (Z8 rfl (.o 2) rfl isAgg3) ?_
     refine Zz 25 rfl (ZT OX) ?_
     refine Zz 26 rfl (ZT RH) ?_
     refine YA 0 27 rfl ?_
     refine Qh 28 [4,4,4,4] rfl (VZ [4,4,4,4] rfl rfl WC) (fun _=>rfl) (fun _=>?_)
     refine xH 29 rfl (XL rfl) ?_
     refine Xb 7 (congrArg vb TK) ?_
     refine Vi ?_
     refine Z7 (Wz [6,7] [0,0,0,0] rfl rfl ?_)
     refine Y7 ?_
     obtain rfl:=sj H
     exact SF (vs:=[_,_]) rfl ⟨(Wp [0,1,2,3] rfl rfl isAgg66 WC),rfl,trivial⟩
    replace H:=U7 (of_decide_eq_false Dy) H
    refine U3 [0,0,0,0] 29 rfl ?_
    refine Zz 0 rfl (VY [0,1,2,3] rfl rfl isAgg66 WC) ?_
    refine YA 0 1 rfl ?_
    refine Zz 2 rfl (ZT Xr) ?_
    refine YA 0 3 rfl ?_
    refine Xb 43 (congrArg vb Ei) ?_
    refine Zz 4 rfl (ZQ 0 underlying66 YM) ?_
    refine Zz 5 rfl (Z8 rfl (.o 0) rfl isAgg3) ?_
    refine YA 0 6 rfl ?_
    refine Zz 7 rfl (ZT Xr) ?_
    refine YA 1 8 rfl ?_
    refine Xb 49 (congrArg vb Gc) ?_
    refine Zz 10 rfl (ZQ 2 underlying66 YM) ?_
    refine Zz 11 rfl (Z8 rfl (.o 2) rfl isAgg3) ?_
    refine YA 1 12 rfl ?_
    refine Zz 14 rfl (ZQ 11 underlying26 YM) ?_
    refine Zz 15 rfl (Z8 rfl (.r 11) rfl isAgg3) ?_
    refine Zz 16 rfl (ZT RH) ?_
    refine YA 1 17 rfl ?_
    refine Xb 58 (congrArg vb Dy) ?_
    refine YA 8 19 rfl ?_
    refine Qh 28 [4,4,4,4] rfl (VZ [4,4,4,4] rfl rfl WC) (fun _=>rfl) (fun _=>?_)
    refine xH 29 rfl (XL rfl) ?_
    refine Vi ?_
    refine Z7 (Wz [6,7] [0,0,0,0] rfl rfl ?_)
    refine Y7 ?_
    obtain rfl:=sj H
    exact SF (vs:=[_,_]) rfl ⟨(Wp [0,1,2,3] rfl rfl isAgg66 WC),rfl,trivial⟩
   replace H:=U7 (of_decide_eq_false Gc) H
   refine U3 [0,0,0,0] 29 rfl ?_
   refine Zz 0 rfl (VY [0,1,2,3] rfl rfl isAgg66 WC) ?_
   refine YA 0 1 rfl ?_
   refine Zz 2 rfl (ZT Xr) ?_
   refine YA 0 3 rfl ?_
   refine Xb 43 (congrArg vb Ei) ?_
   refine Zz 4 rfl (ZQ 0 underlying66 YM) ?_
   refine Zz 5 rfl (Z8 rfl (.o 0) rfl isAgg3) ?_
   refine YA 0 6 rfl ?_
   refine Zz 7 rfl (ZT Xr) ?_
   refine YA 1 8 rfl ?_
   refine Xb 49 (congrArg vb Gc) ?_
   refine YA 17 10 rfl ?_
   refine Qh 28 [4,4,4,4] rfl (VZ [4,4,4,4] rfl rfl WC) (fun _=>rfl) (fun _=>?_)
   refine xH 29 rfl (XL rfl) ?_
   refine Vi ?_
   refine Z7 (Wz [6,7] [0,0,0,0] rfl rfl ?_)
   refine Y7 ?_
   obtain rfl:=sj H
   exact SF (vs:=[_,_]) rfl ⟨(Wp [0,1,2,3] rfl rfl isAgg66 WC),rfl,trivial⟩
  replace H:=U7 (of_decide_eq_false Ei) H
  refine U3 [0,0,0,0] 29 rfl ?_
  refine Zz 0 rfl (VY [0,1,2,3] rfl rfl isAgg66 WC) ?_
  refine YA 0 1 rfl ?_
  refine Zz 2 rfl (ZT Xr) ?_
  refine YA 0 3 rfl ?_
  refine Xb 43 (congrArg vb Ei) ?_
  refine YA 23 4 rfl ?_
  refine Qh 28 [4,4,4,4] rfl (VZ [4,4,4,4] rfl rfl WC) (fun _=>rfl) (fun _=>?_)
  refine xH 29 rfl (XL rfl) ?_
  refine Vi ?_
  refine Z7 (Wz [6,7] [0,0,0,0] rfl rfl ?_)
  refine Y7 ?_
  obtain rfl:=sj H
  exact SF (vs:=[_,_]) rfl ⟨(Wp [0,1,2,3] rfl rfl isAgg66 WC),rfl,trivial⟩
 intro hJ
 replace H:=Hj
 refine Td (d:=16) H (fun hc H=>?_) (fun hc H=>?_)
 ·refine Zj 7 rfl ?_
  refine ZK ?_
  obtain rfl:=sj H
  exact WW [0,0,0,0] (hJ ())
 refine Zj 2 rfl ?_
 refine Zc (ZQ 8 underlying30 XO) ?_
 refine Zc (Z8 rfl (.r 28) rfl isAgg22) ?_
 have ⟨YJ,X6,H⟩:=Z9 H
 refine JQ (Y4 (Sw Ws X6 :) call62 ⟨.r 45,trivial⟩) (fun UD=>?_)
 refine Zc (UF T_) ?_
 refine FE ?_
 refine ZK ?_
 obtain rfl:=sj H
 exact WW [0,0,0,0] (hJ ())
def Su (Uo:Bool) (VK VN:List (Int)) (Ve:List (Str)) (Qo:Str) (Vf:List (Str)) (RP:Str) (UQ:Int) (RD:Str) (Tk:List (Str × Str × Int × Int × Int × Int)) (RO:Str) (Tf Qn:Int) (Tj RB RF:Int) (Ua UR:Str) (VL:List (Int)) (Ru:Str) (WX WI:List (Int)) (Wy Vo:List (Int)) (YU:List (Int × Str)) (XM:List (Str × Int)) (V5:List (Str)) (Qq:Int) (VA:List (Int)) (Vh:List (Str)) (Ub:Int) (Rz:Str) (RI Qk:Int) (Te:Str) (Ui:Int) (Qm:Bool) (R8 UT Tq:Int) (Xf:Str) (Xa TV:Bool) (UA:Int):Option (Int × Bool) :=
 if Xa=true then (some ((-1),TV)) else ((if 0<((XM).length:Int) then (some (decide (((Vo).length:Int)=0))) else (some false)).bind fun j1=>(if j1=true then (some (109,TV)) else ((Oq Uo VK VN Ve Qo Vf RP UQ RD Tk RO Tf Qn Tj RB RF Ua UR VL Ru WX WI Wy Vo YU XM V5 Qq VA Vh Ub Rz RI Qk Te Ui UT).bind fun Zu=>(if Zu.2.2.2.2=true then (some ((-1),Zu.2.2.2.2)) else (X5 (decide (((Wy).length:Int)=0)) fun x1=>(if x1=true then (some (109,Zu.2.2.2.2)) else ((Yi Wy 1027).bind fun YJ=>(if (!YJ)=true then (some (40,Zu.2.2.2.2)) else (some ((-1),Zu.2.2.2.2))))))))))
theorem qC {ba:Nat} {oba:Nat} {ba_c:Nat} {oba_c:Nat} {Aa_c_Suites:Y6} {ca_c_Suites:Nat} {Aa_c_Groups:Y6} {ca_c_Groups:Nat} {Aa_c_Chain:Y6} {ca_c_Chain:Nat} {Aa_c_Roots:Y6} {ca_c_Roots:Nat} {Aa_c_Psk:Y6} {ca_c_Psk:Nat} {ba_m:Nat} {oba_m:Nat} {Aa_m_Suites:Y6} {ca_m_Suites:Nat} {Aa_m_Versions:Y6} {ca_m_Versions:Nat} {Aa_m_Groups:Y6} {ca_m_Groups:Nat} {Aa_m_Schemes:Y6} {ca_m_Schemes:Nat} {Aa_m_Modes:Y6} {ca_m_Modes:Nat} {Aa_m_Shares:Y6} {ca_m_Shares:Nat} {Aa_m_Identities:Y6} {ca_m_Identities:Nat} {Aa_m_Binders:Y6} {ca_m_Binders:Nat} {Aa_m_Others:Y6} {ca_m_Others:Nat} {Aa_m_Certs:Y6} {ca_m_Certs:Nat} {Uo:Bool} {VK:List (Int)} {VN:List (Int)} {Ve:List (Str)} {Qo:Str} {Vf:List (Str)} {RP:Str} {UQ:Int} {RD:Str} {Tk:List (Str × Str × Int × Int × Int × Int)} {RO:Str} {Tf:Int} {Qn:Int} {Tj:Int} {RB:Int} {RF:Int} {Ua:Str} {UR:Str} {VL:List (Int)} {Ru:Str} {WX:List (Int)} {WI:List (Int)} {Wy:List (Int)} {Vo:List (Int)} {YU:List (Int × Str)} {XM:List (Str × Int)} {V5:List (Str)} {Qq:Int} {VA:List (Int)} {Vh:List (Str)} {Ub:Int} {Rz:Str} {RI:Int} {Qk:Int} {Te:Str} {Ui:Int} {Qm:Bool} {R8:Int} {UT:Int} {Tq:Int} {Xf:Str} {Xa:Bool} {TV:Bool} {UA:Int} (PN:(VK).length≤ca_c_Suites) (PM:(VN).length≤ca_c_Groups) (Nn:(Ve).length≤ca_c_Chain) (Na:(Vf).length≤ca_c_Roots) (KY:(Tk).length≤ca_c_Psk) (PE:(VL).length≤ca_m_Suites) (Q3:(WX).length≤ca_m_Versions) (QF:(WI).length≤ca_m_Groups) (Qu:(Wy).length≤ca_m_Schemes) (Np:(Vo).length≤ca_m_Modes) (Tx:(YU).length≤ca_m_Shares) (Q4:(XM).length≤ca_m_Identities) (Pf:(V5).length≤ca_m_Binders) (Ol:(VA).length≤ca_m_Others) (Ng:(Vh).length≤ca_m_Certs) {r:Int × Bool} (H:Su Uo VK VN Ve Qo Vf RP UQ RD Tk RO Tf Qn Tj RB RF Ua UR VL Ru WX WI Wy Vo YU XM V5 Qq VA Vh Ub Rz RI Qk Te Ui Qm R8 UT Tq Xf Xa TV UA=some r) :
  Does Tryz.prog 32 [ptr (some (ba,oba)) 0] [⟨some (ba,oba+8),[vb TV]⟩] [⟨some (ba,oba),[ptr (some (ba_c,oba_c)) 0]⟩,⟨some (ba,oba+1),[ptr (some (ba_m,oba_m)) 0]⟩,⟨some (ba,oba+2),[vb Qm]⟩,⟨some (ba,oba+3),[vi R8]⟩,⟨some (ba,oba+4),[vi UT]⟩,⟨some (ba,oba+5),[vi Tq]⟩,⟨some (ba,oba+6),[vs Xf]⟩,⟨some (ba,oba+7),[vb Xa]⟩,⟨some (ba,oba+9),[vi UA]⟩,⟨some (ba_c,oba_c),[vb Uo]⟩,⟨some (ba_c,oba_c+1),[sl Aa_c_Suites ((VK).length) ca_c_Suites]⟩,⟨some (ba_c,oba_c+2),[sl Aa_c_Groups ((VN).length) ca_c_Groups]⟩,⟨some (ba_c,oba_c+3),[sl Aa_c_Chain ((Ve).length) ca_c_Chain]⟩,⟨some (ba_c,oba_c+4),[vs Qo]⟩,⟨some (ba_c,oba_c+5),[sl Aa_c_Roots ((Vf).length) ca_c_Roots]⟩,⟨some (ba_c,oba_c+6),[vs RP]⟩,⟨some (ba_c,oba_c+7),[vi UQ]⟩,⟨some (ba_c,oba_c+8),[vs RD]⟩,⟨some (ba_c,oba_c+9),[sl Aa_c_Psk ((Tk).length) ca_c_Psk]⟩,⟨some (ba_c,oba_c+10),[vs RO]⟩,⟨some (ba_c,oba_c+11),[vi Tf]⟩,⟨some (ba_c,oba_c+12),[vi Qn]⟩,⟨some (ba_c,oba_c+13),[vi Tj]⟩,⟨some (ba_c,oba_c+14),[vi RB]⟩,⟨Aa_c_Suites,eI VK⟩,⟨Aa_c_Groups,eI VN⟩,⟨Aa_c_Chain,eS Ve⟩,⟨Aa_c_Roots,eS Vf⟩,⟨Aa_c_Psk,eF (fun p:Str × Str × Int × Int × Int × Int=>[vs p.1,vs p.2.1,vi p.2.2.1,vi p.2.2.2.1,vi p.2.2.2.2.1,vi p.2.2.2.2.2]) Tk⟩,⟨some (ba_m,oba_m),[vi RF]⟩,⟨some (ba_m,oba_m+1),[vs Ua]⟩,⟨some (ba_m,oba_m+2),[vs UR]⟩,⟨some (ba_m,oba_m+3),[sl Aa_m_Suites ((VL).length) ca_m_Suites]⟩,⟨some (ba_m,oba_m+4),[vs Ru]⟩,⟨some (ba_m,oba_m+5),[sl Aa_m_Versions ((WX).length) ca_m_Versions]⟩,⟨some (ba_m,oba_m+6),[sl Aa_m_Groups ((WI).length) ca_m_Groups]⟩,⟨some (ba_m,oba_m+7),[sl Aa_m_Schemes ((Wy).length) ca_m_Schemes]⟩,⟨some (ba_m,oba_m+8),[sl Aa_m_Modes ((Vo).length) ca_m_Modes]⟩,⟨some (ba_m,oba_m+9),[sl Aa_m_Shares ((YU).length) ca_m_Shares]⟩,⟨some (ba_m,oba_m+10),[sl Aa_m_Identities ((XM).length) ca_m_Identities]⟩,⟨some (ba_m,oba_m+11),[sl Aa_m_Binders ((V5).length) ca_m_Binders]⟩,⟨some (ba_m,oba_m+12),[vi Qq]⟩,⟨some (ba_m,oba_m+13),[sl Aa_m_Others ((VA).length) ca_m_Others]⟩,⟨some (ba_m,oba_m+14),[sl Aa_m_Certs ((Vh).length) ca_m_Certs]⟩,⟨some (ba_m,oba_m+15),[vi Ub]⟩,⟨some (ba_m,oba_m+16),[vs Rz]⟩,⟨some (ba_m,oba_m+17),[vi RI]⟩,⟨some (ba_m,oba_m+18),[vi Qk]⟩,⟨some (ba_m,oba_m+19),[vs Te]⟩,⟨some (ba_m,oba_m+20),[vi Ui]⟩,⟨Aa_m_Suites,eI VL⟩,⟨Aa_m_Versions,eI WX⟩,⟨Aa_m_Groups,eI WI⟩,⟨Aa_m_Schemes,eI Wy⟩,⟨Aa_m_Modes,eI Vo⟩,⟨Aa_m_Shares,eF (fun p:Int × Str=>[vi p.1,vs p.2]) YU⟩,⟨Aa_m_Identities,eF (fun p:Str × Int=>[vs p.1,vi p.2]) XM⟩,⟨Aa_m_Binders,eS V5⟩,⟨Aa_m_Others,eI VA⟩,⟨Aa_m_Certs,eS Vh⟩,⟨some (0,0),[vo]⟩] (Γ:=Unit) (fun g=>vi r.1) (fun g=>[⟨some (ba,oba+8),[vb r.2]⟩]):=by
 intro w hmem hro hd
 refine Zn func32 rfl ntmps32 rfl hmem hro hd ?_
 unfold Su at H
 refine Z_ (Y2 ?_)
 refine Z6 (ZY (Z_ (Zj 2 rfl ?_)))
 refine ZV (ZQ 4 underlying74 XE) ?_
 refine ZV (ZQ 3 underlying34 MS) ?_
 refine ZV (Z8 rfl (.r 7) rfl isAgg4) ?_
 refine Z6 (Sn H (fun hc H=>?_) (fun hc H=>?_))
 ·refine Z_ (Y2 ?_)
  refine Zq (ZZ ?_)
  obtain rfl:=sj H
  exact JK () [0] (vs:=[_]) rfl ⟨rfl,trivial⟩ rfl
 refine ZN (Z7 (ZY (Z_ (Zj 2 rfl ?_))))
 refine ZV (ZQ 1 underlying74 OB) ?_
 refine ZV (Z8 rfl (.r 1) rfl isAgg72) ?_
 refine ZV (Zh rfl) ?_
 refine ZV (ZQ 10 underlying30 MX) ?_
 refine ZV (Z8 rfl (.r 39) rfl isAgg28) ?_
 refine ZV (ZG rfl underlying28) ?_
 refine ZV (ZT Sv) ?_
 refine YP ?_
 have ⟨j1,Hj,H⟩:=Z9 H
 refine VH (Γ:=Unit) (fun Sc=>[(0,ptr (some (ba,oba)) 0),(27,vb j1)]) (fun Sc=>[⟨some (ba,oba+8),[vb TV]⟩]) ?_ ?_
 ·intro Sc
  refine Z7 (Sn H (fun hc H=>?_) (fun hc H=>?_))
  ·refine Z_ (Y2 ?_)
   refine Zq (ZZ ?_)
   obtain rfl:=sj H
   exact JK () [0] (vs:=[_]) rfl ⟨rfl,trivial⟩ rfl
  refine ZN (Z7 (ZY ?_))
  have ⟨Zu,Yk,H⟩:=Z9 H
  refine U3 [] 22 rfl ?_
  refine PX 1 [] (.v 0 [] rfl rfl (ZO rfl) (.v 1 [] rfl rfl (ZO rfl) (.v 2 [1] rfl rfl (Zh rfl) (.v 3 [2] rfl rfl (ZQ 0 underlying74 lY) (.v 4 [3] rfl rfl (Z8 rfl (.r 0) rfl isAgg71) (.v 5 [] rfl rfl (ZO rfl) (.v 6 [5] rfl rfl (Zh rfl) (.v 7 [6] rfl rfl (ZQ 1 underlying74 OB) (.v 8 [7] rfl rfl (Z8 rfl (.r 1) rfl isAgg72) (.v 9 [] rfl rfl (ZO rfl) (.v 10 [9] rfl rfl (Zh rfl) (.v 11 [10] rfl rfl (ZQ 4 underlying74 XE) (.v 12 [11] rfl rfl (ZQ 0 underlying34 YM) (.v 13 [12] rfl rfl (Z8 rfl (.r 4) rfl isAgg3) (.e 14 [4,13,8] rfl rfl (Qg (pQ PN PM Nn Na KY PE Q3 QF Qu Np Tx Q4 Pf Ol Ng Yk :) call67 ⟨.r 9, .r 10, .r 11, .r 12, .r 13, .r 14, .r 15, .r 16, .r 17, .r 18, .r 19, .r 20, .r 21, .r 22, .r 23, .r 24, .r 25, .r 26, .r 27, .r 28, .r 29, .r 30, .r 31, .r 32, .r 33, .r 34, .r 35, .r 36, .r 37, .r 38, .r 39, .r 40, .r 41, .r 42, .r 43, .r 44, .r 45, .r 46, .r 47, .r 48, .r 49, .r 50, .r 51, .r 52, .r 53, .r 54, .r 55, .r 56, .r 57, .r 58, .r 59, .r 60,trivial⟩) (.v 15 [14] rfl rfl (ZO rfl) (.v 16 [15] rfl rfl K5 (.v 17 [15] rfl rfl K5 (.v 18 [0] rfl rfl (Zh rfl) (.v 19 [18] rfl rfl (ZQ 4 underlying74 XE) (.v 20 [19] rfl rfl (ZQ 4 underlying34 MS) .nil))))))))))))))))))))) (fun γ=>?_)
  refine Qj [48,45,0] rfl rfl ?_
  refine Qh 21 [] rfl (YR (j:=0) rfl rfl MS rfl rfl rfl (Nat.lt_succ_self 0) (cs':=[vb Zu.2.2.2.2]) rfl) (fun _=>rfl) (fun _=>?_)
  refine Vi ?_
  refine Z7 (ZY (ZP (Z_ (Zj 2 rfl ?_))))
  refine ZV (ZQ 4 underlying74 XE) ?_
  refine ZV (ZQ 4 underlying34 MS) ?_
  refine ZV (Z8 rfl (.o 0) rfl isAgg4) ?_
  refine Y2 ?_
  refine Z6 (Sn H (fun hc H=>?_) (fun hc H=>?_))
  ·refine Z_ (Y2 ?_)
   refine Zq (ZE (ZZ ?_))
   obtain rfl:=sj H
   exact JK () [0] (vs:=[_]) rfl ⟨rfl,trivial⟩ rfl
  refine Z_ (Zj 2 rfl ?_)
  refine ZV (ZQ 1 underlying74 OB) ?_
  refine ZV (Z8 rfl (.r 1) rfl isAgg72) ?_
  refine ZV (Zh rfl) ?_
  refine ZV (ZQ 7 underlying30 XO) ?_
  refine ZV (Z8 rfl (.r 36) rfl isAgg22) ?_
  refine ZV (ZG rfl underlying22) ?_
  refine ZV (ZT Xr) ?_
  refine Y2 ?_
  have ⟨x1,TK,H⟩:=ZX H
  refine WN 55 (congrArg vb TK) ?_
  refine Z6 (Sn H (fun hc H=>?_) (fun hc H=>?_))
  ·refine Z_ (Y2 ?_)
   refine Zq (ZE (ZZ ?_))
   obtain rfl:=sj H
   exact JK () [0] (vs:=[_]) rfl ⟨rfl,trivial⟩ rfl
  refine Z_ (Zj 2 rfl ?_)
  refine ZV (ZQ 1 underlying74 OB) ?_
  refine ZV (Z8 rfl (.r 1) rfl isAgg72) ?_
  refine ZV (Zh rfl) ?_
  refine ZV (ZQ 7 underlying30 XO) ?_
  refine ZV (Z8 rfl (.r 36) rfl isAgg22) ?_
  have ⟨YJ,X6,H⟩:=Z9 H
  refine YE (Y4 (Sw Qu X6 :) call62 ⟨.r 53,trivial⟩) (fun UD=>?_)
  refine ZV (UF T_) ?_
  refine Y2 ?_
  refine Z6 (Sn H (fun hc H=>?_) (fun hc H=>?_))
  ·refine Z_ (Y2 ?_)
   refine Z6 (Wz [2] [0] rfl rfl ?_)
   refine Y7 (ZE (ZZ ?_))
   obtain rfl:=sj H
   exact JK () [0] (vs:=[_]) rfl ⟨rfl,trivial⟩ rfl
  refine ZN (ZW (Z7 (Z_ (Y2 ?_))))
  refine Z6 (Wz [2] [0] rfl rfl ?_)
  refine Y7 ?_
  obtain rfl:=sj H
  exact JK () [0] (vs:=[_]) rfl ⟨rfl,trivial⟩ rfl
 intro hJ
 replace H:=Hj
 refine Td (d:=17) H (fun hc H=>?_) (fun hc H=>?_)
 ·refine Zj 2 rfl ?_
  refine Zc (ZQ 1 underlying74 OB) ?_
  refine Zc (Z8 rfl (.r 1) rfl isAgg72) ?_
  refine Zc (Zh rfl) ?_
  refine Zc (ZQ 8 underlying30 XO) ?_
  refine Zc (Z8 rfl (.r 37) rfl isAgg22) ?_
  refine Zc (ZG rfl underlying22) ?_
  refine Zc (ZT Xr) ?_
  refine ak ?_
  refine ZK ?_
  obtain rfl:=sj H
  exact WW [0] (hJ ())
 refine Zj 10 rfl ?_
 refine ZK ?_
 obtain rfl:=sj H
 exact WW [0] (hJ ())
def PD (Zm:Bool) (ZI ZR:List (Int)) (Zx:List (Str)) (Yp:Str) (Zr:List (Str)) (Zb:Str) (ZC:Int) (Y5:Str) (ZB:List (Str × Str × Int × Int × Int × Int)) (YN:Str) (Zk Ye:Int) (Zd YO WF:Int) (X9 Yu:Str) (Yz:List (Int)) (Wx:Str) (Za YI:List (Int)) (YX Yj:List (Int)) (Y_:List (Int × Str)) (Zv:List (Str × Int)) (YS:List (Str)) (Vl:Int) (Yy:List (Int)) (Yf:List (Str)) (X8:Int) (Wv:Str) (Ww Vm:Int) (XD:Str) (X_:Int) (again:Bool) (group:Int):Option (Int × Int × Str × Bool × Bool × Int) :=
 (PQ Zm ZI ZR Zx Yp Zr Zb ZC Y5 ZB YN Zk Ye Zd YO).bind fun Zu=>((if (!Zu)=true then (some true) else (if (!Zm)=true then (some true) else (some (decide (WF ≠ 1))))).bind fun j1=>(if j1=true then (some (0,0,([]:Str),false,false,40)) else ((VF Zm ZI ZR Zx Yp Zr Zb ZC Y5 ZB YN Zk Ye Zd YO WF X9 Yu Yz Wx Za YI YX Yj Y_ Zv YS Vl Yy Yf X8 Wv Ww Vm XD X_ again group 0 0 ([]:Str) false false 0).bind fun YJ=>(if YJ.1 ≠ (-1) then (some (0,0,([]:Str),false,false,YJ.1)) else ((X3 Zm ZI ZR Zx Yp Zr Zb ZC Y5 ZB YN Zk Ye Zd YO WF X9 Yu Yz Wx Za YI YX Yj Y_ Zv YS Vl Yy Yf X8 Wv Ww Vm XD X_ again group YJ.2 0 ([]:Str) false false 0).bind fun X7=>(if X7.1 ≠ (-1) then (some (0,0,([]:Str),false,false,X7.1)) else ((Su Zm ZI ZR Zx Yp Zr Zb ZC Y5 ZB YN Zk Ye Zd YO WF X9 Yu Yz Wx Za YI YX Yj Y_ Zv YS Vl Yy Yf X8 Wv Ww Vm XD X_ again group YJ.2 X7.2.1 X7.2.2.1 X7.2.2.2 false 0).bind fun Xu=>(if Xu.1 ≠ (-1) then (some (0,0,([]:Str),false,false,Xu.1)) else (some (YJ.2,X7.2.1,X7.2.2.1,X7.2.2.2,Xu.2,(-1)))))))))))
theorem Cc {YZ:Y6} {Y0:Nat} {Y1:Y6} {YY:Nat} {YC:Y6} {YH:Nat} {YG:Y6} {YF:Nat} {XR:Y6} {XP:Nat} {WP:Y6} {WO:Nat} {XV:Y6} {XU:Nat} {WS:Y6} {WQ:Nat} {Xy:Y6} {Xx:Nat} {VU:Y6} {VW:Nat} {WT:Y6} {WR:Nat} {Yl:Y6} {Ym:Nat} {Xw:Y6} {Xz:Nat} {WU:Y6} {WM:Nat} {VV:Y6} {VX:Nat} {Zm:Bool} {ZI:List (Int)} {ZR:List (Int)} {Zx:List (Str)} {Yp:Str} {Zr:List (Str)} {Zb:Str} {ZC:Int} {Y5:Str} {ZB:List (Str × Str × Int × Int × Int × Int)} {YN:Str} {Zk:Int} {Ye:Int} {Zd:Int} {YO:Int} {WF:Int} {X9:Str} {Yu:Str} {Yz:List (Int)} {Wx:Str} {Za:List (Int)} {YI:List (Int)} {YX:List (Int)} {Yj:List (Int)} {Y_:List (Int × Str)} {Zv:List (Str × Int)} {YS:List (Str)} {Vl:Int} {Yy:List (Int)} {Yf:List (Str)} {X8:Int} {Wv:Str} {Ww:Int} {Vm:Int} {XD:Str} {X_:Int} {again:Bool} {group:Int} (YV:(ZI).length≤Y0) (YD:(ZR).length≤YY) (Y8:(Zx).length≤YH) (Yq:(Zr).length≤YF) (Xk:(ZB).length≤XP) (W9:(Yz).length≤WO) (XW:(Za).length≤XU) (Xd:(YI).length≤WQ) (XA:(YX).length≤Xx) (Ws:(Yj).length≤VW) (WJ:(Y_).length≤WR) (Yd:(Zv).length≤Ym) (Xq:(YS).length≤Xz) (WL:(Yy).length≤WM) (V6:(Yf).length≤VX) {r:Int × Int × Str × Bool × Bool × Int} (H:PD Zm ZI ZR Zx Yp Zr Zb ZC Y5 ZB YN Zk Ye Zd YO WF X9 Yu Yz Wx Za YI YX Yj Y_ Zv YS Vl Yy Yf X8 Wv Ww Vm XD X_ again group=some r) :
  Does Tryz.prog 12 [aG [(1,[vb Zm]),(1,[sl YZ ((ZI).length) Y0]),(1,[sl Y1 ((ZR).length) YY]),(1,[sl YC ((Zx).length) YH]),(1,[vs Yp]),(1,[sl YG ((Zr).length) YF]),(1,[vs Zb]),(1,[vi ZC]),(1,[vs Y5]),(1,[sl XR ((ZB).length) XP]),(1,[vs YN]),(1,[vi Zk]),(1,[vi Ye]),(1,[vi Zd]),(1,[vi YO])],aG [(1,[vi WF]),(1,[vs X9]),(1,[vs Yu]),(1,[sl WP ((Yz).length) WO]),(1,[vs Wx]),(1,[sl XV ((Za).length) XU]),(1,[sl WS ((YI).length) WQ]),(1,[sl Xy ((YX).length) Xx]),(1,[sl VU ((Yj).length) VW]),(1,[sl WT ((Y_).length) WR]),(1,[sl Yl ((Zv).length) Ym]),(1,[sl Xw ((YS).length) Xz]),(1,[vi Vl]),(1,[sl WU ((Yy).length) WM]),(1,[sl VV ((Yf).length) VX]),(1,[vi X8]),(1,[vs Wv]),(1,[vi Ww]),(1,[vi Vm]),(1,[vs XD]),(1,[vi X_])],vb again,vi group] [] [⟨YZ,eI ZI⟩,⟨Y1,eI ZR⟩,⟨YC,eS Zx⟩,⟨YG,eS Zr⟩,⟨XR,eF (fun p:Str × Str × Int × Int × Int × Int=>[vs p.1,vs p.2.1,vi p.2.2.1,vi p.2.2.2.1,vi p.2.2.2.2.1,vi p.2.2.2.2.2]) ZB⟩,⟨WP,eI Yz⟩,⟨XV,eI Za⟩,⟨WS,eI YI⟩,⟨Xy,eI YX⟩,⟨VU,eI Yj⟩,⟨WT,eF (fun p:Int × Str=>[vi p.1,vs p.2]) Y_⟩,⟨Yl,eF (fun p:Str × Int=>[vs p.1,vi p.2]) Zv⟩,⟨Xw,eS YS⟩,⟨WU,eI Yy⟩,⟨VV,eS Yf⟩,⟨some (0,0),[vo]⟩] (Γ:=Unit) (fun g=>aG [(1,[vi r.1]),(1,[vi r.2.1]),(1,[vs r.2.2.1]),(1,[vb r.2.2.2.1]),(1,[vb r.2.2.2.2.1]),(1,[vi r.2.2.2.2.2])]) (fun g=>[]):=by
 intro w hmem hro hd
 refine Zn func12 rfl ntmps12 rfl hmem hro hd ?_
 unfold PD at H
 refine Z_ (YE PT (fun b1=>?_))
 refine YE PT (fun b2=>?_)
 refine YE (SL XE LZ) (fun b3=>?_)
 refine Z6 (Wz [2,3,4,5,8] (rp 15 27++rp 21 6++rp 6 0) rfl rfl ?_)
 refine ZY (Z_ (ZV (VY [0,1,2,3,4,5,6,7,8,9,10,11,12,13,14] rfl rfl isAgg26 We) ?_))
 have ⟨Zu,Yk,H⟩:=Z9 H
 refine YE (Y4 (Qv YV YD Y8 Yq Xk Yk :) call16 ⟨.r 0, .r 1, .r 2, .r 3, .r 4,trivial⟩) (fun Re=>?_)
 refine ZV (UF T_) ?_
 refine YP ?_
 have ⟨j1,Hj,H⟩:=Z9 H
 refine VH (Γ:=Unit) (fun Sc=>[(2,vb again),(3,vi group),(4,ptr (some (b1,0)) 0),(5,ptr (some (b2,0)) 0),(8,ptr (some (b3,0)) 0),(25,vb j1)]) (fun Sc=>[⟨some (b1,0),[vb Zm]⟩,⟨some (b1,1),[sl YZ ((ZI).length) Y0]⟩,⟨some (b1,2),[sl Y1 ((ZR).length) YY]⟩,⟨some (b1,3),[sl YC ((Zx).length) YH]⟩,⟨some (b1,4),[vs Yp]⟩,⟨some (b1,5),[sl YG ((Zr).length) YF]⟩,⟨some (b1,6),[vs Zb]⟩,⟨some (b1,7),[vi ZC]⟩,⟨some (b1,8),[vs Y5]⟩,⟨some (b1,9),[sl XR ((ZB).length) XP]⟩,⟨some (b1,10),[vs YN]⟩,⟨some (b1,11),[vi Zk]⟩,⟨some (b1,12),[vi Ye]⟩,⟨some (b1,13),[vi Zd]⟩,⟨some (b1,14),[vi YO]⟩,⟨some (b2,0),[vi WF]⟩,⟨some (b2,1),[vs X9]⟩,⟨some (b2,2),[vs Yu]⟩,⟨some (b2,3),[sl WP ((Yz).length) WO]⟩,⟨some (b2,4),[vs Wx]⟩,⟨some (b2,5),[sl XV ((Za).length) XU]⟩,⟨some (b2,6),[sl WS ((YI).length) WQ]⟩,⟨some (b2,7),[sl Xy ((YX).length) Xx]⟩,⟨some (b2,8),[sl VU ((Yj).length) VW]⟩,⟨some (b2,9),[sl WT ((Y_).length) WR]⟩,⟨some (b2,10),[sl Yl ((Zv).length) Ym]⟩,⟨some (b2,11),[sl Xw ((YS).length) Xz]⟩,⟨some (b2,12),[vi Vl]⟩,⟨some (b2,13),[sl WU ((Yy).length) WM]⟩,⟨some (b2,14),[sl VV ((Yf).length) VX]⟩,⟨some (b2,15),[vi X8]⟩,⟨some (b2,16),[vs Wv]⟩,⟨some (b2,17),[vi Ww]⟩,⟨some (b2,18),[vi Vm]⟩,⟨some (b2,19),[vs XD]⟩,⟨some (b2,20),[vi X_]⟩,⟨some (b3,0),[vi 0]⟩,⟨some (b3,1),[vi 0]⟩,⟨some (b3,2),[vs ([]:Str)]⟩,⟨some (b3,3),[vb false]⟩,⟨some (b3,4),[vb false]⟩,⟨some (b3,5),[vi 0]⟩]) ?_ ?_
 ·intro Sc
  refine Z7 (Sn H (fun hc H=>?_) (fun hc H=>?_))
  ·refine Z_ (ZV (Y9 (pv:=[(5,vi 40)]) (pl:=[(0,1),(1,1),(2,1),(3,1),(4,1),(5,1)]) rfl rfl underlying34 XE Mr LZ (cs:=flat [(1,[vi 0]),(1,[vi 0]),(1,[vs ([]:Str)]),(1,[vb false]),(1,[vb false]),(1,[vi 40])]) (by kernel_rfl)) ?_)
   refine VM (VZ [36,36,36,36,36,36] rfl rfl XE) (fun _=>?_)
   refine Zq (ZZ ?_)
   obtain rfl:=sj H
   exact SF (vs:=[_]) rfl ⟨(Wp [0,1,2,3,4,5] rfl rfl isAgg34 XE),trivial⟩
  refine ZN (Z7 (Z_ (Zj 2 rfl ?_)))
  refine ZV (Y9 (pv:=[(0,ptr (some (b1,0)) 0),(1,ptr (some (b2,0)) 0),(2,vb again),(3,vi group)]) (pl:=[(0,1),(1,1),(2,1),(3,1),(4,6)]) rfl rfl underlying74 abO lm abR (cs:=flat [(1,[ptr (some (b1,0)) 0]),(1,[ptr (some (b2,0)) 0]),(1,[vb again]),(1,[vi group]),(1,[vi 0]),(1,[vi 0]),(1,[vs ([]:Str)]),(1,[vb false]),(1,[vb false]),(1,[vi 0])]) (by kernel_rfl)) ?_
  refine YE PT (fun b4=>?_)
  refine Y2 ?_
  refine Z6 (ZY (Z_ (YE (Ya (pv:=[(0,Value.func (.func 30) #[] #[]),(1,Value.func (.func 31) #[] #[]),(2,Value.func (.func 32) #[] #[])]) rfl rfl underlying77 uo (s:=1) rfl aak rfl rfl rfl (cs:=[Value.func (.func 30) #[] #[],Value.func (.func 31) #[] #[],Value.func (.func 32) #[] #[]]) (by kernel_rfl)) (fun b5=>?_))))
  refine ZV (ZG rfl underlying77) ?_
  refine YP ?_
  refine Z6 (Wz [8,9,31,32,33] (rp 6 47++1 :: rp 15 10++1 :: rp 21 9++rp 8 1++0 :: []) rfl rfl ?_)
  refine ZP (oQ 4 ?_)
  refine E9 (Z_ (ZV (ZT WV) ?_))
  refine Z6 (ZY (VI rfl ?_))
  refine ZN (Z7 (ZY (ZP (Z_ (ZV (RQ (i:=0) rfl rfl underlying77 uo rfl (fun _ h=>by cases h) (by decide) (by decide) (k:=0) (JZ _)) ?_)))))
  refine ZV (Z8 rfl (.o 52) rfl isAgg75) ?_
  refine Y2 ?_
  refine Z6 (Z_ (Zj 2 rfl ?_))
  have ⟨YJ,X6,H⟩:=Z9 H
  refine YE (EU (Γ:=Unit) (val:=fun g=>vi YJ.1) (mem:=fun g=>[⟨some (b4,4),[vi YJ.2]⟩]) (vs:=[ptr (some (b4,0)) 0]) (cap:=[]) (Qf:=[⟨some (b4,4),[vi 0]⟩]) (is:=[46]) rfl rfl call30 (qj YV YD Y8 Yq Xk W9 XW Xd XA Ws WJ Yd Xq WL V6 X6 :) rfl ⟨.o 6, .o 22, .o 44, .o 45, .o 46, .o 47, .o 48, .o 49, .o 50, .o 7, .o 8, .o 9, .o 10, .o 11, .o 12, .o 13, .o 14, .o 15, .o 16, .o 17, .o 18, .o 19, .o 20, .o 21, .r 0, .r 1, .r 2, .r 3, .r 4, .o 23, .o 24, .o 25, .o 26, .o 27, .o 28, .o 29, .o 30, .o 31, .o 32, .o 33, .o 34, .o 35, .o 36, .o 37, .o 38, .o 39, .o 40, .o 41, .o 42, .o 43, .r 5, .r 6, .r 7, .r 8, .r 9, .r 10, .r 11, .r 12, .r 13, .r 14,trivial⟩) (fun UD=>?_)
  refine Y2 ?_
  refine Z6 (Z_ (YP ?_))
  refine ZV (ZT SN) ?_
  refine Z6 (UK H (fun hc H=>?_) (fun hc H=>?_))
  ·refine Z_ (YP ?_)
   refine ZV (Y9 (pv:=[(5,vi YJ.1)]) (pl:=[(0,1),(1,1),(2,1),(3,1),(4,1),(5,1)]) rfl rfl underlying34 XE Mr LZ (cs:=flat [(1,[vi 0]),(1,[vi 0]),(1,[vs ([]:Str)]),(1,[vb false]),(1,[vb false]),(1,[vi YJ.1])]) (by kernel_rfl)) ?_
   refine VM (VZ [1,1,1,1,1,1] rfl rfl XE) (fun _=>?_)
   refine Z6 (Wz [8] [0,0,0,0,0,0] rfl rfl ?_)
   refine Y7 (ZE (ZZ (ZZ (ZE (ZZ ?_)))))
   obtain rfl:=sj H
   exact SF (vs:=[_]) rfl ⟨(Wp [0,1,2,3,4,5] rfl rfl isAgg34 XE),trivial⟩
  refine ZN (ZW (Z7 (ZH (ZV (Zg rfl rfl (fun w=>C8 w (a:=0) (b:=1) (c:=1) (by decide))) ?_))))
  refine YP ?_
  refine ZK (Es (E9 (Wz [8,9,31,32,33] (rp 46 1++rp 7 0) rfl rfl ?_)))
  refine Z_ (ZV (ZT WV) ?_)
  refine Z6 (ZY (VI rfl ?_))
  refine ZN (Z7 (ZY (ZP (Z_ (ZV (RQ (i:=1) rfl rfl underlying77 uo rfl (fun _ h=>by cases h) (by decide) (by decide) (k:=1) (JZ _)) ?_)))))
  refine ZV (Z8 rfl (.o 52) rfl isAgg75) ?_
  refine Y2 ?_
  refine Z6 (Z_ (Zj 2 rfl ?_))
  have ⟨X7,Vt,H⟩:=Z9 H
  refine YE (EU (Γ:=Unit) (val:=fun g=>vi X7.1) (mem:=fun g=>[⟨some (b4,5),[vi X7.2.1]⟩,⟨some (b4,6),[vs X7.2.2.1]⟩,⟨some (b4,7),[vb X7.2.2.2]⟩]) (vs:=[ptr (some (b4,0)) 0]) (cap:=[]) (Qf:=[⟨some (b4,5),[vi 0]⟩,⟨some (b4,6),[vs ([]:Str)]⟩,⟨some (b4,7),[vb false]⟩]) (is:=[47,47,47]) rfl rfl call31 (pX YV YD Y8 Yq Xk W9 XW Xd XA Ws WJ Yd Xq WL V6 Vt :) rfl ⟨.o 6, .o 22, .o 44, .o 45, .o 46, .o 47, .o 48, .o 7, .o 8, .o 9, .o 10, .o 11, .o 12, .o 13, .o 14, .o 15, .o 16, .o 17, .o 18, .o 19, .o 20, .o 21, .r 0, .r 1, .r 2, .r 3, .r 4, .o 23, .o 24, .o 25, .o 26, .o 27, .o 28, .o 29, .o 30, .o 31, .o 32, .o 33, .o 34, .o 35, .o 36, .o 37, .o 38, .o 39, .o 40, .o 41, .o 42, .o 43, .r 5, .r 6, .r 7, .r 8, .r 9, .r 10, .r 11, .r 12, .r 13, .r 14,trivial⟩) (fun Pm=>?_)
  refine Y2 ?_
  refine Z6 (Z_ (YP ?_))
  refine ZV (ZT SN) ?_
  refine Z6 (UK H (fun hc H=>?_) (fun hc H=>?_))
  ·refine Z_ (YP ?_)
   refine ZV (Y9 (pv:=[(5,vi X7.1)]) (pl:=[(0,1),(1,1),(2,1),(3,1),(4,1),(5,1)]) rfl rfl underlying34 XE Mr LZ (cs:=flat [(1,[vi 0]),(1,[vi 0]),(1,[vs ([]:Str)]),(1,[vb false]),(1,[vb false]),(1,[vi X7.1])]) (by kernel_rfl)) ?_
   refine VM (VZ [3,3,3,3,3,3] rfl rfl XE) (fun _=>?_)
   refine Z6 (Wz [8] [0,0,0,0,0,0] rfl rfl ?_)
   refine Y7 (ZE (ZZ (ZZ (ZE (ZZ ?_)))))
   obtain rfl:=sj H
   exact SF (vs:=[_]) rfl ⟨(Wp [0,1,2,3,4,5] rfl rfl isAgg34 XE),trivial⟩
  refine ZN (ZW (Z7 (ZH (ZV (Zg rfl rfl (fun w=>C8 w (a:=1) (b:=1) (c:=2) (by decide))) ?_))))
  refine YP ?_
  refine ZK (Es (E9 (Wz [8,9,31,32,33] (rp 47 3++rp 6 0) rfl rfl ?_)))
  refine Z_ (ZV (ZT WV) ?_)
  refine Z6 (ZY (VI rfl ?_))
  refine ZN (Z7 (ZY (ZP (Z_ (ZV (RQ (i:=2) rfl rfl underlying77 uo rfl (fun _ h=>by cases h) (by decide) (by decide) (k:=2) (JZ _)) ?_)))))
  refine ZV (Z8 rfl (.o 52) rfl isAgg75) ?_
  refine Y2 ?_
  refine Z6 (Z_ (Zj 2 rfl ?_))
  have ⟨Xu,UH,H⟩:=Z9 H
  refine YE (EU (Γ:=Unit) (val:=fun g=>vi Xu.1) (mem:=fun g=>[⟨some (b4,8),[vb Xu.2]⟩]) (vs:=[ptr (some (b4,0)) 0]) (cap:=[]) (Qf:=[⟨some (b4,8),[vb false]⟩]) (is:=[50]) rfl rfl call32 (qC YV YD Y8 Yq Xk W9 XW Xd XA Ws WJ Yd Xq WL V6 UH :) rfl ⟨.o 6, .o 22, .o 44, .o 45, .o 46, .o 47, .o 48, .o 49, .o 50, .o 7, .o 8, .o 9, .o 10, .o 11, .o 12, .o 13, .o 14, .o 15, .o 16, .o 17, .o 18, .o 19, .o 20, .o 21, .r 0, .r 1, .r 2, .r 3, .r 4, .o 23, .o 24, .o 25, .o 26, .o 27, .o 28, .o 29, .o 30, .o 31, .o 32, .o 33, .o 34, .o 35, .o 36, .o 37, .o 38, .o 39, .o 40, .o 41, .o 42, .o 43, .r 5, .r 6, .r 7, .r 8, .r 9, .r 10, .r 11, .r 12, .r 13, .r 14, .r 15,trivial⟩) (fun JV=>?_)
  refine Y2 ?_
  refine Z6 (Z_ (YP ?_))
  refine ZV (ZT SN) ?_
  refine Z6 (UK H (fun hc H=>?_) (fun hc H=>?_))
  ·refine Z_ (YP ?_)
   refine ZV (Y9 (pv:=[(5,vi Xu.1)]) (pl:=[(0,1),(1,1),(2,1),(3,1),(4,1),(5,1)]) rfl rfl underlying34 XE Mr LZ (cs:=flat [(1,[vi 0]),(1,[vi 0]),(1,[vs ([]:Str)]),(1,[vb false]),(1,[vb false]),(1,[vi Xu.1])]) (by kernel_rfl)) ?_
   refine VM (VZ [1,1,1,1,1,1] rfl rfl XE) (fun _=>?_)
   refine Z6 (Wz [8] [0,0,0,0,0,0] rfl rfl ?_)
   refine Y7 (ZE (ZZ (ZZ (ZE (ZZ ?_)))))
   obtain rfl:=sj H
   exact SF (vs:=[_]) rfl ⟨(Wp [0,1,2,3,4,5] rfl rfl isAgg34 XE),trivial⟩
  refine ZN (ZW (Z7 (ZH (ZV (Zg rfl rfl (fun w=>C8 w (a:=2) (b:=1) (c:=3) (by decide))) ?_))))
  refine YP ?_
  refine ZK (Es (E9 (Wz [8,9,31,32,33] (rp 50 1++0 :: 0 :: 0 :: []) rfl rfl ?_)))
  refine Z_ (ZV (ZT WV) ?_)
  refine Z6 (ZY (KJ rfl ?_))
  refine YW (Z0 (Z0 (ZL (Z7 (Z_ (Zj 2 rfl ?_))))))
  refine ZV (ZQ 4 underlying74 XE) ?_
  refine ZV (ZQ 5 underlying34 YM) ?_
  refine VM (YR (j:=51) rfl rfl YM rfl rfl rfl (Nat.lt_succ_self 0) (cs':=[vi (-1)]) rfl) (fun _=>?_)
  refine Z6 (Z_ (Zj 2 rfl ?_))
  refine ZV (ZQ 4 underlying74 XE) ?_
  refine ZV (VY [46,47,48,49,50,51] rfl rfl isAgg34 XE) ?_
  refine VM (VZ [0,0,0,0,0,0] rfl rfl XE) (fun _=>?_)
  refine Z6 (Wz [8] [0,0,0,0,0,0] rfl rfl ?_)
  refine Y7 ?_
  obtain rfl:=sj H
  exact SF (vs:=[_]) rfl ⟨(Wp [0,1,2,3,4,5] rfl rfl isAgg34 XE),trivial⟩
 intro hJ
 replace H:=Hj
 refine Mg (d:=16) H (fun hc H=>?_) (fun hc H=>?_)
 ·refine Zj 9 rfl ?_
  refine ZK ?_
  obtain rfl:=sj H
  exact WW (rp 42 0) (hJ ())
 refine Zc (ZQ 0 underlying26 MS) ?_
 refine Zc (Z8 rfl (.o 0) rfl isAgg4) ?_
 refine Zc (UF T_) ?_
 refine Zj 2 rfl ?_
 refine Mg (d:=21) H (fun hc H=>?_) (fun hc H=>?_)
 ·refine Zj 4 rfl ?_
  refine ZK ?_
  obtain rfl:=sj H
  exact WW (rp 42 0) (hJ ())
 refine Zc (ZQ 0 underlying30 YM) ?_
 refine Zc (Z8 rfl (.o 15) rfl isAgg3) ?_
 refine Zc (ZT SN) ?_
 refine FE ?_
 refine ZK ?_
 obtain rfl:=sj H
 exact WW (rp 42 0) (hJ ())
end Go.Proofs
end

/-
  Part 26 of the proof of what several laws share.
-/
import Derived.Test.YtkgeoekcnlgfnaaGreatDoorKh25
set_option maxHeartbeats 4000000
set_option maxRecDepth 20000
set_option linter.unusedVariables false
set_option linter.unusedSimpArgs false
section
namespace Go.Proofs
open Go Go.Kx
open TryzI Tryz
def XF (s_:List (Str × Str × Int × Int × Int × Int)) (Tc:Bool) (UY UZ:List (Int)) (TW:List (Str)) (UJ:Str) (TY:List (Str)) (QE:Str) (TT:Int) (Qz:Str) (Rb:List (Str × Str × Int × Int × Int × Int)) (Qx:Str) (RV O4:Int) (RZ QB:Int):Option (Bool) :=
 (Y3 s_ Tc UY UZ TW UJ TY QE TT Qz Rb Qx RV O4 RZ QB).bind fun Zu=>(X5 (decide (0≤Zu)) fun x1=>(some x1))
theorem Gs {As_:Y6} {cs_:Nat} {bfc0:Nat} {obfc0:Nat} {bfc02:Nat} {obfc02:Nat} {Afc0_Suites:Y6} {cfc0_Suites:Nat} {Afc0_Groups:Y6} {cfc0_Groups:Nat} {Afc0_Chain:Y6} {cfc0_Chain:Nat} {Afc0_Roots:Y6} {cfc0_Roots:Nat} {Afc0_Psk:Y6} {cfc0_Psk:Nat} {s_:List (Str × Str × Int × Int × Int × Int)} {Tc:Bool} {UY:List (Int)} {UZ:List (Int)} {TW:List (Str)} {UJ:Str} {TY:List (Str)} {QE:Str} {TT:Int} {Qz:Str} {Rb:List (Str × Str × Int × Int × Int × Int)} {Qx:Str} {RV:Int} {O4:Int} {RZ:Int} {QB:Int} (FN:(s_).length≤cs_) (Kl:(UY).length≤cfc0_Suites) (Km:(UZ).length≤cfc0_Groups) (Jb:(TW).length≤cfc0_Chain) (Jj:(TY).length≤cfc0_Roots) (Gp:(Rb).length≤cfc0_Psk) {r:Bool} (H:XF s_ Tc UY UZ TW UJ TY QE TT Qz Rb Qx RV O4 RZ QB=some r) :
  Does Tryz.prog 74 [sl As_ ((s_).length) cs_,Value.func (.func 75) #[] #[ptr (some (bfc0,obfc0)) 0]] [] [⟨As_,eF (fun p:Str × Str × Int × Int × Int × Int=>[vs p.1,vs p.2.1,vi p.2.2.1,vi p.2.2.2.1,vi p.2.2.2.2.1,vi p.2.2.2.2.2]) s_⟩,⟨some (bfc0,obfc0),[ptr (some (bfc02,obfc02)) 0]⟩,⟨some (bfc02,obfc02),[vb Tc]⟩,⟨some (bfc02,obfc02+1),[sl Afc0_Suites ((UY).length) cfc0_Suites]⟩,⟨some (bfc02,obfc02+2),[sl Afc0_Groups ((UZ).length) cfc0_Groups]⟩,⟨some (bfc02,obfc02+3),[sl Afc0_Chain ((TW).length) cfc0_Chain]⟩,⟨some (bfc02,obfc02+4),[vs UJ]⟩,⟨some (bfc02,obfc02+5),[sl Afc0_Roots ((TY).length) cfc0_Roots]⟩,⟨some (bfc02,obfc02+6),[vs QE]⟩,⟨some (bfc02,obfc02+7),[vi TT]⟩,⟨some (bfc02,obfc02+8),[vs Qz]⟩,⟨some (bfc02,obfc02+9),[sl Afc0_Psk ((Rb).length) cfc0_Psk]⟩,⟨some (bfc02,obfc02+10),[vs Qx]⟩,⟨some (bfc02,obfc02+11),[vi RV]⟩,⟨some (bfc02,obfc02+12),[vi O4]⟩,⟨some (bfc02,obfc02+13),[vi RZ]⟩,⟨some (bfc02,obfc02+14),[vi QB]⟩,⟨Afc0_Suites,eI UY⟩,⟨Afc0_Groups,eI UZ⟩,⟨Afc0_Chain,eS TW⟩,⟨Afc0_Roots,eS TY⟩,⟨Afc0_Psk,eF (fun p:Str × Str × Int × Int × Int × Int=>[vs p.1,vs p.2.1,vi p.2.2.1,vi p.2.2.2.1,vi p.2.2.2.2.1,vi p.2.2.2.2.2]) Rb⟩] (Γ:=Unit) (fun g=>vb r) (fun g=>[]):=by
 intro w hmem hro hd
 refine Zn func74 rfl ntmps74 rfl hmem hro hd ?_
 unfold XF at H
 refine Z_ (Y2 ?_)
 refine Z6 (Z_ (Zj 2 rfl ?_))
 have ⟨Zu,Yk,H⟩:=Z9 H
 refine YE (Y4 (FP FN Kl Km Jb Jj Gp Yk :) call92 ⟨.r 0, .r 1, .r 2, .r 3, .r 4, .r 5, .r 6, .r 7, .r 8, .r 9, .r 10, .r 11, .r 12, .r 13, .r 14, .r 15, .r 16, .r 17, .r 18, .r 19, .r 20, .r 21,trivial⟩) (fun Re=>?_)
 refine ZV (ZT LD) ?_
 refine Y2 ?_
 have ⟨x1,TK,H⟩:=ZX H
 refine WN 4 (congrArg vb TK) ?_
 refine Zq ?_
 obtain rfl:=sj H
 exact Wj
def Oh (Zm:Bool) (ZI ZR:List (Int)) (Zx:List (Str)) (Yp:Str) (Zr:List (Str)) (Zb:Str) (ZC:Int) (Y5:Str) (ZB:List (Str × Str × Int × Int × Int × Int)) (YN:Str) (Zk Ye:Int) (Zd YO:Int):Option (Bool) :=
 (if ((Zx).length:Int) ≠ 0 then (some true) else (if Yp ≠ ([]:Str) then (some true) else (if Y5 ≠ ([]:Str) then (some true) else (if ZC ≠ 0 then (some true) else (some (decide (1<((ZB).length:Int)))))))).bind fun j1=>(if j1=true then (some false) else ((Oz Zr 0).bind fun Zu=>(if Zu=true then (if ((Zb).length:Int)≤64 then ((XF ZB Zm ZI ZR Zx Yp Zr Zb ZC Y5 ZB YN Zk Ye Zd YO).bind fun YJ=>(some (!YJ))) else (some false)) else (some false))))
theorem pU {bc:Nat} {obc:Nat} {YZ:Y6} {Y0:Nat} {Y1:Y6} {YY:Nat} {YC:Y6} {YH:Nat} {YG:Y6} {YF:Nat} {XR:Y6} {XP:Nat} {Zm:Bool} {ZI:List (Int)} {ZR:List (Int)} {Zx:List (Str)} {Yp:Str} {Zr:List (Str)} {Zb:Str} {ZC:Int} {Y5:Str} {ZB:List (Str × Str × Int × Int × Int × Int)} {YN:Str} {Zk:Int} {Ye:Int} {Zd:Int} {YO:Int} (YV:(ZI).length≤Y0) (YD:(ZR).length≤YY) (Y8:(Zx).length≤YH) (Yq:(Zr).length≤YF) (Xk:(ZB).length≤XP) {r:Bool} (H:Oh Zm ZI ZR Zx Yp Zr Zb ZC Y5 ZB YN Zk Ye Zd YO=some r) :
  Does Tryz.prog 48 [ptr (some (bc,obc)) 0] [] [⟨some (bc,obc),[vb Zm]⟩,⟨some (bc,obc+1),[sl YZ ((ZI).length) Y0]⟩,⟨some (bc,obc+2),[sl Y1 ((ZR).length) YY]⟩,⟨some (bc,obc+3),[sl YC ((Zx).length) YH]⟩,⟨some (bc,obc+4),[vs Yp]⟩,⟨some (bc,obc+5),[sl YG ((Zr).length) YF]⟩,⟨some (bc,obc+6),[vs Zb]⟩,⟨some (bc,obc+7),[vi ZC]⟩,⟨some (bc,obc+8),[vs Y5]⟩,⟨some (bc,obc+9),[sl XR ((ZB).length) XP]⟩,⟨some (bc,obc+10),[vs YN]⟩,⟨some (bc,obc+11),[vi Zk]⟩,⟨some (bc,obc+12),[vi Ye]⟩,⟨some (bc,obc+13),[vi Zd]⟩,⟨some (bc,obc+14),[vi YO]⟩,⟨YZ,eI ZI⟩,⟨Y1,eI ZR⟩,⟨YC,eS Zx⟩,⟨YG,eS Zr⟩,⟨XR,eF (fun p:Str × Str × Int × Int × Int × Int=>[vs p.1,vs p.2.1,vi p.2.2.1,vi p.2.2.2.1,vi p.2.2.2.2.1,vi p.2.2.2.2.2]) ZB⟩] (Γ:=Unit) (fun g=>vb r) (fun g=>[]):=by
 intro w hmem hro hd
 refine Zn func48 rfl ntmps48 rfl hmem hro hd ?_
 unfold Oh at H
 refine Z_ (YE (UN [(1,[ptr (some (bc,obc)) 0])] rfl rfl ⟨rfl,trivial⟩) (fun b1=>?_))
 refine Y2 ?_
 refine Z6 (ZY (Z_ (ZV (Z8 rfl (.o 0) rfl isAgg71) ?_)))
 refine ZV (Zh rfl) ?_
 refine ZV (ZQ 3 underlying26 Xn) ?_
 refine ZV (Z8 rfl (.r 3) rfl isAgg23) ?_
 refine ZV (ZG rfl underlying23) ?_
 refine ZV (ZT SN) ?_
 refine YP ?_
 have ⟨j1,Hj,H⟩:=Z9 H
 refine VH (Γ:=Unit) (fun Sc=>[(1,ptr (some (b1,0)) 0),(37,vb j1)]) (fun Sc=>[⟨some (b1,0),[ptr (some (bc,obc)) 0]⟩]) ?_ ?_
 ·intro Sc
  refine Z7 (Sn H (fun hc H=>?_) (fun hc H=>?_))
  ·refine Z_ (Y2 ?_)
   refine Zq (ZZ ?_)
   obtain rfl:=sj H
   exact Wj
  refine ZN (Z7 (Z_ (ZV (Z8 rfl (.o 0) rfl isAgg71) ?_)))
  refine ZV (Zh rfl) ?_
  refine ZV (ZQ 5 underlying26 Xn) ?_
  refine ZV (Z8 rfl (.r 5) rfl isAgg23) ?_
  have ⟨Zu,Yk,H⟩:=Z9 H
  refine YE (Y4 (Ny Yq Yk :) call72 ⟨.r 18,trivial⟩) (fun Re=>?_)
  refine YP ?_
  refine Mg (d:=43) H (fun hc H=>?_) (fun hc H=>?_)
  ·refine Zc (Z8 rfl (.o 0) rfl isAgg71) ?_
   refine Zc (Zh rfl) ?_
   refine Zc (ZQ 6 underlying26 Xe) ?_
   refine Zc (Z8 rfl (.r 6) rfl isAgg9) ?_
   refine Zc (Zf rfl underlying9) ?_
   refine Zc (ZT RH) ?_
   refine Zj 2 rfl ?_
   refine Td (d:=51) H (fun hc H=>?_) (fun hc H=>?_)
   ·refine Zc (Z8 rfl (.o 0) rfl isAgg71) ?_
    refine Zc (Zh rfl) ?_
    refine Zc (ZQ 9 underlying26 R6) ?_
    refine Zc (Z8 rfl (.r 9) rfl isAgg24) ?_
    refine Zc (Kk rfl) ?_
    have ⟨YJ,X6,H⟩:=Z9 H
    refine JQ (Y4 (Gs Xk YV YD Y8 Yq Xk X6 :) call74 ⟨.r 19, .o 0, .r 0, .r 1, .r 2, .r 3, .r 4, .r 5, .r 6, .r 7, .r 8, .r 9, .r 10, .r 11, .r 12, .r 13, .r 14, .r 15, .r 16, .r 17, .r 18, .r 19,trivial⟩) (fun UD=>?_)
    refine Zc (UF T_) ?_
    refine Zj 2 rfl ?_
    refine Zq ?_
    obtain rfl:=sj H
    exact Wj
   refine Zj 9 rfl ?_
   refine Zq ?_
   obtain rfl:=sj H
   exact Wj
  refine Zj 17 rfl ?_
  refine Zq ?_
  obtain rfl:=sj H
  exact Wj
 intro hJ
 replace H:=Hj
 refine Td (d:=9) H (fun hc H=>?_) (fun hc H=>?_)
 ·refine Zj 28 rfl ?_
  refine ZK ?_
  obtain rfl:=sj H
  exact WW [0] (hJ ())
 refine Zc (Z8 rfl (.o 0) rfl isAgg71) ?_
 refine Zc (Zh rfl) ?_
 refine Zc (ZQ 4 underlying26 Xe) ?_
 refine Zc (Z8 rfl (.r 4) rfl isAgg9) ?_
 refine Zc (Zg rfl rfl (fun w=>KX w Yp ([]:Str))) ?_
 refine Zj 2 rfl ?_
 refine Td (d:=16) H (fun hc H=>?_) (fun hc H=>?_)
 ·refine Zj 21 rfl ?_
  refine ZK ?_
  obtain rfl:=sj H
  exact WW [0] (hJ ())
 refine Zc (Z8 rfl (.o 0) rfl isAgg71) ?_
 refine Zc (Zh rfl) ?_
 refine Zc (ZQ 8 underlying26 Xe) ?_
 refine Zc (Z8 rfl (.r 8) rfl isAgg9) ?_
 refine Zc (Zg rfl rfl (fun w=>KX w Y5 ([]:Str))) ?_
 refine Zj 2 rfl ?_
 refine Td (d:=23) H (fun hc H=>?_) (fun hc H=>?_)
 ·refine Zj 14 rfl ?_
  refine ZK ?_
  obtain rfl:=sj H
  exact WW [0] (hJ ())
 refine Zc (Z8 rfl (.o 0) rfl isAgg71) ?_
 refine Zc (Zh rfl) ?_
 refine Zc (ZQ 7 underlying26 YM) ?_
 refine Zc (Z8 rfl (.r 7) rfl isAgg3) ?_
 refine Zc (ZT SN) ?_
 refine Zj 2 rfl ?_
 refine Td (d:=30) H (fun hc H=>?_) (fun hc H=>?_)
 ·refine Zj 7 rfl ?_
  refine ZK ?_
  obtain rfl:=sj H
  exact WW [0] (hJ ())
 refine Zc (Z8 rfl (.o 0) rfl isAgg71) ?_
 refine Zc (Zh rfl) ?_
 refine Zc (ZQ 9 underlying26 R6) ?_
 refine Zc (Z8 rfl (.r 9) rfl isAgg24) ?_
 refine Zc (ZG rfl underlying24) ?_
 refine Zc (ZT Sv) ?_
 refine FE ?_
 refine ZK ?_
 obtain rfl:=sj H
 exact WW [0] (hJ ())
def PQ (Zm:Bool) (ZI ZR:List (Int)) (Zx:List (Str)) (Yp:Str) (Zr:List (Str)) (Zb:Str) (ZC:Int) (Y5:Str) (ZB:List (Str × Str × Int × Int × Int × Int)) (YN:Str) (Zk Ye:Int) (Zd YO:Int):Option (Bool) :=
 (V_ ZI 3).bind fun Zu=>((if (!Zu)=true then (some true) else ((Wd ZR 2).bind fun Xu=>(if (!Xu)=true then (some true) else ((Uy Zk 0 4294967295).bind fun UC=>(if (!UC)=true then (some true) else ((Uy Ye 0 16384).bind fun MV=>(if (!MV)=true then (some true) else ((Uy Zd 4 16777216).bind fun JM=>(if (!JM)=true then (some true) else ((Uy YO 33290 262144).bind fun JY=>(if (!JY)=true then (some true) else (some (decide (65536<((YN).length:Int))))))))))))))).bind fun j1=>(if j1=true then (some false) else (if Zm=true then ((N_ Zm ZI ZR Zx Yp Zr Zb ZC Y5 ZB YN Zk Ye Zd YO).bind fun YJ=>(some YJ)) else ((Oh Zm ZI ZR Zx Yp Zr Zb ZC Y5 ZB YN Zk Ye Zd YO).bind fun X7=>(some X7)))))
theorem Qv {YZ:Y6} {Y0:Nat} {Y1:Y6} {YY:Nat} {YC:Y6} {YH:Nat} {YG:Y6} {YF:Nat} {XR:Y6} {XP:Nat} {Zm:Bool} {ZI:List (Int)} {ZR:List (Int)} {Zx:List (Str)} {Yp:Str} {Zr:List (Str)} {Zb:Str} {ZC:Int} {Y5:Str} {ZB:List (Str × Str × Int × Int × Int × Int)} {YN:Str} {Zk:Int} {Ye:Int} {Zd:Int} {YO:Int} (YV:(ZI).length≤Y0) (YD:(ZR).length≤YY) (Y8:(Zx).length≤YH) (Yq:(Zr).length≤YF) (Xk:(ZB).length≤XP) {r:Bool} (H:PQ Zm ZI ZR Zx Yp Zr Zb ZC Y5 ZB YN Zk Ye Zd YO=some r) :
  Does Tryz.prog 16 [aG [(1,[vb Zm]),(1,[sl YZ ((ZI).length) Y0]),(1,[sl Y1 ((ZR).length) YY]),(1,[sl YC ((Zx).length) YH]),(1,[vs Yp]),(1,[sl YG ((Zr).length) YF]),(1,[vs Zb]),(1,[vi ZC]),(1,[vs Y5]),(1,[sl XR ((ZB).length) XP]),(1,[vs YN]),(1,[vi Zk]),(1,[vi Ye]),(1,[vi Zd]),(1,[vi YO])]] [] [⟨YZ,eI ZI⟩,⟨Y1,eI ZR⟩,⟨YC,eS Zx⟩,⟨YG,eS Zr⟩,⟨XR,eF (fun p:Str × Str × Int × Int × Int × Int=>[vs p.1,vs p.2.1,vi p.2.2.1,vi p.2.2.2.1,vi p.2.2.2.2.1,vi p.2.2.2.2.2]) ZB⟩] (Γ:=Unit) (fun g=>vb r) (fun g=>[]):=by
 intro w hmem hro hd
 refine Zn func16 rfl ntmps16 rfl hmem hro hd ?_
 unfold PQ at H
 refine Z_ (YE PT (fun b1=>?_))
 refine Y2 ?_
 refine Z6 (ZY (Z_ (ZV (ZQ 1 underlying26 XO) ?_)))
 refine ZV (Z8 rfl (.o 1) rfl isAgg22) ?_
 have ⟨Zu,Yk,H⟩:=Z9 H
 refine YE (Y4 (FV YV Yk :) call43 ⟨.r 0,trivial⟩) (fun Re=>?_)
 refine ZV (UF T_) ?_
 refine YP ?_
 have ⟨j1,Hj,H⟩:=Z9 H
 refine VH (Γ:=Unit) (fun Sc=>[(1,ptr (some (b1,0)) 0),(42,vb j1)]) (fun Sc=>[⟨some (b1,0),[vb Zm]⟩,⟨some (b1,1),[sl YZ ((ZI).length) Y0]⟩,⟨some (b1,2),[sl Y1 ((ZR).length) YY]⟩,⟨some (b1,3),[sl YC ((Zx).length) YH]⟩,⟨some (b1,4),[vs Yp]⟩,⟨some (b1,5),[sl YG ((Zr).length) YF]⟩,⟨some (b1,6),[vs Zb]⟩,⟨some (b1,7),[vi ZC]⟩,⟨some (b1,8),[vs Y5]⟩,⟨some (b1,9),[sl XR ((ZB).length) XP]⟩,⟨some (b1,10),[vs YN]⟩,⟨some (b1,11),[vi Zk]⟩,⟨some (b1,12),[vi Ye]⟩,⟨some (b1,13),[vi Zd]⟩,⟨some (b1,14),[vi YO]⟩]) ?_ ?_
 ·intro Sc
  refine Z7 (Sn H (fun hc H=>?_) (fun hc H=>?_))
  ·refine Z_ (Y2 ?_)
   refine Zq (ZZ ?_)
   obtain rfl:=sj H
   exact Wj
  refine ZN (Z7 (ZY (Z_ (ZV (ZQ 0 underlying26 MS) ?_))))
  refine ZV (Z8 rfl (.o 0) rfl isAgg4) ?_
  refine Z6 (Sn H (fun hc H=>?_) (fun hc H=>?_))
  ·refine Z_ ?_
   have ⟨YJ,X6,H⟩:=Z9 H
   refine YE (Y4 (pM YV YD Y8 Yq Xk X6 :) call47 ⟨.o 0, .o 1, .o 2, .o 3, .o 4, .o 5, .o 6, .o 7, .o 8, .o 9, .o 10, .o 11, .o 12, .o 13, .o 14, .r 0, .r 1, .r 2, .r 3, .r 4,trivial⟩) (fun UD=>?_)
   refine Y2 ?_
   refine Zq (ZZ ?_)
   obtain rfl:=sj H
   exact Wj
  refine ZN (Z7 (Z_ ?_))
  have ⟨X7,Vt,H⟩:=Z9 H
  refine YE (Y4 (pU YV YD Y8 Yq Xk Vt :) call48 ⟨.o 0, .o 1, .o 2, .o 3, .o 4, .o 5, .o 6, .o 7, .o 8, .o 9, .o 10, .o 11, .o 12, .o 13, .o 14, .r 0, .r 1, .r 2, .r 3, .r 4,trivial⟩) (fun Pm=>?_)
  refine Y2 ?_
  refine Zq ?_
  obtain rfl:=sj H
  exact Wj
 intro hJ
 replace H:=Hj
 refine Mg (d:=7) H (fun hc H=>?_) (fun hc H=>?_)
 ·refine Zj 35 rfl ?_
  refine ZK ?_
  obtain rfl:=sj H
  exact WW (rp 15 0) (hJ ())
 refine Zc (ZQ 2 underlying26 XO) ?_
 refine Zc (Z8 rfl (.o 2) rfl isAgg22) ?_
 have ⟨Xu,UH,H⟩:=Z9 H
 refine JQ (Y4 (Gj YD UH :) call43 ⟨.r 1,trivial⟩) (fun JV=>?_)
 refine Zc (UF T_) ?_
 refine Zj 2 rfl ?_
 refine Mg (d:=13) H (fun hc H=>?_) (fun hc H=>?_)
 ·refine Zj 29 rfl ?_
  refine ZK ?_
  obtain rfl:=sj H
  exact WW (rp 15 0) (hJ ())
 refine Zc (ZQ 11 underlying26 YM) ?_
 refine Zc (Z8 rfl (.o 11) rfl isAgg3) ?_
 have ⟨UC,Qi,H⟩:=Z9 H
 refine JQ (Y4 (Vn Qi :) call46 .z) (fun zM=>?_)
 refine Zc (UF T_) ?_
 refine Zj 2 rfl ?_
 refine Mg (d:=19) H (fun hc H=>?_) (fun hc H=>?_)
 ·refine Zj 23 rfl ?_
  refine ZK ?_
  obtain rfl:=sj H
  exact WW (rp 15 0) (hJ ())
 refine Zc (ZQ 12 underlying26 YM) ?_
 refine Zc (Z8 rfl (.o 12) rfl isAgg3) ?_
 have ⟨MV,KG,H⟩:=Z9 H
 refine JQ (Y4 (Vn KG :) call46 .z) (fun jV=>?_)
 refine Zc (UF T_) ?_
 refine Zj 2 rfl ?_
 refine Mg (d:=25) H (fun hc H=>?_) (fun hc H=>?_)
 ·refine Zj 17 rfl ?_
  refine ZK ?_
  obtain rfl:=sj H
  exact WW (rp 15 0) (hJ ())
 refine Zc (ZQ 13 underlying26 YM) ?_
 refine Zc (Z8 rfl (.o 13) rfl isAgg3) ?_
 have ⟨JM,L_,H⟩:=Z9 H
 refine JQ (Y4 (Vn L_ :) call46 .z) (fun rE=>?_)
 refine Zc (UF T_) ?_
 refine Zj 2 rfl ?_
 refine Mg (d:=31) H (fun hc H=>?_) (fun hc H=>?_)
 ·refine Zj 11 rfl ?_
  refine ZK ?_
  obtain rfl:=sj H
  exact WW (rp 15 0) (hJ ())
 refine Zc (ZQ 14 underlying26 YM) ?_
 refine Zc (Z8 rfl (.o 14) rfl isAgg3) ?_
 have ⟨JY,JL,H⟩:=Z9 H
 refine JQ (Y4 (Vn JL :) call46 .z) (fun jY=>?_)
 refine Zc (UF T_) ?_
 refine Zj 2 rfl ?_
 refine Mg (d:=37) H (fun hc H=>?_) (fun hc H=>?_)
 ·refine Zj 5 rfl ?_
  refine ZK ?_
  obtain rfl:=sj H
  exact WW (rp 15 0) (hJ ())
 refine Zc (ZQ 10 underlying26 Xe) ?_
 refine Zc (Z8 rfl (.o 10) rfl isAgg9) ?_
 refine Zc (Zf rfl underlying9) ?_
 refine Zc (ZT Sv) ?_
 refine FE ?_
 refine ZK ?_
 obtain rfl:=sj H
 exact WW (rp 15 0) (hJ ())
def Va.b0 (own offered:List (Int)) (s0:Int):Option ((Int) ⊕ ((Unit) ⊕ (Int × Bool))) :=
 if s0<((own).length:Int) then (if 0≤s0∧s0<((own).length:Int) then (X5 (lg own ((s0).toNat)) fun x1=>((Yi offered x1).bind fun Zu=>(if Zu=true then (some (.inr (.inr (x1,true)))) else (some (.inl (ZJ (s0+1))))))) else none) else (some (.inr (.inl ())))
def Va (own offered:List (Int)):Option (Int × Bool) :=
 (loop (Va.b0 own offered) BIG 0).bind fun Yw=>(match Yw with | .inl Yw=>(some (0,false)) | .inr rv=>some rv)
theorem Bt {Aown:Y6} {cown:Nat} {Aoffered:Y6} {coffered:Nat} {own:List (Int)} {offered:List (Int)} (aeb:(own).length≤cown) (rG:(offered).length≤coffered) {r:Int × Bool} (H:Va own offered=some r) :
  Does Tryz.prog 61 [sl Aown ((own).length) cown,sl Aoffered ((offered).length) coffered] [] [⟨Aown,eI own⟩,⟨Aoffered,eI offered⟩] (Γ:=Unit) (fun g=>Value.tuple [vi r.1,vb r.2].toArray) (fun g=>[]):=by
 intro w hmem hro hd
 refine Zn func61 rfl ntmps61 rfl hmem hro hd ?_
 unfold Va at H
 refine Z_ (Zj 2 rfl ?_)
 refine Z6 (ZY (Z_ (YP ?_)))
 refine ZV (ZG rfl underlying22) ?_
 refine YP ?_
 refine Z6 (ZP ?_)
 have ⟨Yw,Hl,H⟩:=Z9 H
 refine Wz [1,8,9,10] [] rfl rfl ?_
 refine U0 (id:=0) (body:=(Va.b0 own offered)) (σ:=Int) (Γ:=Unit) (Γx:=Unit) (fun s0 WG=>[(1,sl Aoffered ((offered).length) coffered),(8,sl Aown ((own).length) cown),(9,vi ((own).length:Int)),(10,vi s0)]) (fun s0 WG=>[]) (fun t g=>[]) (fun t g=>[]) r ?_ BIG 0 () Yw Hl ?_
 ·intro s0 WG r1 H K hK hE MK
  unfold Va.b0 at H
  refine Z_ (ZV (ZT WV) ?_)
  refine Z6 (ZY (UK H (fun hc H=>?_) (fun hc H=>?_)))
  ·refine ZN (Z7 (ZY (ZP (Z_ ?_))))
   have ⟨h1,H⟩:=Z4 H
   refine ZV (YK (i:=s0) rfl rfl underlying22 YM rfl (.r 0) (Uf (tl h1)) h1.1 h1.2 (k:=(s0).toNat) (JZ _)) ?_
   refine ZV (Z8 rfl (.r 0) (UL (f:=vi) (l:=own) (tl h1)) isAgg3) ?_
   refine Y2 ?_
   have ⟨x1,TK,H⟩:=ZX H
   refine WN 7 (congrArg vi TK) ?_
   refine Z6 (Z_ (Zj 2 rfl ?_))
   have ⟨Zu,Yk,H⟩:=Z9 H
   refine YE (Y4 (Sw rG Yk :) call62 ⟨.r 1,trivial⟩) (fun Re=>?_)
   refine Z6 (Sn H (fun hc H=>?_) (fun hc H=>?_))
   ·refine Z_ (Zj 3 rfl ?_)
    refine Zq (ZE (ZZ (ZZ (ZE (ZZ ?_)))))
    have M3:=(MK _ (Option.some.inj H).symm)
    subst M3
    exact IA
   refine ZN (ZW (Z7 (ZH (ZV (ZT XN) ?_))))
   refine YP ?_
   refine ZK ?_
   obtain rfl:=sj H
   exact Ri [] (hK (ZJ (s0+1)) rfl ())
  refine YW (Z0 (Z0 ?_))
  obtain rfl:=sj H
  exact WW [] (hE () rfl ())
 rcases Yw with Yw | rv
 ·intro Fe
  dsimp only at H
  refine ZL (Z7 (Z_ (Zj 2 rfl ?_)))
  refine Zq ?_
  obtain rfl:=sj H
  exact IA
 exact (Option.some.inj H)
def VF (Uo:Bool) (VK VN:List (Int)) (Ve:List (Str)) (Qo:Str) (Vf:List (Str)) (RP:Str) (UQ:Int) (RD:Str) (Tk:List (Str × Str × Int × Int × Int × Int)) (RO:Str) (Tf Qn:Int) (Tj RB RF:Int) (Ua UR:Str) (VL:List (Int)) (Ru:Str) (WX WI:List (Int)) (Wy Vo:List (Int)) (YU:List (Int × Str)) (XM:List (Str × Int)) (V5:List (Str)) (Qq:Int) (VA:List (Int)) (Vh:List (Str)) (Ub:Int) (Rz:Str) (RI Qk:Int) (Te:Str) (Ui:Int) (Qm:Bool) (R8 UT Tq:Int) (Xf:Str) (Xa TV:Bool) (UA:Int):Option (Int × Int) :=
 (Va VK VL).bind fun Zu=>((Yi WX 772).bind fun YJ=>(if (!YJ)=true then (some (70,Zu.1)) else (if (!Zu.2)=true then (some (40,Zu.1)) else ((if ((WI).length:Int)=0 then (some true) else (X5 (decide (((YU).length:Int)=0)) fun x1=>(some x1))).bind fun j1=>(if j1=true then (some (109,Zu.1)) else (some ((-1),Zu.1)))))))
theorem qj {ba:Nat} {oba:Nat} {ba_c:Nat} {oba_c:Nat} {Aa_c_Suites:Y6} {ca_c_Suites:Nat} {Aa_c_Groups:Y6} {ca_c_Groups:Nat} {Aa_c_Chain:Y6} {ca_c_Chain:Nat} {Aa_c_Roots:Y6} {ca_c_Roots:Nat} {Aa_c_Psk:Y6} {ca_c_Psk:Nat} {ba_m:Nat} {oba_m:Nat} {Aa_m_Suites:Y6} {ca_m_Suites:Nat} {Aa_m_Versions:Y6} {ca_m_Versions:Nat} {Aa_m_Groups:Y6} {ca_m_Groups:Nat} {Aa_m_Schemes:Y6} {ca_m_Schemes:Nat} {Aa_m_Modes:Y6} {ca_m_Modes:Nat} {Aa_m_Shares:Y6} {ca_m_Shares:Nat} {Aa_m_Identities:Y6} {ca_m_Identities:Nat} {Aa_m_Binders:Y6} {ca_m_Binders:Nat} {Aa_m_Others:Y6} {ca_m_Others:Nat} {Aa_m_Certs:Y6} {ca_m_Certs:Nat} {Uo:Bool} {VK:List (Int)} {VN:List (Int)} {Ve:List (Str)} {Qo:Str} {Vf:List (Str)} {RP:Str} {UQ:Int} {RD:Str} {Tk:List (Str × Str × Int × Int × Int × Int)} {RO:Str} {Tf:Int} {Qn:Int} {Tj:Int} {RB:Int} {RF:Int} {Ua:Str} {UR:Str} {VL:List (Int)} {Ru:Str} {WX:List (Int)} {WI:List (Int)} {Wy:List (Int)} {Vo:List (Int)} {YU:List (Int × Str)} {XM:List (Str × Int)} {V5:List (Str)} {Qq:Int} {VA:List (Int)} {Vh:List (Str)} {Ub:Int} {Rz:Str} {RI:Int} {Qk:Int} {Te:Str} {Ui:Int} {Qm:Bool} {R8:Int} {UT:Int} {Tq:Int} {Xf:Str} {Xa:Bool} {TV:Bool} {UA:Int} (PN:(VK).length≤ca_c_Suites) (PM:(VN).length≤ca_c_Groups) (Nn:(Ve).length≤ca_c_Chain) (Na:(Vf).length≤ca_c_Roots) (KY:(Tk).length≤ca_c_Psk) (PE:(VL).length≤ca_m_Suites) (Q3:(WX).length≤ca_m_Versions) (QF:(WI).length≤ca_m_Groups) (Qu:(Wy).length≤ca_m_Schemes) (Np:(Vo).length≤ca_m_Modes) (Tx:(YU).length≤ca_m_Shares) (Q4:(XM).length≤ca_m_Identities) (Pf:(V5).length≤ca_m_Binders) (Ol:(VA).length≤ca_m_Others) (Ng:(Vh).length≤ca_m_Certs) {r:Int × Int} (H:VF Uo VK VN Ve Qo Vf RP UQ RD Tk RO Tf Qn Tj RB RF Ua UR VL Ru WX WI Wy Vo YU XM V5 Qq VA Vh Ub Rz RI Qk Te Ui Qm R8 UT Tq Xf Xa TV UA=some r) :
  Does Tryz.prog 30 [ptr (some (ba,oba)) 0] [⟨some (ba,oba+4),[vi UT]⟩] [⟨some (ba,oba),[ptr (some (ba_c,oba_c)) 0]⟩,⟨some (ba,oba+1),[ptr (some (ba_m,oba_m)) 0]⟩,⟨some (ba,oba+2),[vb Qm]⟩,⟨some (ba,oba+3),[vi R8]⟩,⟨some (ba,oba+5),[vi Tq]⟩,⟨some (ba,oba+6),[vs Xf]⟩,⟨some (ba,oba+7),[vb Xa]⟩,⟨some (ba,oba+8),[vb TV]⟩,⟨some (ba,oba+9),[vi UA]⟩,⟨some (ba_c,oba_c),[vb Uo]⟩,⟨some (ba_c,oba_c+1),[sl Aa_c_Suites ((VK).length) ca_c_Suites]⟩,⟨some (ba_c,oba_c+2),[sl Aa_c_Groups ((VN).length) ca_c_Groups]⟩,⟨some (ba_c,oba_c+3),[sl Aa_c_Chain ((Ve).length) ca_c_Chain]⟩,⟨some (ba_c,oba_c+4),[vs Qo]⟩,⟨some (ba_c,oba_c+5),[sl Aa_c_Roots ((Vf).length) ca_c_Roots]⟩,⟨some (ba_c,oba_c+6),[vs RP]⟩,⟨some (ba_c,oba_c+7),[vi UQ]⟩,⟨some (ba_c,oba_c+8),[vs RD]⟩,⟨some (ba_c,oba_c+9),[sl Aa_c_Psk ((Tk).length) ca_c_Psk]⟩,⟨some (ba_c,oba_c+10),[vs RO]⟩,⟨some (ba_c,oba_c+11),[vi Tf]⟩,⟨some (ba_c,oba_c+12),[vi Qn]⟩,⟨some (ba_c,oba_c+13),[vi Tj]⟩,⟨some (ba_c,oba_c+14),[vi RB]⟩,⟨Aa_c_Suites,eI VK⟩,⟨Aa_c_Groups,eI VN⟩,⟨Aa_c_Chain,eS Ve⟩,⟨Aa_c_Roots,eS Vf⟩,⟨Aa_c_Psk,eF (fun p:Str × Str × Int × Int × Int × Int=>[vs p.1,vs p.2.1,vi p.2.2.1,vi p.2.2.2.1,vi p.2.2.2.2.1,vi p.2.2.2.2.2]) Tk⟩,⟨some (ba_m,oba_m),[vi RF]⟩,⟨some (ba_m,oba_m+1),[vs Ua]⟩,⟨some (ba_m,oba_m+2),[vs UR]⟩,⟨some (ba_m,oba_m+3),[sl Aa_m_Suites ((VL).length) ca_m_Suites]⟩,⟨some (ba_m,oba_m+4),[vs Ru]⟩,⟨some (ba_m,oba_m+5),[sl Aa_m_Versions ((WX).length) ca_m_Versions]⟩,⟨some (ba_m,oba_m+6),[sl Aa_m_Groups ((WI).length) ca_m_Groups]⟩,⟨some (ba_m,oba_m+7),[sl Aa_m_Schemes ((Wy).length) ca_m_Schemes]⟩,⟨some (ba_m,oba_m+8),[sl Aa_m_Modes ((Vo).length) ca_m_Modes]⟩,⟨some (ba_m,oba_m+9),[sl Aa_m_Shares ((YU).length) ca_m_Shares]⟩,⟨some (ba_m,oba_m+10),[sl Aa_m_Identities ((XM).length) ca_m_Identities]⟩,⟨some (ba_m,oba_m+11),[sl Aa_m_Binders ((V5).length) ca_m_Binders]⟩,⟨some (ba_m,oba_m+12),[vi Qq]⟩,⟨some (ba_m,oba_m+13),[sl Aa_m_Others ((VA).length) ca_m_Others]⟩,⟨some (ba_m,oba_m+14),[sl Aa_m_Certs ((Vh).length) ca_m_Certs]⟩,⟨some (ba_m,oba_m+15),[vi Ub]⟩,⟨some (ba_m,oba_m+16),[vs Rz]⟩,⟨some (ba_m,oba_m+17),[vi RI]⟩,⟨some (ba_m,oba_m+18),[vi Qk]⟩,⟨some (ba_m,oba_m+19),[vs Te]⟩,⟨some (ba_m,oba_m+20),[vi Ui]⟩,⟨Aa_m_Suites,eI VL⟩,⟨Aa_m_Versions,eI WX⟩,⟨Aa_m_Groups,eI WI⟩,⟨Aa_m_Schemes,eI Wy⟩,⟨Aa_m_Modes,eI Vo⟩,⟨Aa_m_Shares,eF (fun p:Int × Str=>[vi p.1,vs p.2]) YU⟩,⟨Aa_m_Identities,eF (fun p:Str × Int=>[vs p.1,vi p.2]) XM⟩,⟨Aa_m_Binders,eS V5⟩,⟨Aa_m_Others,eI VA⟩,⟨Aa_m_Certs,eS Vh⟩] (Γ:=Unit) (fun g=>vi r.1) (fun g=>[⟨some (ba,oba+4),[vi r.2]⟩]):=by
 intro w hmem hro hd
 refine Zn func30 rfl ntmps30 rfl hmem hro hd ?_
 unfold VF at H
 refine Z_ (Y2 ?_)
 refine Z6 (Z_ (Y2 ?_))
 refine Z6 (ZY ?_)
 have ⟨Zu,Yk,H⟩:=Z9 H
 refine U3 [] 23 rfl ?_
 refine YA 2 0 rfl ?_
 refine Zz 3 rfl (ZQ 0 underlying74 lY) ?_
 refine Zz 4 rfl (Z8 rfl (.r 0) rfl isAgg71) ?_
 refine YA 0 5 rfl ?_
 refine Zz 6 rfl (ZQ 1 underlying26 XO) ?_
 refine Zz 7 rfl (Z8 rfl (.r 10) rfl isAgg22) ?_
 refine YA 1 8 rfl ?_
 refine Zz 10 rfl (ZQ 1 underlying74 OB) ?_
 refine Zz 11 rfl (Z8 rfl (.r 1) rfl isAgg72) ?_
 refine YA 0 12 rfl ?_
 refine Zz 13 rfl (ZQ 3 underlying30 XO) ?_
 refine Zz 14 rfl (Z8 rfl (.r 32) rfl isAgg22) ?_
 refine Tm 15 [] rfl (Y4 (Bt PN PE Yk :) call61 ⟨.r 24, .r 50,trivial⟩) (fun _=>rfl) (fun Re=>?_)
 refine YA 3 16 rfl ?_
 refine Zz 20 rfl (ZQ 4 underlying74 XE) ?_
 refine Zz 21 rfl (ZQ 0 underlying34 YM) ?_
 refine Qh 22 [] rfl (YR (j:=0) rfl rfl YM rfl rfl rfl (Nat.lt_succ_self 0) (cs':=[vi Zu.1]) rfl) (fun _=>rfl) (fun _=>?_)
 refine xH 23 rfl (XL rfl) ?_
 refine Vi ?_
 refine Z7 (ZY (ZP (Z_ (Zj 2 rfl ?_))))
 refine ZV (ZQ 1 underlying74 OB) ?_
 refine ZV (Z8 rfl (.r 1) rfl isAgg72) ?_
 refine ZV (Zh rfl) ?_
 refine ZV (ZQ 5 underlying30 XO) ?_
 refine ZV (Z8 rfl (.r 34) rfl isAgg22) ?_
 have ⟨YJ,X6,H⟩:=Z9 H
 refine YE (Y4 (Sw Q3 X6 :) call62 ⟨.r 51,trivial⟩) (fun UD=>?_)
 refine ZV (UF T_) ?_
 refine Y2 ?_
 refine Z6 (Wz [0,3,26] [0] rfl rfl ?_)
 refine Sn H (fun hc H=>?_) (fun hc H=>?_)
 ·refine Z_ (Y2 ?_)
  refine Zq (ZE (ZZ ?_))
  obtain rfl:=sj H
  exact JK () [0] (vs:=[_]) rfl ⟨rfl,trivial⟩ rfl
 refine Z_ (YP ?_)
 refine ZV (UF T_) ?_
 refine Y2 ?_
 refine Z6 (Sn H (fun hc H=>?_) (fun hc H=>?_))
 ·refine Z_ (Y2 ?_)
  refine Zq (ZE (ZZ ?_))
  obtain rfl:=sj H
  exact JK () [0] (vs:=[_]) rfl ⟨rfl,trivial⟩ rfl
 refine Z_ (Zj 2 rfl ?_)
 refine ZV (ZQ 1 underlying74 OB) ?_
 refine ZV (Z8 rfl (.r 1) rfl isAgg72) ?_
 refine ZV (Zh rfl) ?_
 refine ZV (ZQ 6 underlying30 XO) ?_
 refine ZV (Z8 rfl (.r 35) rfl isAgg22) ?_
 refine ZV (ZG rfl underlying22) ?_
 refine ZV (ZT Xr) ?_
 refine YP ?_
 have ⟨j1,Hj,H⟩:=Z9 H
 refine VH (Γ:=Unit) (fun Sc=>[(39,vb j1)]) (fun Sc=>[⟨some (ba,oba+4),[vi Zu.1]⟩]) ?_ ?_
 ·intro Sc
  refine Z7 (Sn H (fun hc H=>?_) (fun hc H=>?_))
  ·refine Z_ (Y2 ?_)
   refine Zq (ZE (ZZ ?_))
   obtain rfl:=sj H
   exact JK () [0] (vs:=[_]) rfl ⟨rfl,trivial⟩ rfl
  refine ZN (ZW (Z7 (Z_ (Y2 ?_))))
  refine Zq ?_
  obtain rfl:=sj H
  exact JK () [0] (vs:=[_]) rfl ⟨rfl,trivial⟩ rfl
 intro hJ
 replace H:=Hj
 refine Td (d:=49) H (fun hc H=>?_) (fun hc H=>?_)
 ·refine Zj 11 rfl ?_
  refine ZK ?_
  obtain rfl:=sj H
  exact WW [0] (hJ ())
 refine Zj 2 rfl ?_
 refine Zc (ZQ 1 underlying74 OB) ?_
 refine Zc (Z8 rfl (.r 1) rfl isAgg72) ?_
 refine Zc (Zh rfl) ?_
 refine Zc (ZQ 9 underlying30 QR) ?_
 refine Zc (Z8 rfl (.r 38) rfl isAgg27) ?_
 refine Zc (ZG rfl underlying27) ?_
 refine Zc (ZT Xr) ?_
 refine Zj 2 rfl ?_
 have ⟨x1,TK,H⟩:=ZX H
 refine WN 39 (congrArg vb TK) ?_
 refine ZK ?_
 obtain rfl:=sj H
 exact WW [0] (hJ ())
def Sa (ER:Int) (lK:Str) (Kt:Int) (M9:Str):Option (Bool) :=
 X5 (decide (ER=Kt)) fun x1=>(some x1)
theorem qZ {bcap0:Nat} {obcap0:Nat} {ER:Int} {lK:Str} {Kt:Int} {M9:Str} {r:Bool} (H:Sa ER lK Kt M9=some r) :
  Does Tryz.prog 64 [aG [(1,[vi ER]),(1,[vs lK])],ptr (some (bcap0,obcap0)) 0] [] [⟨some (bcap0,obcap0),[vi Kt]⟩,⟨some (bcap0,obcap0+1),[vs M9]⟩] (Γ:=Unit) (fun g=>vb r) (fun g=>[]):=by
 intro w hmem hro hd
 refine Zn func64 rfl ntmps64 rfl hmem hro hd ?_
 unfold Sa at H
 refine Z_ (YE PT (fun b1=>?_))
 refine Y2 ?_
 refine Z6 (Z_ (ZV (ZQ 0 underlying50 YM) ?_))
 refine ZV (Z8 rfl (.o 0) rfl isAgg3) ?_
 refine ZV (ZQ 0 underlying50 YM) ?_
 refine ZV (Z8 rfl (.r 0) rfl isAgg3) ?_
 refine ZV (ZT Xr) ?_
 refine Y2 ?_
 have ⟨x1,TK,H⟩:=ZX H
 refine WN 3 (congrArg vb TK) ?_
 refine Zq ?_
 obtain rfl:=sj H
 exact Wj
def R_ (E5:Int) (nG:Str) (Lp:Bool) (O8 O6:List (Int)) (Oc:List (Str)) (Ie:Str) (Od:List (Str)) (Jt:Str) (Mv:Int) (Jl:Str) (Mw:List (Str × Str × Int × Int × Int × Int)) (Jy:Str) (J_ H_:Int) (J5 Js Jr:Int) (Lt MB:Str) (Pk:List (Int)) (Jp:Str) (QD O_:List (Int)) (PZ Oe:List (Int)) (O5:List (Int × Str)) (RL:List (Str × Int)) (P_:List (Str)) (HV:Int) (O9:List (Int)) (Oi:List (Str)) (Lv:Int) (Jm:Str) (JH H6:Int) (Ka:Str) (Lg:Int) (H7:Bool) (Hq Mf Ot:Int) (Mx:Str) (Mj Ky:Bool) (Mi:Int):Option (Bool) :=
 X5 (decide (E5=Ot)) fun x1=>(some x1)
theorem oM {bcap0:Nat} {obcap0:Nat} {bcap02:Nat} {obcap02:Nat} {bcap0_c:Nat} {obcap0_c:Nat} {Acap0_c_Suites:Y6} {ccap0_c_Suites:Nat} {Acap0_c_Groups:Y6} {ccap0_c_Groups:Nat} {Acap0_c_Chain:Y6} {ccap0_c_Chain:Nat} {Acap0_c_Roots:Y6} {ccap0_c_Roots:Nat} {Acap0_c_Psk:Y6} {ccap0_c_Psk:Nat} {bcap0_m:Nat} {obcap0_m:Nat} {Acap0_m_Suites:Y6} {ccap0_m_Suites:Nat} {Acap0_m_Versions:Y6} {ccap0_m_Versions:Nat} {Acap0_m_Groups:Y6} {ccap0_m_Groups:Nat} {Acap0_m_Schemes:Y6} {ccap0_m_Schemes:Nat} {Acap0_m_Modes:Y6} {ccap0_m_Modes:Nat} {Acap0_m_Shares:Y6} {ccap0_m_Shares:Nat} {Acap0_m_Identities:Y6} {ccap0_m_Identities:Nat} {Acap0_m_Binders:Y6} {ccap0_m_Binders:Nat} {Acap0_m_Others:Y6} {ccap0_m_Others:Nat} {Acap0_m_Certs:Y6} {ccap0_m_Certs:Nat} {E5:Int} {nG:Str} {Lp:Bool} {O8:List (Int)} {O6:List (Int)} {Oc:List (Str)} {Ie:Str} {Od:List (Str)} {Jt:Str} {Mv:Int} {Jl:Str} {Mw:List (Str × Str × Int × Int × Int × Int)} {Jy:Str} {J_:Int} {H_:Int} {J5:Int} {Js:Int} {Jr:Int} {Lt:Str} {MB:Str} {Pk:List (Int)} {Jp:Str} {QD:List (Int)} {O_:List (Int)} {PZ:List (Int)} {Oe:List (Int)} {O5:List (Int × Str)} {RL:List (Str × Int)} {P_:List (Str)} {HV:Int} {O9:List (Int)} {Oi:List (Str)} {Lv:Int} {Jm:Str} {JH:Int} {H6:Int} {Ka:Str} {Lg:Int} {H7:Bool} {Hq:Int} {Mf:Int} {Ot:Int} {Mx:Str} {Mj:Bool} {Ky:Bool} {Mi:Int} (oq:(O8).length≤ccap0_c_Suites) (oz:(O6).length≤ccap0_c_Groups) (m_:(Oc).length≤ccap0_c_Chain) (nK:(Od).length≤ccap0_c_Roots) (iZ:(Mw).length≤ccap0_c_Psk) (oG:(Pk).length≤ccap0_m_Suites) (tC:(QD).length≤ccap0_m_Versions) (om:(O_).length≤ccap0_m_Groups) (qY:(PZ).length≤ccap0_m_Schemes) (kW:(Oe).length≤ccap0_m_Modes) (oD:(O5).length≤ccap0_m_Shares) (xI:(RL).length≤ccap0_m_Identities) (pV:(P_).length≤ccap0_m_Binders) (oo:(O9).length≤ccap0_m_Others) (kP:(Oi).length≤ccap0_m_Certs) {r:Bool} (H:R_ E5 nG Lp O8 O6 Oc Ie Od Jt Mv Jl Mw Jy J_ H_ J5 Js Jr Lt MB Pk Jp QD O_ PZ Oe O5 RL P_ HV O9 Oi Lv Jm JH H6 Ka Lg H7 Hq Mf Ot Mx Mj Ky Mi=some r) :
  Does Tryz.prog 66 [aG [(1,[vi E5]),(1,[vs nG])],ptr (some (bcap0,obcap0)) 0] [] [⟨some (bcap0,obcap0),[ptr (some (bcap02,obcap02)) 0]⟩,⟨some (bcap02,obcap02),[ptr (some (bcap0_c,obcap0_c)) 0]⟩,⟨some (bcap02,obcap02+1),[ptr (some (bcap0_m,obcap0_m)) 0]⟩,⟨some (bcap02,obcap02+2),[vb H7]⟩,⟨some (bcap02,obcap02+3),[vi Hq]⟩,⟨some (bcap02,obcap02+4),[vi Mf]⟩,⟨some (bcap02,obcap02+5),[vi Ot]⟩,⟨some (bcap02,obcap02+6),[vs Mx]⟩,⟨some (bcap02,obcap02+7),[vb Mj]⟩,⟨some (bcap02,obcap02+8),[vb Ky]⟩,⟨some (bcap02,obcap02+9),[vi Mi]⟩,⟨some (bcap0_c,obcap0_c),[vb Lp]⟩,⟨some (bcap0_c,obcap0_c+1),[sl Acap0_c_Suites ((O8).length) ccap0_c_Suites]⟩,⟨some (bcap0_c,obcap0_c+2),[sl Acap0_c_Groups ((O6).length) ccap0_c_Groups]⟩,⟨some (bcap0_c,obcap0_c+3),[sl Acap0_c_Chain ((Oc).length) ccap0_c_Chain]⟩,⟨some (bcap0_c,obcap0_c+4),[vs Ie]⟩,⟨some (bcap0_c,obcap0_c+5),[sl Acap0_c_Roots ((Od).length) ccap0_c_Roots]⟩,⟨some (bcap0_c,obcap0_c+6),[vs Jt]⟩,⟨some (bcap0_c,obcap0_c+7),[vi Mv]⟩,⟨some (bcap0_c,obcap0_c+8),[vs Jl]⟩,⟨some (bcap0_c,obcap0_c+9),[sl Acap0_c_Psk ((Mw).length) ccap0_c_Psk]⟩,⟨some (bcap0_c,obcap0_c+10),[vs Jy]⟩,⟨some (bcap0_c,obcap0_c+11),[vi J_]⟩,⟨some (bcap0_c,obcap0_c+12),[vi H_]⟩,⟨some (bcap0_c,obcap0_c+13),[vi J5]⟩,⟨some (bcap0_c,obcap0_c+14),[vi Js]⟩,⟨Acap0_c_Suites,eI O8⟩,⟨Acap0_c_Groups,eI O6⟩,⟨Acap0_c_Chain,eS Oc⟩,⟨Acap0_c_Roots,eS Od⟩,⟨Acap0_c_Psk,eF (fun p:Str × Str × Int × Int × Int × Int=>[vs p.1,vs p.2.1,vi p.2.2.1,vi p.2.2.2.1,vi p.2.2.2.2.1,vi p.2.2.2.2.2]) Mw⟩,⟨some (bcap0_m,obcap0_m),[vi Jr]⟩,⟨some (bcap0_m,obcap0_m+1),[vs Lt]⟩,⟨some (bcap0_m,obcap0_m+2),[vs MB]⟩,⟨some (bcap0_m,obcap0_m+3),[sl Acap0_m_Suites ((Pk).length) ccap0_m_Suites]⟩,⟨some (bcap0_m,obcap0_m+4),[vs Jp]⟩,⟨some (bcap0_m,obcap0_m+5),[sl Acap0_m_Versions ((QD).length) ccap0_m_Versions]⟩,⟨some (bcap0_m,obcap0_m+6),[sl Acap0_m_Groups ((O_).length) ccap0_m_Groups]⟩,⟨some (bcap0_m,obcap0_m+7),[sl Acap0_m_Schemes ((PZ).length) ccap0_m_Schemes]⟩,⟨some (bcap0_m,obcap0_m+8),[sl Acap0_m_Modes ((Oe).length) ccap0_m_Modes]⟩,⟨some (bcap0_m,obcap0_m+9),[sl Acap0_m_Shares ((O5).length) ccap0_m_Shares]⟩,⟨some (bcap0_m,obcap0_m+10),[sl Acap0_m_Identities ((RL).length) ccap0_m_Identities]⟩,⟨some (bcap0_m,obcap0_m+11),[sl Acap0_m_Binders ((P_).length) ccap0_m_Binders]⟩,⟨some (bcap0_m,obcap0_m+12),[vi HV]⟩,⟨some (bcap0_m,obcap0_m+13),[sl Acap0_m_Others ((O9).length) ccap0_m_Others]⟩,⟨some (bcap0_m,obcap0_m+14),[sl Acap0_m_Certs ((Oi).length) ccap0_m_Certs]⟩,⟨some (bcap0_m,obcap0_m+15),[vi Lv]⟩,⟨some (bcap0_m,obcap0_m+16),[vs Jm]⟩,⟨some (bcap0_m,obcap0_m+17),[vi JH]⟩,⟨some (bcap0_m,obcap0_m+18),[vi H6]⟩,⟨some (bcap0_m,obcap0_m+19),[vs Ka]⟩,⟨some (bcap0_m,obcap0_m+20),[vi Lg]⟩,⟨Acap0_m_Suites,eI Pk⟩,⟨Acap0_m_Versions,eI QD⟩,⟨Acap0_m_Groups,eI O_⟩,⟨Acap0_m_Schemes,eI PZ⟩,⟨Acap0_m_Modes,eI Oe⟩,⟨Acap0_m_Shares,eF (fun p:Int × Str=>[vi p.1,vs p.2]) O5⟩,⟨Acap0_m_Identities,eF (fun p:Str × Int=>[vs p.1,vi p.2]) RL⟩,⟨Acap0_m_Binders,eS P_⟩,⟨Acap0_m_Others,eI O9⟩,⟨Acap0_m_Certs,eS Oi⟩] (Γ:=Unit) (fun g=>vb r) (fun g=>[]):=by
 intro w hmem hro hd
 refine Zn func66 rfl ntmps66 rfl hmem hro hd ?_
 unfold R_ at H
 refine Z_ (YE PT (fun b1=>?_))
 refine Y2 ?_
 refine Z6 (ZY ?_)
 have ⟨x1,TK,H⟩:=ZX H
 refine U3 [] 9 rfl ?_
 refine PX 1 [] (.v 0 [] rfl rfl (ZQ 0 underlying50 YM) (.v 1 [0] rfl rfl (Z8 rfl (.o 0) rfl isAgg3) (.v 2 [] rfl rfl (Z8 rfl (.r 0) rfl isAgg70) (.v 3 [2] rfl rfl (Zh rfl) (.v 4 [3] rfl rfl (ZQ 4 underlying74 XE) (.v 5 [4] rfl rfl (ZQ 1 underlying34 YM) (.v 6 [5] rfl rfl (Z8 rfl (.r 6) rfl isAgg3) (.v 7 [6,1] rfl rfl (V9 Xr rfl rfl) .nil)))))))) (fun γ=>?_)
 refine Qj [11,3] rfl rfl ?_
 refine qc 8 [] rfl (XL rfl) rfl ?_
 refine Xb 3 (congrArg vb TK) ?_
 refine Vi ?_
 refine Z7 (Y7 ?_)
 obtain rfl:=sj H
 exact Wj
end Go.Proofs
end

/-
  Part 21 of the proof of what several laws share.
-/
import Derived.Test.YtkgeoekcnlgfnaaGreatDoorKh20
set_option maxHeartbeats 4000000
set_option maxRecDepth 20000
set_option linter.unusedVariables false
set_option linter.unusedSimpArgs false
section
namespace Go.Proofs
open Go Go.Kx
open TryzI Tryz
def XJ.b0 (Zx:List (Str)) (s0:Int × Int):Option ((Int × Int) ⊕ (Int)) :=
 (if s0.2<((Zx).length:Int) then (some (decide (s0.2<8))) else (some false)).bind fun j1=>(if j1=true then (if 0≤s0.2∧s0.2<((Zx).length:Int) then (X5 (ZJ ((ZJ (s0.1+5))+(min ((lg Zx ((s0.2).toNat)).length:Int) 16384))) fun ku=>(X5 (ZJ (s0.2+1)) fun i1=>(some (.inl (ku,i1))))) else none) else (some (.inr s0.1)))
def XJ (Zm:Bool) (ZI ZR:List (Int)) (Zx:List (Str)) (Yp:Str) (Zr:List (Str)) (Zb:Str) (ZC:Int) (Y5:Str) (ZB:List (Str × Str × Int × Int × Int × Int)) (YN:Str) (Zk Ye:Int) (Zd YO:Int):Option (Bool) :=
 (QU 0 1 Yp Yp).bind fun Zu=>((loop (XJ.b0 Zx) BIG (8,0)).bind fun Yw=>((WZ Zx).bind fun YJ=>(if YJ=true then (if Yw≤65536 then (if 0<((Zx).length:Int) then (if Zu.2=0 then (if (List.replicate 32 0#8).length=32 then (if Yp ≠ List.replicate 32 0#8 then (if 0≤ZC then (if ZC≤8 then (if ((Y5).length:Int)=32 then (if ((Zr).length:Int)=0 then (if Zb=([]:Str) then (X5 (decide (((ZB).length:Int)=0)) fun x1=>(some x1)) else (some false)) else (some false)) else (if Y5=([]:Str) then (if ZC=0 then (if ((Zr).length:Int)=0 then (if Zb=([]:Str) then (X5 (decide (((ZB).length:Int)=0)) fun x2=>(some x2)) else (some false)) else (some false)) else (some false)) else (some false))) else (some false)) else (some false)) else (some false)) else none) else (some false)) else (some false)) else (some false)) else (some false))))
theorem ry {YZ:Y6} {Y0:Nat} {Y1:Y6} {YY:Nat} {YC:Y6} {YH:Nat} {YG:Y6} {YF:Nat} {XR:Y6} {XP:Nat} {Zm:Bool} {ZI:List (Int)} {ZR:List (Int)} {Zx:List (Str)} {Yp:Str} {Zr:List (Str)} {Zb:Str} {ZC:Int} {Y5:Str} {ZB:List (Str × Str × Int × Int × Int × Int)} {YN:Str} {Zk:Int} {Ye:Int} {Zd:Int} {YO:Int} (YV:(ZI).length≤Y0) (YD:(ZR).length≤YY) (Y8:(Zx).length≤YH) (Yq:(Zr).length≤YF) (Xk:(ZB).length≤XP) {r:Bool} (H:XJ Zm ZI ZR Zx Yp Zr Zb ZC Y5 ZB YN Zk Ye Zd YO=some r) :
  Does Tryz.prog 50 [aG [(1,[vb Zm]),(1,[sl YZ ((ZI).length) Y0]),(1,[sl Y1 ((ZR).length) YY]),(1,[sl YC ((Zx).length) YH]),(1,[vs Yp]),(1,[sl YG ((Zr).length) YF]),(1,[vs Zb]),(1,[vi ZC]),(1,[vs Y5]),(1,[sl XR ((ZB).length) XP]),(1,[vs YN]),(1,[vi Zk]),(1,[vi Ye]),(1,[vi Zd]),(1,[vi YO])]] [] [⟨YZ,eI ZI⟩,⟨Y1,eI ZR⟩,⟨YC,eS Zx⟩,⟨YG,eS Zr⟩,⟨XR,eF (fun p:Str × Str × Int × Int × Int × Int=>[vs p.1,vs p.2.1,vi p.2.2.1,vi p.2.2.2.1,vi p.2.2.2.2.1,vi p.2.2.2.2.2]) ZB⟩] (Γ:=Unit) (fun g=>vb r) (fun g=>[]):=by
 intro w hmem hro hd
 refine Zn func50 rfl ntmps50 rfl hmem hro hd ?_
 unfold XJ at H
 refine Z_ (YE PT (fun b1=>?_))
 refine Y2 ?_
 refine Z6 (Z_ (ZV (ZQ 4 underlying26 Xe) ?_))
 refine ZV (Z8 rfl (.o 4) rfl isAgg9) ?_
 refine ZV (ZQ 4 underlying26 Xe) ?_
 refine ZV (Z8 rfl (.o 4) rfl isAgg9) ?_
 have ⟨Zu,Yk,H⟩:=Z9 H
 refine YE (Y4 (rf Yk :) call77 .z) (fun Re=>?_)
 refine Zj 5 rfl ?_
 refine Z6 (Z_ (Y2 ?_))
 refine Z6 (ZY (Z_ (Y2 ?_)))
 refine Z6 (ZP ?_)
 have ⟨Yw,Hl,H⟩:=Z9 H
 refine Wz [1,4,5,6] (rp 15 0) rfl rfl ?_
 refine Yv (id:=0) (body:=(XJ.b0 Zx)) (σ:=Int × Int) (Γ:=Unit) (Γx:=Unit) (fun s0 WG=>[(1,ptr (some (b1,0)) 0),(4,vi Zu.2),(5,vi s0.1),(6,vi s0.2)]) (fun s0 WG=>[⟨some (b1,0),[vb Zm]⟩,⟨some (b1,1),[sl YZ ((ZI).length) Y0]⟩,⟨some (b1,2),[sl Y1 ((ZR).length) YY]⟩,⟨some (b1,3),[sl YC ((Zx).length) YH]⟩,⟨some (b1,4),[vs Yp]⟩,⟨some (b1,5),[sl YG ((Zr).length) YF]⟩,⟨some (b1,6),[vs Zb]⟩,⟨some (b1,7),[vi ZC]⟩,⟨some (b1,8),[vs Y5]⟩,⟨some (b1,9),[sl XR ((ZB).length) XP]⟩,⟨some (b1,10),[vs YN]⟩,⟨some (b1,11),[vi Zk]⟩,⟨some (b1,12),[vi Ye]⟩,⟨some (b1,13),[vi Zd]⟩,⟨some (b1,14),[vi YO]⟩]) (fun t g=>[(1,ptr (some (b1,0)) 0),(4,vi Zu.2),(5,vi t)]) (fun t g=>[⟨some (b1,0),[vb Zm]⟩,⟨some (b1,1),[sl YZ ((ZI).length) Y0]⟩,⟨some (b1,2),[sl Y1 ((ZR).length) YY]⟩,⟨some (b1,3),[sl YC ((Zx).length) YH]⟩,⟨some (b1,4),[vs Yp]⟩,⟨some (b1,5),[sl YG ((Zr).length) YF]⟩,⟨some (b1,6),[vs Zb]⟩,⟨some (b1,7),[vi ZC]⟩,⟨some (b1,8),[vs Y5]⟩,⟨some (b1,9),[sl XR ((ZB).length) XP]⟩,⟨some (b1,10),[vs YN]⟩,⟨some (b1,11),[vi Zk]⟩,⟨some (b1,12),[vi Ye]⟩,⟨some (b1,13),[vi Zd]⟩,⟨some (b1,14),[vi YO]⟩]) ?_ BIG (8,0) () Yw Hl ?_
 ·intro s0 WG r1 H K hK hE
  unfold XJ.b0 at H
  refine ZY (Z_ (YP ?_))
  refine ZV (ZQ 3 underlying26 Xn) ?_
  refine ZV (Z8 rfl (.o 3) rfl isAgg23) ?_
  refine ZV (ZG rfl underlying23) ?_
  refine ZV (ZT WV) ?_
  refine YP ?_
  have ⟨j1,Hj,H⟩:=Z9 H
  refine VH (Γ:=Unit) (fun Sc=>[(1,ptr (some (b1,0)) 0),(4,vi Zu.2),(5,vi s0.1),(6,vi s0.2),(23,vb j1)]) (fun Sc=>[⟨some (b1,0),[vb Zm]⟩,⟨some (b1,1),[sl YZ ((ZI).length) Y0]⟩,⟨some (b1,2),[sl Y1 ((ZR).length) YY]⟩,⟨some (b1,3),[sl YC ((Zx).length) YH]⟩,⟨some (b1,4),[vs Yp]⟩,⟨some (b1,5),[sl YG ((Zr).length) YF]⟩,⟨some (b1,6),[vs Zb]⟩,⟨some (b1,7),[vi ZC]⟩,⟨some (b1,8),[vs Y5]⟩,⟨some (b1,9),[sl XR ((ZB).length) XP]⟩,⟨some (b1,10),[vs YN]⟩,⟨some (b1,11),[vi Zk]⟩,⟨some (b1,12),[vi Ye]⟩,⟨some (b1,13),[vi Zd]⟩,⟨some (b1,14),[vi YO]⟩]) ?_ ?_
  ·intro Sc
   refine Z7 (Sn H (fun hc H=>?_) (fun hc H=>?_))
   ·refine ZN (Z7 (ZY (ZP (ZH (YP ?_)))))
    refine ZV (ZT XN) ?_
    refine ZV (ZQ 3 underlying26 Xn) ?_
    refine ZV (Z8 rfl (.o 3) rfl isAgg23) ?_
    refine YP ?_
    have ⟨h1,H⟩:=Z4 H
    refine ZV (YK (i:=s0.2) rfl rfl underlying23 Xe rfl (.r 2) (Uf (tl h1)) h1.1 h1.2 (k:=(s0.2).toNat) (JZ _)) ?_
    refine ZV (Z8 rfl (.r 2) (UL (f:=vs) (l:=Zx) (tl h1)) isAgg9) ?_
    refine ZV (Zf rfl underlying9) ?_
    refine ZV (eP rfl rfl) ?_
    refine ZV (ZT XN) ?_
    refine Y2 ?_
    have ⟨ku,hsize1,H⟩:=ZX H
    refine WN 5 (congrArg vi hsize1) ?_
    refine ZK (ZW (Z7 (ZH (YP ?_))))
    refine ZV (ZT XN) ?_
    refine Y2 ?_
    have ⟨i1,Ll,H⟩:=ZX H
    refine WN 6 (congrArg vi Ll) ?_
    refine ZK ?_
    obtain rfl:=sj H
    exact Ri (rp 15 0) (hK (ku,i1) rfl ())
   refine YW (Z0 (Z0 ?_))
   obtain rfl:=sj H
   exact WW (rp 15 0) (hE s0.1 rfl ())
  intro hJ
  replace H:=Hj
  refine Td (d:=20) H (fun hc H=>?_) (fun hc H=>?_)
  ·refine Zc (ZO rfl) ?_
   refine Zc (ZT WV) ?_
   refine ak ?_
   refine ZK ?_
   obtain rfl:=sj H
   exact WW (rp 15 0) (hJ ())
  refine Zj 3 rfl ?_
  refine ZK ?_
  obtain rfl:=sj H
  exact WW (rp 15 0) (hJ ())
 intro g
 refine ZL (Z7 (ZY ?_))
 have ⟨YJ,X6,H⟩:=Z9 H
 refine UI YJ (fun NY=>?_) (fun NY=>?_)
 ·replace H:=U8 NY H
  refine UI (decide (Yw≤65536)) (fun Nc=>?_) (fun Nc=>?_)
  ·replace H:=U8 (of_decide_eq_true Nc) H
   refine UI (decide (0<((Zx).length:Int))) (fun Ps=>?_) (fun Ps=>?_)
   ·replace H:=U8 (of_decide_eq_true Ps) H
    refine UI (decide (Zu.2=0)) (fun OV=>?_) (fun OV=>?_)
    ·replace H:=U8 (of_decide_eq_true OV) H
     have ⟨h2,H⟩:=Z4 H
     refine UI (decide (Yp ≠ List.replicate 32 0#8)) (fun Ov=>?_) (fun Ov=>?_)
     ·replace H:=U8 (of_decide_eq_true Ov) H
      refine UI (decide (0≤ZC)) (fun NE=>?_) (fun NE=>?_)
      ·replace H:=U8 (of_decide_eq_true NE) H
       refine UI (decide (ZC≤8)) (fun M0=>?_) (fun M0=>?_)
       ·replace H:=U8 (of_decide_eq_true M0) H
        refine UI (decide (((Y5).length:Int)=32)) (fun Ml=>?_) (fun Ml=>?_)
        ·replace H:=U8 (of_decide_eq_true Ml) H
         refine UI (decide (((Zr).length:Int)=0)) (fun NJ=>?_) (fun NJ=>?_)
         ·replace H:=U8 (of_decide_eq_true NJ) H
          refine UI (decide (Zb=([]:Str))) (fun Mm=>?_) (fun Mm=>?_)
          ·replace H:=U8 (of_decide_eq_true Mm) H
           have ⟨x1,TK,H⟩:=ZX H
           refine U3 (rp 15 0) 68 rfl ?_
           refine Zz 0 rfl (ZQ 3 underlying26 Xn) ?_
           refine Zz 1 rfl (Z8 rfl (.o 3) rfl isAgg23) ?_
           refine Tm 2 (rp 15 0) rfl (Y4 (T9 Y8 X6 :) call78 ⟨.r 2,trivial⟩) (fun _=>rfl) (fun UD=>?_)
           refine YA 0 3 rfl ?_
           refine Xb 39 (congrArg vb NY) ?_
           refine YA 0 4 rfl ?_
           refine Zz 5 rfl (ZT RH) ?_
           refine YA 1 6 rfl ?_
           refine Xb 43 (congrArg vb Nc) ?_
           refine Zz 8 rfl (ZQ 3 underlying26 Xn) ?_
           refine Zz 9 rfl (Z8 rfl (.o 3) rfl isAgg23) ?_
           refine Zz 10 rfl (ZG rfl underlying23) ?_
           refine Zz 11 rfl (ZT Sv) ?_
           refine YA 1 12 rfl ?_
           refine Xb 49 (congrArg vb Ps) ?_
           refine YA 0 14 rfl ?_
           refine Zz 15 rfl (ZT Xr) ?_
           refine YA 1 16 rfl ?_
           refine Xb 53 (congrArg vb OV) ?_
           refine Zz 18 rfl (ZQ 4 underlying26 Xe) ?_
           refine Zz 19 rfl (Z8 rfl (.o 4) rfl isAgg9) ?_
           refine Tm 20 (rp 15 1) rfl (OA rfl rfl underlying86 Yn (z:=v8 0#8) rfl rfl rfl (B:=1) rfl (by decide) (Int.le_refl _) (by decide) (by decide) (n':=32) (c':=32) rfl rfl (cs:=e8 (List.replicate 32 0#8)) (Ti (f:=v8))) (fun _=>rfl) (fun b2=>?_)
           refine JJ (rp 16 0) (rp 15 1) rfl rfl ?_
           refine Zz 21 rfl (QY rfl underlying86 underlying5 underlying9 (.o 0) h2) ?_
           refine Zz 22 rfl (ZT KX) ?_
           refine YA 1 23 rfl ?_
           refine Xb 60 (congrArg vb Ov) ?_
           refine Zz 25 rfl (ZQ 7 underlying26 YM) ?_
           refine Zz 26 rfl (Z8 rfl (.o 8) rfl isAgg3) ?_
           refine Zz 27 rfl (ZT LD) ?_
           refine YA 1 28 rfl ?_
           refine Xb 65 (congrArg vb NE) ?_
           refine Zz 30 rfl (ZQ 7 underlying26 YM) ?_
           refine Zz 31 rfl (Z8 rfl (.o 8) rfl isAgg3) ?_
           refine Zz 32 rfl (ZT RH) ?_
           refine YA 1 33 rfl ?_
           refine Xb 70 (congrArg vb M0) ?_
           refine Zz 35 rfl (ZQ 8 underlying26 Xe) ?_
           refine Zz 36 rfl (Z8 rfl (.o 9) rfl isAgg9) ?_
           refine Zz 37 rfl (Zf rfl underlying9) ?_
           refine Zz 38 rfl (ZT Xr) ?_
           refine YA 0 39 rfl ?_
           refine Xb 75 (congrArg vb Ml) ?_
           refine YA 10 40 rfl ?_
           refine Zz 51 rfl (ZQ 5 underlying26 Xn) ?_
           refine Zz 52 rfl (Z8 rfl (.o 6) rfl isAgg23) ?_
           refine Zz 53 rfl (ZG rfl underlying23) ?_
           refine Zz 54 rfl (ZT Xr) ?_
           refine YA 1 55 rfl ?_
           refine Xb 92 (congrArg vb NJ) ?_
           refine Zz 57 rfl (ZQ 6 underlying26 Xe) ?_
           refine Zz 58 rfl (Z8 rfl (.o 7) rfl isAgg9) ?_
           refine Zz 59 rfl (Zg rfl rfl (fun w=>L6 w Zb ([]:Str))) ?_
           refine YA 1 60 rfl ?_
           refine Xb 97 (congrArg vb Mm) ?_
           refine Zz 62 rfl (ZQ 9 underlying26 R6) ?_
           refine Zz 63 rfl (Z8 rfl (.o 10) rfl isAgg24) ?_
           refine Zz 64 rfl (ZG rfl underlying24) ?_
           refine Zz 65 rfl (ZT Xr) ?_
           refine YA 1 66 rfl ?_
           refine Xb 2 (congrArg vb TK) ?_
           refine Vi ?_
           refine Z7 (Wz [2] [] rfl rfl ?_)
           refine Y7 ?_
           obtain rfl:=sj H
           exact Wj
          replace H:=U7 (of_decide_eq_false Mm) H
          refine U3 (rp 15 0) 68 rfl ?_
          refine Zz 0 rfl (ZQ 3 underlying26 Xn) ?_
          refine Zz 1 rfl (Z8 rfl (.o 3) rfl isAgg23) ?_
          refine Tm 2 (rp 15 0) rfl (Y4 (T9 Y8 X6 :) call78 ⟨.r 2,trivial⟩) (fun _=>rfl) (fun UD=>?_)
          refine YA 0 3 rfl ?_
          refine Xb 39 (congrArg vb NY) ?_
          refine YA 0 4 rfl ?_
          refine Zz 5 rfl (ZT RH) ?_
          refine YA 1 6 rfl ?_
          refine Xb 43 (congrArg vb Nc) ?_
          refine Zz 8 rfl (ZQ 3 underlying26 Xn) ?_
          refine Zz 9 rfl (Z8 rfl (.o 3) rfl isAgg23) ?_
          refine Zz 10 rfl (ZG rfl underlying23) ?_
          refine Zz 11 rfl (ZT Sv) ?_
          refine YA 1 12 rfl ?_
          refine Xb 49 (congrArg vb Ps) ?_
          refine YA 0 14 rfl ?_
          refine Zz 15 rfl (ZT Xr) ?_
          refine YA 1 16 rfl ?_
          refine Xb 53 (congrArg vb OV) ?_
          refine Zz 18 rfl (ZQ 4 underlying26 Xe) ?_
          refine Zz 19 rfl (Z8 rfl (.o 4) rfl isAgg9) ?_
          refine Tm 20 (rp 15 1) rfl (OA rfl rfl underlying86 Yn (z:=v8 0#8) rfl rfl rfl (B:=1) rfl (by decide) (Int.le_refl _) (by decide) (by decide) (n':=32) (c':=32) rfl rfl (cs:=e8 (List.replicate 32 0#8)) (Ti (f:=v8))) (fun _=>rfl) (fun b2=>?_)
          refine JJ (rp 16 0) (rp 15 1) rfl rfl ?_
          refine Zz 21 rfl (QY rfl underlying86 underlying5 underlying9 (.o 0) h2) ?_
          refine Zz 22 rfl (ZT KX) ?_
          refine YA 1 23 rfl ?_
          refine Xb 60 (congrArg vb Ov) ?_
          refine Zz 25 rfl (ZQ 7 underlying26 YM) ?_
          refine Zz 26 rfl (Z8 rfl (.o 8) rfl isAgg3) ?_
          refine Zz 27 rfl (ZT LD) ?_
          refine YA 1 28 rfl ?_
          refine Xb 65 (congrArg vb NE) ?_
          refine Zz 30 rfl (ZQ 7 underlying26 YM) ?_
          refine Zz 31 rfl (Z8 rfl (.o 8) rfl isAgg3) ?_
          refine Zz 32 rfl (ZT RH) ?_
          refine YA 1 33 rfl ?_
          refine Xb 70 (congrArg vb M0) ?_
          refine Zz 35 rfl (ZQ 8 underlying26 Xe) ?_
          refine Zz 36 rfl (Z8 rfl (.o 9) rfl isAgg9) ?_
          refine Zz 37 rfl (Zf rfl underlying9) ?_
          refine Zz 38 rfl (ZT Xr) ?_
          refine YA 0 39 rfl ?_
          refine Xb 75 (congrArg vb Ml) ?_
          refine YA 10 40 rfl ?_
          refine Zz 51 rfl (ZQ 5 underlying26 Xn) ?_
          refine Zz 52 rfl (Z8 rfl (.o 6) rfl isAgg23) ?_
          refine Zz 53 rfl (ZG rfl underlying23) ?_
          refine Zz 54 rfl (ZT Xr) ?_
          refine YA 1 55 rfl ?_
          refine Xb 92 (congrArg vb NJ) ?_
          refine Zz 57 rfl (ZQ 6 underlying26 Xe) ?_
          refine Zz 58 rfl (Z8 rfl (.o 7) rfl isAgg9) ?_
          refine Zz 59 rfl (Zg rfl rfl (fun w=>L6 w Zb ([]:Str))) ?_
          refine YA 1 60 rfl ?_
          refine Xb 97 (congrArg vb Mm) ?_
          refine YA 5 62 rfl ?_
          refine Vi ?_
          refine Z7 (Wz [2] [] rfl rfl ?_)
          refine Y7 ?_
          obtain rfl:=sj H
          exact Wj
         replace H:=U7 (of_decide_eq_false NJ) H
         refine U3 (rp 15 0) 68 rfl ?_
         refine Zz 0 rfl (ZQ 3 underlying26 Xn) ?_
         refine Zz 1 rfl (Z8 rfl (.o 3) rfl isAgg23) ?_
         refine Tm 2 (rp 15 0) rfl (Y4 (T9 Y8 X6 :) call78 ⟨.r 2,trivial⟩) (fun _=>rfl) (fun UD=>?_)
         refine YA 0 3 rfl ?_
         refine Xb 39 (congrArg vb NY) ?_
         refine YA 0 4 rfl ?_
         refine Zz 5 rfl (ZT RH) ?_
         refine YA 1 6 rfl ?_
         refine Xb 43 (congrArg vb Nc) ?_
         refine Zz 8 rfl (ZQ 3 underlying26 Xn) ?_
         refine Zz 9 rfl (Z8 rfl (.o 3) rfl isAgg23) ?_
         refine Zz 10 rfl (ZG rfl underlying23) ?_
         refine Zz 11 rfl (ZT Sv) ?_
         refine YA 1 12 rfl ?_
         refine Xb 49 (congrArg vb Ps) ?_
         refine YA 0 14 rfl ?_
         refine Zz 15 rfl (ZT Xr) ?_
         refine YA 1 16 rfl ?_
         refine Xb 53 (congrArg vb OV) ?_
         refine Zz 18 rfl (ZQ 4 underlying26 Xe) ?_
         refine Zz 19 rfl (Z8 rfl (.o 4) rfl isAgg9) ?_
         refine Tm 20 (rp 15 1) rfl (OA rfl rfl underlying86 Yn (z:=v8 0#8) rfl rfl rfl (B:=1) rfl (by decide) (Int.le_refl _) (by decide) (by decide) (n':=32) (c':=32) rfl rfl (cs:=e8 (List.replicate 32 0#8)) (Ti (f:=v8))) (fun _=>rfl) (fun b2=>?_)
         refine JJ (rp 16 0) (rp 15 1) rfl rfl ?_
         refine Zz 21 rfl (QY rfl underlying86 underlying5 underlying9 (.o 0) h2) ?_
         refine Zz 22 rfl (ZT KX) ?_
         refine YA 1 23 rfl ?_
         refine Xb 60 (congrArg vb Ov) ?_
         refine Zz 25 rfl (ZQ 7 underlying26 YM) ?_
         refine Zz 26 rfl (Z8 rfl (.o 8) rfl isAgg3) ?_
         refine Zz 27 rfl (ZT LD) ?_
         refine YA 1 28 rfl ?_
         refine Xb 65 (congrArg vb NE) ?_
         refine Zz 30 rfl (ZQ 7 underlying26 YM) ?_
         refine Zz 31 rfl (Z8 rfl (.o 8) rfl isAgg3) ?_
         refine Zz 32 rfl (ZT RH) ?_
         refine YA 1 33 rfl ?_
         refine Xb 70 (congrArg vb M0) ?_
         refine Zz 35 rfl (ZQ 8 underlying26 Xe) ?_
         refine Zz 36 rfl (Z8 rfl (.o 9) rfl isAgg9) ?_
         refine Zz 37 rfl (Zf rfl underlying9) ?_
         refine Zz 38 rfl (ZT Xr) ?_
         refine YA 0 39 rfl ?_
         refine Xb 75 (congrArg vb Ml) ?_
         refine YA 10 40 rfl ?_
         refine Zz 51 rfl (ZQ 5 underlying26 Xn) ?_
         refine Zz 52 rfl (Z8 rfl (.o 6) rfl isAgg23) ?_
         refine Zz 53 rfl (ZG rfl underlying23) ?_
         refine Zz 54 rfl (ZT Xr) ?_
         refine YA 1 55 rfl ?_
         refine Xb 92 (congrArg vb NJ) ?_
         refine YA 10 57 rfl ?_
         refine Vi ?_
         refine Z7 (Wz [2] [] rfl rfl ?_)
         refine Y7 ?_
         obtain rfl:=sj H
         exact Wj
        replace H:=U7 (of_decide_eq_false Ml) H
        refine UI (decide (Y5=([]:Str))) (fun Jc=>?_) (fun Jc=>?_)
        ·replace H:=U8 (of_decide_eq_true Jc) H
         refine UI (decide (ZC=0)) (fun Ik=>?_) (fun Ik=>?_)
         ·replace H:=U8 (of_decide_eq_true Ik) H
          refine UI (decide (((Zr).length:Int)=0)) (fun NJ=>?_) (fun NJ=>?_)
          ·replace H:=U8 (of_decide_eq_true NJ) H
           refine UI (decide (Zb=([]:Str))) (fun Mm=>?_) (fun Mm=>?_)
           ·replace H:=U8 (of_decide_eq_true Mm) H
            have ⟨x2,KO,H⟩:=ZX H
            refine U3 (rp 15 0) 68 rfl ?_
            refine Zz 0 rfl (ZQ 3 underlying26 Xn) ?_
            refine Zz 1 rfl (Z8 rfl (.o 3) rfl isAgg23) ?_
            refine Tm 2 (rp 15 0) rfl (Y4 (T9 Y8 X6 :) call78 ⟨.r 2,trivial⟩) (fun _=>rfl) (fun UD=>?_)
            refine YA 0 3 rfl ?_
            refine Xb 39 (congrArg vb NY) ?_
            refine YA 0 4 rfl ?_
            refine Zz 5 rfl (ZT RH) ?_
            refine YA 1 6 rfl ?_
            refine Xb 43 (congrArg vb Nc) ?_
            refine Zz 8 rfl (ZQ 3 underlying26 Xn) ?_
            refine Zz 9 rfl (Z8 rfl (.o 3) rfl isAgg23) ?_
            refine Zz 10 rfl (ZG rfl underlying23) ?_
            refine Zz 11 rfl (ZT Sv) ?_
            refine YA 1 12 rfl ?_
            refine Xb 49 (congrArg vb Ps) ?_
            refine YA 0 14 rfl ?_
            refine Zz 15 rfl (ZT Xr) ?_
            refine YA 1 16 rfl ?_
            refine Xb 53 (congrArg vb OV) ?_
            refine Zz 18 rfl (ZQ 4 underlying26 Xe) ?_
            refine Zz 19 rfl (Z8 rfl (.o 4) rfl isAgg9) ?_
            refine Tm 20 (rp 15 1) rfl (OA rfl rfl underlying86 Yn (z:=v8 0#8) rfl rfl rfl (B:=1) rfl (by decide) (Int.le_refl _) (by decide) (by decide) (n':=32) (c':=32) rfl rfl (cs:=e8 (List.replicate 32 0#8)) (Ti (f:=v8))) (fun _=>rfl) (fun b2=>?_)
            refine JJ (rp 16 0) (rp 15 1) rfl rfl ?_
            refine Zz 21 rfl (QY rfl underlying86 underlying5 underlying9 (.o 0) h2) ?_
            refine Zz 22 rfl (ZT KX) ?_
            refine YA 1 23 rfl ?_
            refine Xb 60 (congrArg vb Ov) ?_
            refine Zz 25 rfl (ZQ 7 underlying26 YM) ?_
            refine Zz 26 rfl (Z8 rfl (.o 8) rfl isAgg3) ?_
            refine Zz 27 rfl (ZT LD) ?_
            refine YA 1 28 rfl ?_
            refine Xb 65 (congrArg vb NE) ?_
            refine Zz 30 rfl (ZQ 7 underlying26 YM) ?_
            refine Zz 31 rfl (Z8 rfl (.o 8) rfl isAgg3) ?_
            refine Zz 32 rfl (ZT RH) ?_
            refine YA 1 33 rfl ?_
            refine Xb 70 (congrArg vb M0) ?_
            refine Zz 35 rfl (ZQ 8 underlying26 Xe) ?_
            refine Zz 36 rfl (Z8 rfl (.o 9) rfl isAgg9) ?_
            refine Zz 37 rfl (Zf rfl underlying9) ?_
            refine Zz 38 rfl (ZT Xr) ?_
            refine YA 0 39 rfl ?_
            refine Xb 75 (congrArg vb Ml) ?_
            refine Zz 40 rfl (ZQ 8 underlying26 Xe) ?_
            refine Zz 41 rfl (Z8 rfl (.o 9) rfl isAgg9) ?_
            refine Zz 42 rfl (Zg rfl rfl (fun w=>L6 w Y5 ([]:Str))) ?_
            refine YA 0 43 rfl ?_
            refine Xb 79 (congrArg vb Jc) ?_
            refine Zz 44 rfl (ZQ 7 underlying26 YM) ?_
            refine Zz 45 rfl (Z8 rfl (.o 8) rfl isAgg3) ?_
            refine Zz 46 rfl (ZT Xr) ?_
            refine YA 3 47 rfl ?_
            refine Xb 86 (congrArg vb Ik) ?_
            refine Zz 51 rfl (ZQ 5 underlying26 Xn) ?_
            refine Zz 52 rfl (Z8 rfl (.o 6) rfl isAgg23) ?_
            refine Zz 53 rfl (ZG rfl underlying23) ?_
            refine Zz 54 rfl (ZT Xr) ?_
            refine YA 1 55 rfl ?_
            refine Xb 92 (congrArg vb NJ) ?_
            refine Zz 57 rfl (ZQ 6 underlying26 Xe) ?_
            refine Zz 58 rfl (Z8 rfl (.o 7) rfl isAgg9) ?_
            refine Zz 59 rfl (Zg rfl rfl (fun w=>L6 w Zb ([]:Str))) ?_
            refine YA 1 60 rfl ?_
            refine Xb 97 (congrArg vb Mm) ?_
            refine Zz 62 rfl (ZQ 9 underlying26 R6) ?_
            refine Zz 63 rfl (Z8 rfl (.o 10) rfl isAgg24) ?_
            refine Zz 64 rfl (ZG rfl underlying24) ?_
            refine Zz 65 rfl (ZT Xr) ?_
            refine YA 1 66 rfl ?_
            refine Xb 2 (congrArg vb KO) ?_
            refine Vi ?_
            refine Z7 (Wz [2] [] rfl rfl ?_)
            refine Y7 ?_
            obtain rfl:=sj H
            exact Wj
           replace H:=U7 (of_decide_eq_false Mm) H
           refine U3 (rp 15 0) 68 rfl ?_
           refine Zz 0 rfl (ZQ 3 underlying26 Xn) ?_
           refine Zz 1 rfl (Z8 rfl (.o 3) rfl isAgg23) ?_
           refine Tm 2 (rp 15 0) rfl (Y4 (T9 Y8 X6 :) call78 ⟨.r 2,trivial⟩) (fun _=>rfl) (fun UD=>?_)
           refine YA 0 3 rfl ?_
           refine Xb 39 (congrArg vb NY) ?_
           refine YA 0 4 rfl ?_
           refine Zz 5 rfl (ZT RH) ?_
           refine YA 1 6 rfl ?_
           refine Xb 43 (congrArg vb Nc) ?_
           refine Zz 8 rfl (ZQ 3 underlying26 Xn) ?_
           refine Zz 9 rfl (Z8 rfl (.o 3) rfl isAgg23) ?_
           refine Zz 10 rfl (ZG rfl underlying23) ?_
           refine Zz 11 rfl (ZT Sv) ?_
           refine YA 1 12 rfl ?_
           refine Xb 49 (congrArg vb Ps) ?_
           refine YA 0 14 rfl ?_
           refine Zz 15 rfl (ZT Xr) ?_
           refine YA 1 16 rfl ?_
           refine Xb 53 (congrArg vb OV) ?_
           refine Zz 18 rfl (ZQ 4 underlying26 Xe) ?_
           refine Zz 19 rfl (Z8 rfl (.o 4) rfl isAgg9) ?_
           refine Tm 20 (rp 15 1) rfl (OA rfl rfl underlying86 Yn (z:=v8 0#8) rfl rfl rfl (B:=1) rfl (by decide) (Int.le_refl _) (by decide) (by decide) (n':=32) (c':=32) rfl rfl (cs:=e8 (List.replicate 32 0#8)) (Ti (f:=v8))) (fun _=>rfl) (fun b2=>?_)
           refine JJ (rp 16 0) (rp 15 1) rfl rfl ?_
           refine Zz 21 rfl (QY rfl underlying86 underlying5 underlying9 (.o 0) h2) ?_
           refine Zz 22 rfl (ZT KX) ?_
           refine YA 1 23 rfl ?_
           refine Xb 60 (congrArg vb Ov) ?_
           refine Zz 25 rfl (ZQ 7 underlying26 YM) ?_
           refine Zz 26 rfl (Z8 rfl (.o 8) rfl isAgg3) ?_
           refine Zz 27 rfl (ZT LD) ?_
           refine YA 1 28 rfl ?_
           refine Xb 65 (congrArg vb NE) ?_
           refine Zz 30 rfl (ZQ 7 underlying26 YM) ?_
           refine Zz 31 rfl (Z8 rfl (.o 8) rfl isAgg3) ?_
           refine Zz 32 rfl (ZT RH) ?_
           refine YA 1 33 rfl ?_
           refine Xb 70 (congrArg vb M0) ?_
           refine Zz 35 rfl (ZQ 8 underlying26 Xe) ?_
           refine Zz 36 rfl (Z8 rfl (.o 9) rfl isAgg9) ?_
           refine Zz 37 rfl (Zf rfl underlying9) ?_
           refine Zz 38 rfl (ZT Xr) ?_
           refine YA 0 39 rfl ?_
           refine Xb 75 (congrArg vb Ml) ?_
           refine Zz 40 rfl (ZQ 8 underlying26 Xe) ?_
           refine Zz 41 rfl (Z8 rfl (.o 9) rfl isAgg9) ?_
           refine Zz 42 rfl (Zg rfl rfl (fun w=>L6 w Y5 ([]:Str))) ?_
           refine YA 0 43 rfl ?_
           refine Xb 79 (congrArg vb Jc) ?_
           refine Zz 44 rfl (ZQ 7 underlying26 YM) ?_
           refine Zz 45 rfl (Z8 rfl (.o 8) rfl isAgg3) ?_
           refine Zz 46 rfl (ZT Xr) ?_
           refine YA 3 47 rfl ?_
           refine Xb 86 (congrArg vb Ik) ?_
           refine Zz 51 rfl (ZQ 5 underlying26 Xn) ?_
           refine Zz 52 rfl (Z8 rfl (.o 6) rfl isAgg23) ?_
           refine Zz 53 rfl (ZG rfl underlying23) ?_
           refine Zz 54 rfl (ZT Xr) ?_
           refine YA 1 55 rfl ?_
           refine Xb 92 (congrArg vb NJ) ?_
           refine Zz 57 rfl (ZQ 6 underlying26 Xe) ?_
           refine Zz 58 rfl (Z8 rfl (.o 7) rfl isAgg9) ?_
           refine Zz 59 rfl (Zg rfl rfl (fun w=>L6 w Zb ([]:Str))) ?_
           refine YA 1 60 rfl ?_
           refine Xb 97 (congrArg vb Mm) ?_
           refine YA 5 62 rfl ?_
           refine Vi ?_
           refine Z7 (Wz [2] [] rfl rfl ?_)
           refine Y7 ?_
           obtain rfl:=sj H
           exact Wj
          replace H:=U7 (of_decide_eq_false NJ) H
          refine U3 (rp 15 0) 68 rfl ?_
          refine Zz 0 rfl (ZQ 3 underlying26 Xn) ?_
          refine Zz 1 rfl (Z8 rfl (.o 3) rfl isAgg23) ?_
          refine Tm 2 (rp 15 0) rfl (Y4 (T9 Y8 X6 :) call78 ⟨.r 2,trivial⟩) (fun _=>rfl) (fun UD=>?_)
          refine YA 0 3 rfl ?_
          refine Xb 39 (congrArg vb NY) ?_
          refine YA 0 4 rfl ?_
          refine Zz 5 rfl (ZT RH) ?_
          refine YA 1 6 rfl ?_
          refine Xb 43 (congrArg vb Nc) ?_
          refine Zz 8 rfl (ZQ 3 underlying26 Xn) ?_
          refine Zz 9 rfl (Z8 rfl (.o 3) rfl isAgg23) ?_
          refine Zz 10 rfl (ZG rfl underlying23) ?_
          refine Zz 11 rfl (ZT Sv) ?_
          refine YA 1 12 rfl ?_
          refine Xb 49 (congrArg vb Ps) ?_
          refine YA 0 14 rfl ?_
          refine Zz 15 rfl (ZT Xr) ?_
          refine YA 1 16 rfl ?_
          refine Xb 53 (congrArg vb OV) ?_
          refine Zz 18 rfl (ZQ 4 underlying26 Xe) ?_
          refine Zz 19 rfl (Z8 rfl (.o 4) rfl isAgg9) ?_
          refine Tm 20 (rp 15 1) rfl (OA rfl rfl underlying86 Yn (z:=v8 0#8) rfl rfl rfl (B:=1) rfl (by decide) (Int.le_refl _) (by decide) (by decide) (n':=32) (c':=32) rfl rfl (cs:=e8 (List.replicate 32 0#8)) (Ti (f:=v8))) (fun _=>rfl) (fun b2=>?_)
          refine JJ (rp 16 0) (rp 15 1) rfl rfl ?_
          refine Zz 21 rfl (QY rfl underlying86 underlying5 underlying9 (.o 0) h2) ?_
          refine Zz 22 rfl (ZT KX) ?_
          refine YA 1 23 rfl ?_
          refine Xb 60 (congrArg vb Ov) ?_
          refine Zz 25 rfl (ZQ 7 underlying26 YM) ?_
          refine Zz 26 rfl (Z8 rfl (.o 8) rfl isAgg3) ?_
          refine Zz 27 rfl (ZT LD) ?_
          refine YA 1 28 rfl ?_
          refine Xb 65 (congrArg vb NE) ?_
          refine Zz 30 rfl (ZQ 7 underlying26 YM) ?_
          refine Zz 31 rfl (Z8 rfl (.o 8) rfl isAgg3) ?_
          refine Zz 32 rfl (ZT RH) ?_
          refine YA 1 33 rfl ?_
          refine Xb 70 (congrArg vb M0) ?_
          refine Zz 35 rfl (ZQ 8 underlying26 Xe) ?_
          refine Zz 36 rfl (Z8 rfl (.o 9) rfl isAgg9) ?_
          refine Zz 37 rfl (Zf rfl underlying9) ?_
          refine Zz 38 rfl (ZT Xr) ?_
          refine YA 0 39 rfl ?_
          refine Xb 75 (congrArg vb Ml) ?_
          refine Zz 40 rfl (ZQ 8 underlying26 Xe) ?_
          refine Zz 41 rfl (Z8 rfl (.o 9) rfl isAgg9) ?_
          refine Zz 42 rfl (Zg rfl rfl (fun w=>L6 w Y5 ([]:Str))) ?_
          refine YA 0 43 rfl ?_
          refine Xb 79 (congrArg vb Jc) ?_
          refine Zz 44 rfl (ZQ 7 underlying26 YM) ?_
          refine Zz 45 rfl (Z8 rfl (.o 8) rfl isAgg3) ?_
          refine Zz 46 rfl (ZT Xr) ?_
          refine YA 3 47 rfl ?_
          refine Xb 86 (congrArg vb Ik) ?_
          refine Zz 51 rfl (ZQ 5 underlying26 Xn) ?_
          refine Zz 52 rfl (Z8 rfl (.o 6) rfl isAgg23) ?_
          refine Zz 53 rfl (ZG rfl underlying23) ?_
          refine Zz 54 rfl (ZT Xr) ?_
          refine YA 1 55 rfl ?_
          refine Xb 92 (congrArg vb NJ) ?_
          refine YA 10 57 rfl ?_
          refine Vi ?_
          refine Z7 (Wz [2] [] rfl rfl ?_)
          refine Y7 ?_
          obtain rfl:=sj H
          exact Wj
         replace H:=U7 (of_decide_eq_false Ik) H
         refine U3 (rp 15 0) 68 rfl ?_
         refine Zz 0 rfl (ZQ 3 underlying26 Xn) ?_
         refine Zz 1 rfl (Z8 rfl (.o 3) rfl isAgg23) ?_
         refine Tm 2 (rp 15 0) rfl (Y4 (T9 Y8 X6 :) call78 ⟨.r 2,trivial⟩) (fun _=>rfl) (fun UD=>?_)
         refine YA 0 3 rfl ?_
         refine Xb 39 (congrArg vb NY) ?_
         refine YA 0 4 rfl ?_
         refine Zz 5 rfl (ZT RH) ?_
         refine YA 1 6 rfl ?_
         refine Xb 43 (congrArg vb Nc) ?_
         refine Zz 8 rfl (ZQ 3 underlying26 Xn) ?_
         refine Zz 9 rfl (Z8 rfl (.o 3) rfl isAgg23) ?_
         refine Zz 10 rfl (ZG rfl underlying23) ?_
         refine Zz 11 rfl (ZT Sv) ?_
         refine YA 1 12 rfl ?_
         refine Xb 49 (congrArg vb Ps) ?_
         refine YA 0 14 rfl ?_
         refine Zz 15 rfl (ZT Xr) ?_
         refine YA 1 16 rfl ?_
         refine Xb 53 (congrArg vb OV) ?_
         refine Zz 18 rfl (ZQ 4 underlying26 Xe) ?_
         refine Zz 19 rfl (Z8 rfl (.o 4) rfl isAgg9) ?_
         refine Tm 20 (rp 15 1) rfl (OA rfl rfl underlying86 Yn (z:=v8 0#8) rfl rfl rfl (B:=1) rfl (by decide) (Int.le_refl _) (by decide) (by decide) (n':=32) (c':=32) rfl rfl (cs:=e8 (List.replicate 32 0#8)) (Ti (f:=v8))) (fun _=>rfl) (fun b2=>?_)
         refine JJ (rp 16 0) (rp 15 1) rfl rfl ?_
         refine Zz 21 rfl (QY rfl underlying86 underlying5 underlying9 (.o 0) h2) ?_
         refine Zz 22 rfl (ZT KX) ?_
         refine YA 1 23 rfl ?_
         refine Xb 60 (congrArg vb Ov) ?_
         refine Zz 25 rfl (ZQ 7 underlying26 YM) ?_
         refine Zz 26 rfl (Z8 rfl (.o 8) rfl isAgg3) ?_
         refine Zz 27 rfl (ZT LD) ?_
         refine YA 1 28 rfl ?_
         refine Xb 65 (congrArg vb NE) ?_
         refine Zz 30 rfl (ZQ 7 underlying26 YM) ?_
         refine Zz 31 rfl (Z8 rfl (.o 8) rfl isAgg3) ?_
         refine Zz 32 rfl (ZT RH) ?_
         refine YA 1 33 rfl ?_
         refine Xb 70 (congrArg vb M0) ?_
         refine Zz 35 rfl (ZQ 8 underlying26 Xe) ?_
         refine Zz 36 rfl (Z8 rfl (.o 9) rfl isAgg9) ?_
         refine Zz 37 rfl (Zf rfl underlying9) ?_
         refine Zz 38 rfl (ZT Xr) ?_
         refine YA 0 39 rfl ?_
         refine Xb 75 (congrArg vb Ml) ?_
         refine Zz 40 rfl (ZQ 8 underlying26 Xe) ?_
         refine Zz 41 rfl (Z8 rfl (.o 9) rfl isAgg9) ?_
         refine Zz 42 rfl (Zg rfl rfl (fun w=>L6 w Y5 ([]:Str))) ?_
         refine YA 0 43 rfl ?_
         refine Xb 79 (congrArg vb Jc) ?_
         refine Zz 44 rfl (ZQ 7 underlying26 YM) ?_
         refine Zz 45 rfl (Z8 rfl (.o 8) rfl isAgg3) ?_
         refine Zz 46 rfl (ZT Xr) ?_
         refine YA 3 47 rfl ?_
         refine Xb 86 (congrArg vb Ik) ?_
         refine YA 16 51 rfl ?_
         refine Vi ?_
         refine Z7 (Wz [2] [] rfl rfl ?_)
         refine Y7 ?_
         obtain rfl:=sj H
         exact Wj
        replace H:=U7 (of_decide_eq_false Jc) H
        refine U3 (rp 15 0) 68 rfl ?_
        refine Zz 0 rfl (ZQ 3 underlying26 Xn) ?_
        refine Zz 1 rfl (Z8 rfl (.o 3) rfl isAgg23) ?_
        refine Tm 2 (rp 15 0) rfl (Y4 (T9 Y8 X6 :) call78 ⟨.r 2,trivial⟩) (fun _=>rfl) (fun UD=>?_)
        refine YA 0 3 rfl ?_
        refine Xb 39 (congrArg vb NY) ?_
        refine YA 0 4 rfl ?_
        refine Zz 5 rfl (ZT RH) ?_
        refine YA 1 6 rfl ?_
        refine Xb 43 (congrArg vb Nc) ?_
        refine Zz 8 rfl (ZQ 3 underlying26 Xn) ?_
        refine Zz 9 rfl (Z8 rfl (.o 3) rfl isAgg23) ?_
        refine Zz 10 rfl (ZG rfl underlying23) ?_
        refine Zz 11 rfl (ZT Sv) ?_
        refine YA 1 12 rfl ?_
        refine Xb 49 (congrArg vb Ps) ?_
        refine YA 0 14 rfl ?_
        refine Zz 15 rfl (ZT Xr) ?_
        refine YA 1 16 rfl ?_
        refine Xb 53 (congrArg vb OV) ?_
        refine Zz 18 rfl (ZQ 4 underlying26 Xe) ?_
        refine Zz 19 rfl (Z8 rfl (.o 4) rfl isAgg9) ?_
        refine Tm 20 (rp 15 1) rfl (OA rfl rfl underlying86 Yn (z:=v8 0#8) rfl rfl rfl (B:=1) rfl (by decide) (Int.le_refl _) (by decide) (by decide) (n':=32) (c':=32) rfl rfl (cs:=e8 (List.replicate 32 0#8)) (Ti (f:=v8))) (fun _=>rfl) (fun b2=>?_)
        refine JJ (rp 16 0) (rp 15 1) rfl rfl ?_
        refine Zz 21 rfl (QY rfl underlying86 underlying5 underlying9 (.o 0) h2) ?_
        refine Zz 22 rfl (ZT KX) ?_
        refine YA 1 23 rfl ?_
        refine Xb 60 (congrArg vb Ov) ?_
        refine Zz 25 rfl (ZQ 7 underlying26 YM) ?_
        refine Zz 26 rfl (Z8 rfl (.o 8) rfl isAgg3) ?_
        refine Zz 27 rfl (ZT LD) ?_
        refine YA 1 28 rfl ?_
        refine Xb 65 (congrArg vb NE) ?_
        refine Zz 30 rfl (ZQ 7 underlying26 YM) ?_
        refine Zz 31 rfl (Z8 rfl (.o 8) rfl isAgg3) ?_
        refine Zz 32 rfl (ZT RH) ?_
        refine YA 1 33 rfl ?_
        refine Xb 70 (congrArg vb M0) ?_
        refine Zz 35 rfl (ZQ 8 underlying26 Xe) ?_
        refine Zz 36 rfl (Z8 rfl (.o 9) rfl isAgg9) ?_
        refine Zz 37 rfl (Zf rfl underlying9) ?_
        refine Zz 38 rfl (ZT Xr) ?_
        refine YA 0 39 rfl ?_
        refine Xb 75 (congrArg vb Ml) ?_
        refine Zz 40 rfl (ZQ 8 underlying26 Xe) ?_
        refine Zz 41 rfl (Z8 rfl (.o 9) rfl isAgg9) ?_
        refine Zz 42 rfl (Zg rfl rfl (fun w=>L6 w Y5 ([]:Str))) ?_
        refine YA 0 43 rfl ?_
        refine Xb 79 (congrArg vb Jc) ?_
        refine YA 23 44 rfl ?_
        refine Vi ?_
        refine Z7 (Wz [2] [] rfl rfl ?_)
        refine Y7 ?_
        obtain rfl:=sj H
        exact Wj
       replace H:=U7 (of_decide_eq_false M0) H
       refine U3 (rp 15 0) 68 rfl ?_
       refine Zz 0 rfl (ZQ 3 underlying26 Xn) ?_
       refine Zz 1 rfl (Z8 rfl (.o 3) rfl isAgg23) ?_
       refine Tm 2 (rp 15 0) rfl (Y4 (T9 Y8 X6 :) call78 ⟨.r 2,trivial⟩) (fun _=>rfl) (fun UD=>?_)
       refine YA 0 3 rfl ?_
       refine Xb 39 (congrArg vb NY) ?_
       refine YA 0 4 rfl ?_
       refine Zz 5 rfl (ZT RH) ?_
       refine YA 1 6 rfl ?_
       refine Xb 43 (congrArg vb Nc) ?_
       refine Zz 8 rfl (ZQ 3 underlying26 Xn) ?_
       refine Zz 9 rfl (Z8 rfl (.o 3) rfl isAgg23) ?_
       refine Zz 10 rfl (ZG rfl underlying23) ?_
       refine Zz 11 rfl (ZT Sv) ?_
       refine YA 1 12 rfl ?_
       refine Xb 49 (congrArg vb Ps) ?_
       refine YA 0 14 rfl ?_
       refine Zz 15 rfl (ZT Xr) ?_
       refine YA 1 16 rfl ?_
       refine Xb 53 (congrArg vb OV) ?_
       refine Zz 18 rfl (ZQ 4 underlying26 Xe) ?_
       refine Zz 19 rfl (Z8 rfl (.o 4) rfl isAgg9) ?_
       refine Tm 20 (rp 15 1) rfl (OA rfl rfl underlying86 Yn (z:=v8 0#8) rfl rfl rfl (B:=1) rfl (by decide) (Int.le_refl _) (by decide) (by decide) (n':=32) (c':=32) rfl rfl (cs:=e8 (List.replicate 32 0#8)) (Ti (f:=v8))) (fun _=>rfl) (fun b2=>?_)
       refine JJ (rp 16 0) (rp 15 1) rfl rfl ?_
       refine Zz 21 rfl (QY rfl underlying86 underlying5 underlying9 (.o 0) h2) ?_
       refine Zz 22 rfl (ZT KX) ?_
       refine YA 1 23 rfl ?_
       refine Xb 60 (congrArg vb Ov) ?_
       refine Zz 25 rfl (ZQ 7 underlying26 YM) ?_
       refine Zz 26 rfl (Z8 rfl (.o 8) rfl isAgg3) ?_
       refine Zz 27 rfl (ZT LD) ?_
       refine YA 1 28 rfl ?_
       refine Xb 65 (congrArg vb NE) ?_
       refine Zz 30 rfl (ZQ 7 underlying26 YM) ?_
       refine Zz 31 rfl (Z8 rfl (.o 8) rfl isAgg3) ?_
       refine Zz 32 rfl (ZT RH) ?_
       refine YA 1 33 rfl ?_
       refine Xb 70 (congrArg vb M0) ?_
       refine YA 32 35 rfl ?_
       refine Vi ?_
       refine Z7 (Wz [2] [] rfl rfl ?_)
       refine Y7 ?_
       obtain rfl:=sj H
       exact Wj
      replace H:=U7 (of_decide_eq_false NE) H
      refine U3 (rp 15 0) 68 rfl ?_
      refine Zz 0 rfl (ZQ 3 underlying26 Xn) ?_
      refine Zz 1 rfl (Z8 rfl (.o 3) rfl isAgg23) ?_
      refine Tm 2 (rp 15 0) rfl (Y4 (T9 Y8 X6 :) call78 ⟨.r 2,trivial⟩) (fun _=>rfl) (fun UD=>?_)
      refine YA 0 3 rfl ?_
      refine Xb 39 (congrArg vb NY) ?_
      refine YA 0 4 rfl ?_
      refine Zz 5 rfl (ZT RH) ?_
      refine YA 1 6 rfl ?_
      refine Xb 43 (congrArg vb Nc) ?_
      refine Zz 8 rfl (ZQ 3 underlying26 Xn) ?_
      refine Zz 9 rfl (Z8 rfl (.o 3) rfl isAgg23) ?_
      refine Zz 10 rfl (ZG rfl underlying23) ?_
      refine Zz 11 rfl (ZT Sv) ?_
      refine YA 1 12 rfl ?_
      refine Xb 49 (congrArg vb Ps) ?_
      refine YA 0 14 rfl ?_
      refine Zz 15 rfl (ZT Xr) ?_
      refine YA 1 16 rfl ?_
      refine Xb 53 (congrArg vb OV) ?_
      refine Zz 18 rfl (ZQ 4 underlying26 Xe) ?_
      refine Zz 19 rfl (Z8 rfl (.o 4) rfl isAgg9) ?_
      refine Tm 20 (rp 15 1) rfl (OA rfl rfl underlying86 Yn (z:=v8 0#8) rfl rfl rfl (B:=1) rfl (by decide) (Int.le_refl _) (by decide) (by decide) (n':=32) (c':=32) rfl rfl (cs:=e8 (List.replicate 32 0#8)) (Ti (f:=v8))) (fun _=>rfl) (fun b2=>?_)
      refine JJ (rp 16 0) (rp 15 1) rfl rfl ?_
      refine Zz 21 rfl (QY rfl underlying86 underlying5 underlying9 (.o 0) h2) ?_
      refine Zz 22 rfl (ZT KX) ?_
      refine YA 1 23 rfl ?_
      refine Xb 60 (congrArg vb Ov) ?_
      refine Zz 25 rfl (ZQ 7 underlying26 YM) ?_
      refine Zz 26 rfl (Z8 rfl (.o 8) rfl isAgg3) ?_
      refine Zz 27 rfl (ZT LD) ?_
      refine YA 1 28 rfl ?_
      refine Xb 65 (congrArg vb NE) ?_
      refine YA 37 30 rfl ?_
      refine Vi ?_
      refine Z7 (Wz [2] [] rfl rfl ?_)
      refine Y7 ?_
      obtain rfl:=sj H
      exact Wj
     replace H:=U7 (of_decide_eq_false Ov) H
     refine U3 (rp 15 0) 68 rfl ?_
     refine Zz 0 rfl (ZQ 3 underlying26 Xn) ?_
     refine Zz 1 rfl (Z8 rfl (.o 3) rfl isAgg23) ?_
     refine Tm 2 (rp 15 0) rfl (Y4 (T9 Y8 X6 :) call78 ⟨.r 2,trivial⟩) (fun _=>rfl) (fun UD=>?_)
     refine YA 0 3 rfl ?_
     refine Xb 39 (congrArg vb NY) ?_
     refine YA 0 4 rfl ?_
     refine Zz 5 rfl (ZT RH) ?_
     refine YA 1 6 rfl ?_
     refine Xb 43 (congrArg vb Nc) ?_
     refine Zz 8 rfl (ZQ 3 underlying26 Xn) ?_
     refine Zz 9 rfl (Z8 rfl (.o 3) rfl isAgg23) ?_
     refine Zz 10 rfl (ZG rfl underlying23) ?_
     refine Zz 11 rfl (ZT Sv) ?_
     refine YA 1 12 rfl ?_
     refine Xb 49 (congrArg vb Ps) ?_
     refine YA 0 14 rfl ?_
     refine Zz 15 rfl (ZT Xr) ?_
     refine YA 1 16 rfl ?_
     refine Xb 53 (congrArg vb OV) ?_
     refine Zz 18 rfl (ZQ 4 underlying26 Xe) ?_
     refine Zz 19 rfl (Z8 rfl (.o 4) rfl isAgg9) ?_
     refine Tm 20 (rp 15 1) rfl (OA rfl rfl underlying86 Yn (z:=v8 0#8) rfl rfl rfl (B:=1) rfl (by decide) (Int.le_refl _) (by decide) (by decide) (n':=32) (c':=32) rfl rfl (cs:=e8 (List.replicate 32 0#8)) (Ti (f:=v8))) (fun _=>rfl) (fun b2=>?_)
     refine JJ (rp 16 0) (rp 15 1) rfl rfl ?_
     refine Zz 21 rfl (QY rfl underlying86 underlying5 underlying9 (.o 0) h2) ?_
     refine Zz 22 rfl (ZT KX) ?_
     refine YA 1 23 rfl ?_
     refine Xb 60 (congrArg vb Ov) ?_
     refine YA 42 25 rfl ?_
     refine Vi ?_
     refine Z7 (Wz [2] [] rfl rfl ?_)
     refine Y7 ?_
     obtain rfl:=sj H
     exact Wj
    replace H:=U7 (of_decide_eq_false OV) H
    refine U3 (rp 15 0) 68 rfl ?_
    refine Zz 0 rfl (ZQ 3 underlying26 Xn) ?_
    refine Zz 1 rfl (Z8 rfl (.o 3) rfl isAgg23) ?_
    refine Tm 2 (rp 15 0) rfl (Y4 (T9 Y8 X6 :) call78 ⟨.r 2,trivial⟩) (fun _=>rfl) (fun UD=>?_)
    refine YA 0 3 rfl ?_
    refine Xb 39 (congrArg vb NY) ?_
    refine YA 0 4 rfl ?_
    refine Zz 5 rfl (ZT RH) ?_
    refine YA 1 6 rfl ?_
    refine Xb 43 (congrArg vb Nc) ?_
    refine Zz 8 rfl (ZQ 3 underlying26 Xn) ?_
    refine Zz 9 rfl (Z8 rfl (.o 3) rfl isAgg23) ?_
    refine Zz 10 rfl (ZG rfl underlying23) ?_
    refine Zz 11 rfl (ZT Sv) ?_
    refine YA 1 12 rfl ?_
    refine Xb 49 (congrArg vb Ps) ?_
    refine YA 0 14 rfl ?_
    refine Zz 15 rfl (ZT Xr) ?_
    refine YA 1 16 rfl ?_
    refine Xb 53 (congrArg vb OV) ?_
    refine YA 49 18 rfl ?_
    refine Vi ?_
    refine Z7 (Wz [2] [] rfl rfl ?_)
    refine Y7 ?_
    obtain rfl:=sj H
    exact Wj
   replace H:=U7 (of_decide_eq_false Ps) H
   refine U3 (rp 15 0) 68 rfl ?_
   refine Zz 0 rfl (ZQ 3 underlying26 Xn) ?_
   refine Zz 1 rfl (Z8 rfl (.o 3) rfl isAgg23) ?_
   refine Tm 2 (rp 15 0) rfl (Y4 (T9 Y8 X6 :) call78 ⟨.r 2,trivial⟩) (fun _=>rfl) (fun UD=>?_)
   refine YA 0 3 rfl ?_
   refine Xb 39 (congrArg vb NY) ?_
   refine YA 0 4 rfl ?_
   refine Zz 5 rfl (ZT RH) ?_
   refine YA 1 6 rfl ?_
   refine Xb 43 (congrArg vb Nc) ?_
   refine Zz 8 rfl (ZQ 3 underlying26 Xn) ?_
   refine Zz 9 rfl (Z8 rfl (.o 3) rfl isAgg23) ?_
   refine Zz 10 rfl (ZG rfl underlying23) ?_
   refine Zz 11 rfl (ZT Sv) ?_
   refine YA 1 12 rfl ?_
   refine Xb 49 (congrArg vb Ps) ?_
   refine YA 53 14 rfl ?_
   refine Vi ?_
   refine Z7 (Wz [2] [] rfl rfl ?_)
   refine Y7 ?_
   obtain rfl:=sj H
   exact Wj
  replace H:=U7 (of_decide_eq_false Nc) H
  refine U3 (rp 15 0) 68 rfl ?_
  refine Zz 0 rfl (ZQ 3 underlying26 Xn) ?_
  refine Zz 1 rfl (Z8 rfl (.o 3) rfl isAgg23) ?_
  refine Tm 2 (rp 15 0) rfl (Y4 (T9 Y8 X6 :) call78 ⟨.r 2,trivial⟩) (fun _=>rfl) (fun UD=>?_)
  refine YA 0 3 rfl ?_
  refine Xb 39 (congrArg vb NY) ?_
  refine YA 0 4 rfl ?_
  refine Zz 5 rfl (ZT RH) ?_
  refine YA 1 6 rfl ?_
  refine Xb 43 (congrArg vb Nc) ?_
  refine YA 59 8 rfl ?_
  refine Vi ?_
  refine Z7 (Wz [2] [] rfl rfl ?_)
  refine Y7 ?_
  obtain rfl:=sj H
  exact Wj
 replace H:=U7 (Bool.eq_false_iff.1 NY) H
 refine U3 (rp 15 0) 68 rfl ?_
 refine Zz 0 rfl (ZQ 3 underlying26 Xn) ?_
 refine Zz 1 rfl (Z8 rfl (.o 3) rfl isAgg23) ?_
 refine Tm 2 (rp 15 0) rfl (Y4 (T9 Y8 X6 :) call78 ⟨.r 2,trivial⟩) (fun _=>rfl) (fun UD=>?_)
 refine YA 0 3 rfl ?_
 refine Xb 39 (congrArg vb NY) ?_
 refine YA 63 4 rfl ?_
 refine Vi ?_
 refine Z7 (Wz [2] [] rfl rfl ?_)
 refine Y7 ?_
 obtain rfl:=sj H
 exact Wj
end Go.Proofs
end

/-
  Part 22 of the proof of what several laws share.
-/
import Derived.Test.YtkgeoekcnlgfnaaGreatDoorKh17
import Derived.Test.YtkgeoekcnlgfnaaGreatDoorKh21
set_option maxHeartbeats 4000000
set_option maxRecDepth 20000
set_option linter.unusedVariables false
set_option linter.unusedSimpArgs false
section
namespace Go.Proofs
open Go Go.Kx
open TryzI Tryz
def XH.b0 (ZI:List (Int)) (ZB:List (Str × Str × Int × Int × Int × Int)) (s0:Int):Option ((Int) ⊕ ((Unit) ⊕ (Bool))) :=
 if s0<((ZB).length:Int) then (if 0≤s0∧s0<((ZB).length:Int) then ((Ul ((lg ZB ((s0).toNat)).2.2.1)).bind fun Zu=>((if Zu.2 ≠ 0 then (some true) else ((Yh ZI ((lg ZB ((s0).toNat)).2.2.1)).bind fun YJ=>(if (!YJ)=true then (some true) else (if (((lg ZB ((s0).toNat)).2.1).length:Int) ≠ (ZJ (Zu.1.tdiv 8)) then (some true) else (if (((lg ZB ((s0).toNat)).1).length:Int)<1 then (some true) else (if 4096<(((lg ZB ((s0).toNat)).1).length:Int) then (some true) else (if ((lg ZB ((s0).toNat)).2.2.2.1)<0 then (some true) else (if 4294967295<((lg ZB ((s0).toNat)).2.2.2.1) then (some true) else (if ((lg ZB ((s0).toNat)).2.2.2.2.1)<0 then (some true) else (if 4294967295<((lg ZB ((s0).toNat)).2.2.2.2.1) then (some true) else (if ((lg ZB ((s0).toNat)).2.2.2.2.2)<0 then (some true) else (some (decide (604800<((lg ZB ((s0).toNat)).2.2.2.2.2))))))))))))))).bind fun j2=>(if j2=true then (some (.inr (.inr false))) else (some (.inl (ZJ (s0+1))))))) else none) else (some (.inr (.inl ())))
def XH (Zm:Bool) (ZI ZR:List (Int)) (Zx:List (Str)) (Yp:Str) (Zr:List (Str)) (Zb:Str) (ZC:Int) (Y5:Str) (ZB:List (Str × Str × Int × Int × Int × Int)) (YN:Str) (Zk Ye:Int) (Zd YO:Int):Option (Bool) :=
 (if 0<((Zx).length:Int) then (some true) else (if Yp ≠ ([]:Str) then (some true) else (if Y5 ≠ ([]:Str) then (some true) else (if ZC ≠ 0 then (some true) else ((WZ Zr).bind fun X7=>(if (!X7)=true then (some true) else (if 64<((Zb).length:Int) then (some true) else (some (decide (1<((ZB).length:Int))))))))))).bind fun j1=>(if j1=true then (some false) else ((loop (XH.b0 ZI ZB) BIG 0).bind fun Yw=>(match Yw with | .inl Yw=>(some true) | .inr rv=>some rv)))
theorem qK {YZ:Y6} {Y0:Nat} {Y1:Y6} {YY:Nat} {YC:Y6} {YH:Nat} {YG:Y6} {YF:Nat} {XR:Y6} {XP:Nat} {Zm:Bool} {ZI:List (Int)} {ZR:List (Int)} {Zx:List (Str)} {Yp:Str} {Zr:List (Str)} {Zb:Str} {ZC:Int} {Y5:Str} {ZB:List (Str × Str × Int × Int × Int × Int)} {YN:Str} {Zk:Int} {Ye:Int} {Zd:Int} {YO:Int} (YV:(ZI).length≤Y0) (YD:(ZR).length≤YY) (Y8:(Zx).length≤YH) (Yq:(Zr).length≤YF) (Xk:(ZB).length≤XP) {r:Bool} (H:XH Zm ZI ZR Zx Yp Zr Zb ZC Y5 ZB YN Zk Ye Zd YO=some r) :
  Does Tryz.prog 51 [aG [(1,[vb Zm]),(1,[sl YZ ((ZI).length) Y0]),(1,[sl Y1 ((ZR).length) YY]),(1,[sl YC ((Zx).length) YH]),(1,[vs Yp]),(1,[sl YG ((Zr).length) YF]),(1,[vs Zb]),(1,[vi ZC]),(1,[vs Y5]),(1,[sl XR ((ZB).length) XP]),(1,[vs YN]),(1,[vi Zk]),(1,[vi Ye]),(1,[vi Zd]),(1,[vi YO])]] [] [⟨YZ,eI ZI⟩,⟨Y1,eI ZR⟩,⟨YC,eS Zx⟩,⟨YG,eS Zr⟩,⟨XR,eF (fun p:Str × Str × Int × Int × Int × Int=>[vs p.1,vs p.2.1,vi p.2.2.1,vi p.2.2.2.1,vi p.2.2.2.2.1,vi p.2.2.2.2.2]) ZB⟩] (Γ:=Unit) (fun g=>vb r) (fun g=>[]):=by
 intro w hmem hro hd
 refine Zn func51 rfl ntmps51 rfl hmem hro hd ?_
 unfold XH at H
 refine Z_ (YE PT (fun b1=>?_))
 refine Y2 ?_
 refine Z6 (ZY (Z_ (ZV (ZQ 3 underlying26 Xn) ?_)))
 refine ZV (Z8 rfl (.o 3) rfl isAgg23) ?_
 refine ZV (ZG rfl underlying23) ?_
 refine ZV (ZT Sv) ?_
 refine YP ?_
 have ⟨j1,Hj,H⟩:=Z9 H
 refine VH (Γ:=Unit) (fun Sc=>[(1,ptr (some (b1,0)) 0),(43,vb j1)]) (fun Sc=>[⟨some (b1,0),[vb Zm]⟩,⟨some (b1,1),[sl YZ ((ZI).length) Y0]⟩,⟨some (b1,2),[sl Y1 ((ZR).length) YY]⟩,⟨some (b1,3),[sl YC ((Zx).length) YH]⟩,⟨some (b1,4),[vs Yp]⟩,⟨some (b1,5),[sl YG ((Zr).length) YF]⟩,⟨some (b1,6),[vs Zb]⟩,⟨some (b1,7),[vi ZC]⟩,⟨some (b1,8),[vs Y5]⟩,⟨some (b1,9),[sl XR ((ZB).length) XP]⟩,⟨some (b1,10),[vs YN]⟩,⟨some (b1,11),[vi Zk]⟩,⟨some (b1,12),[vi Ye]⟩,⟨some (b1,13),[vi Zd]⟩,⟨some (b1,14),[vi YO]⟩]) ?_ ?_
 ·intro Sc
  refine Z7 (Sn H (fun hc H=>?_) (fun hc H=>?_))
  ·refine Z_ (Y2 ?_)
   refine Zq (ZZ ?_)
   obtain rfl:=sj H
   exact Wj
  refine ZN (Z7 (ZY (Z_ (Y2 ?_))))
  refine Z6 (ZP ?_)
  have ⟨Yw,Hl,H⟩:=Z9 H
  refine Wz [1,3] (rp 15 0) rfl rfl ?_
  refine U0 (id:=0) (body:=(XH.b0 ZI ZB)) (σ:=Int) (Γ:=Unit) (Γx:=Unit) (fun s0 WG=>[(1,ptr (some (b1,0)) 0),(3,vi s0)]) (fun s0 WG=>[⟨some (b1,0),[vb Zm]⟩,⟨some (b1,1),[sl YZ ((ZI).length) Y0]⟩,⟨some (b1,2),[sl Y1 ((ZR).length) YY]⟩,⟨some (b1,3),[sl YC ((Zx).length) YH]⟩,⟨some (b1,4),[vs Yp]⟩,⟨some (b1,5),[sl YG ((Zr).length) YF]⟩,⟨some (b1,6),[vs Zb]⟩,⟨some (b1,7),[vi ZC]⟩,⟨some (b1,8),[vs Y5]⟩,⟨some (b1,9),[sl XR ((ZB).length) XP]⟩,⟨some (b1,10),[vs YN]⟩,⟨some (b1,11),[vi Zk]⟩,⟨some (b1,12),[vi Ye]⟩,⟨some (b1,13),[vi Zd]⟩,⟨some (b1,14),[vi YO]⟩]) (fun t g=>[]) (fun t g=>[]) r ?_ BIG 0 () Yw Hl ?_
  ·intro s0 WG r1 H K hK hE MK
   unfold XH.b0 at H
   refine ZY (Z_ (YP ?_))
   refine ZV (ZQ 9 underlying26 R6) ?_
   refine ZV (Z8 rfl (.o 9) rfl isAgg24) ?_
   refine ZV (ZG rfl underlying24) ?_
   refine ZV (ZT WV) ?_
   refine Z6 (UK H (fun hc H=>?_) (fun hc H=>?_))
   ·refine ZN (Z7 (ZY (ZP (Z_ (ZV (ZQ 9 underlying26 R6) ?_)))))
    refine ZV (Z8 rfl (.o 9) rfl isAgg24) ?_
    refine YP ?_
    have ⟨h1,H⟩:=Z4 H
    refine ZV (YK (i:=s0) rfl rfl underlying24 Ut rfl (.r 4) (VC (s:=6) (fun _=>rfl) rfl (tl h1)) h1.1 h1.2 (k:=((s0).toNat) * 6) rfl) ?_
    refine ZV (UE (n:=6) (ds:=[vs ((lg ZB ((s0).toNat)).1),vs ((lg ZB ((s0).toNat)).2.1),vi ((lg ZB ((s0).toNat)).2.2.1),vi ((lg ZB ((s0).toNat)).2.2.2.1),vi ((lg ZB ((s0).toNat)).2.2.2.2.1),vi ((lg ZB ((s0).toNat)).2.2.2.2.2)]) rfl (.r 4) (RJ (g:=fun p:Str × Str × Int × Int × Int × Int=>[vs p.1,vs p.2.1,vi p.2.2.1,vi p.2.2.2.1,vi p.2.2.2.2.1,vi p.2.2.2.2.2]) (s:=6) (fun _=>rfl) ZB ((s0).toNat) (tl h1)) rfl rfl isAgg57 Ut rfl) ?_
    refine YE (SL Ut Fx) (fun b2=>?_)
    refine VM (za (b:=b2) (o:=0) (ns:=[(1,[vs ((lg ZB ((s0).toNat)).1)]),(1,[vs ((lg ZB ((s0).toNat)).2.1)]),(1,[vi ((lg ZB ((s0).toNat)).2.2.1)]),(1,[vi ((lg ZB ((s0).toNat)).2.2.2.1)]),(1,[vi ((lg ZB ((s0).toNat)).2.2.2.2.1)]),(1,[vi ((lg ZB ((s0).toNat)).2.2.2.2.2)])]) [0,0,0,0,0,0] [(1,_),(1,_),(1,_),(1,_),(1,_),(1,_)] rfl Ut) (fun _=>?_)
    refine Z6 (Z_ (ZV (ZQ 2 underlying57 YM) ?_))
    refine ZV (Z8 rfl (.o 2) rfl isAgg3) ?_
    have ⟨Zu,Yk,H⟩:=Z9 H
    refine YE (Y4 (Gl Yk :) call42 .z) (fun Re=>?_)
    refine Zj 5 rfl ?_
    refine Z6 (Wz [1,3,4,5,6] (rp 15 6++rp 6 0) rfl rfl ?_)
    refine Z_ (YP ?_)
    refine ZV (ZT SN) ?_
    refine YP ?_
    have ⟨j2,Hj,H⟩:=Z9 H
    refine VH (Γ:=Unit) (fun sQ=>[(1,ptr (some (b1,0)) 0),(3,vi s0),(121,vb j2)]) (fun sQ=>[⟨some (b1,0),[vb Zm]⟩,⟨some (b1,1),[sl YZ ((ZI).length) Y0]⟩,⟨some (b1,2),[sl Y1 ((ZR).length) YY]⟩,⟨some (b1,3),[sl YC ((Zx).length) YH]⟩,⟨some (b1,4),[vs Yp]⟩,⟨some (b1,5),[sl YG ((Zr).length) YF]⟩,⟨some (b1,6),[vs Zb]⟩,⟨some (b1,7),[vi ZC]⟩,⟨some (b1,8),[vs Y5]⟩,⟨some (b1,9),[sl XR ((ZB).length) XP]⟩,⟨some (b1,10),[vs YN]⟩,⟨some (b1,11),[vi Zk]⟩,⟨some (b1,12),[vi Ye]⟩,⟨some (b1,13),[vi Zd]⟩,⟨some (b1,14),[vi YO]⟩]) ?_ ?_
    ·intro sQ
     refine Z7 (Sn H (fun hc H=>?_) (fun hc H=>?_))
     ·refine Z_ (Y2 ?_)
      refine Zq (ZE (ZZ (ZZ (ZE (ZZ ?_)))))
      have M3:=(MK _ (Option.some.inj H).symm)
      subst M3
      exact Wj
     refine ZN (ZW (Z7 (ZH (YP ?_))))
     refine ZV (ZT XN) ?_
     refine Y2 ?_
     refine ZK ?_
     obtain rfl:=sj H
     exact Ri (rp 15 0) (hK (ZJ (s0+1)) rfl ())
    intro hJ
    replace H:=Hj
    refine Td (d:=64) H (fun hc H=>?_) (fun hc H=>?_)
    ·refine Zj 57 rfl ?_
     refine ZK ?_
     obtain rfl:=sj H
     exact WW (rp 15 0) (hJ ())
    refine Zc (ZQ 1 underlying26 XO) ?_
    refine Zc (Z8 rfl (.o 1) rfl isAgg22) ?_
    refine Zc (ZQ 2 underlying57 YM) ?_
    refine Zc (Z8 rfl (.o 17) rfl isAgg3) ?_
    have ⟨YJ,X6,H⟩:=Z9 H
    refine JQ (Y4 (PI YV X6 :) call35 ⟨.r 0,trivial⟩) (fun UD=>?_)
    refine Zc (UF T_) ?_
    refine Zj 2 rfl ?_
    refine Mg (d:=72) H (fun hc H=>?_) (fun hc H=>?_)
    ·refine Zj 49 rfl ?_
     refine ZK ?_
     obtain rfl:=sj H
     exact WW (rp 15 0) (hJ ())
    refine Zc (ZQ 1 underlying57 Xe) ?_
    refine Zc (Z8 rfl (.o 16) rfl isAgg9) ?_
    refine Zc (Zf rfl underlying9) ?_
    refine Zc (ZO rfl) ?_
    refine Zc (Zg rfl rfl (fun w=>Lh w Zu.1 8 (by decide))) ?_
    refine Zc (ZT SN) ?_
    refine Zj 2 rfl ?_
    refine Td (d:=80) H (fun hc H=>?_) (fun hc H=>?_)
    ·refine Zj 41 rfl ?_
     refine ZK ?_
     obtain rfl:=sj H
     exact WW (rp 15 0) (hJ ())
    refine Zc (ZQ 0 underlying57 Xe) ?_
    refine Zc (Z8 rfl (.o 15) rfl isAgg9) ?_
    refine Zc (Zf rfl underlying9) ?_
    refine Zc (ZT WV) ?_
    refine Zj 2 rfl ?_
    refine Td (d:=86) H (fun hc H=>?_) (fun hc H=>?_)
    ·refine Zj 35 rfl ?_
     refine ZK ?_
     obtain rfl:=sj H
     exact WW (rp 15 0) (hJ ())
    refine Zc (ZQ 0 underlying57 Xe) ?_
    refine Zc (Z8 rfl (.o 15) rfl isAgg9) ?_
    refine Zc (Zf rfl underlying9) ?_
    refine Zc (ZT Sv) ?_
    refine Zj 2 rfl ?_
    refine Td (d:=92) H (fun hc H=>?_) (fun hc H=>?_)
    ·refine Zj 29 rfl ?_
     refine ZK ?_
     obtain rfl:=sj H
     exact WW (rp 15 0) (hJ ())
    refine Zc (ZQ 3 underlying57 YM) ?_
    refine Zc (Z8 rfl (.o 18) rfl isAgg3) ?_
    refine Zc (ZT WV) ?_
    refine Zj 2 rfl ?_
    refine Td (d:=97) H (fun hc H=>?_) (fun hc H=>?_)
    ·refine Zj 24 rfl ?_
     refine ZK ?_
     obtain rfl:=sj H
     exact WW (rp 15 0) (hJ ())
    refine Zc (ZQ 3 underlying57 YM) ?_
    refine Zc (Z8 rfl (.o 18) rfl isAgg3) ?_
    refine Zc (ZT Sv) ?_
    refine Zj 2 rfl ?_
    refine Td (d:=102) H (fun hc H=>?_) (fun hc H=>?_)
    ·refine Zj 19 rfl ?_
     refine ZK ?_
     obtain rfl:=sj H
     exact WW (rp 15 0) (hJ ())
    refine Zc (ZQ 4 underlying57 YM) ?_
    refine Zc (Z8 rfl (.o 19) rfl isAgg3) ?_
    refine Zc (ZT WV) ?_
    refine Zj 2 rfl ?_
    refine Td (d:=107) H (fun hc H=>?_) (fun hc H=>?_)
    ·refine Zj 14 rfl ?_
     refine ZK ?_
     obtain rfl:=sj H
     exact WW (rp 15 0) (hJ ())
    refine Zc (ZQ 4 underlying57 YM) ?_
    refine Zc (Z8 rfl (.o 19) rfl isAgg3) ?_
    refine Zc (ZT Sv) ?_
    refine Zj 2 rfl ?_
    refine Td (d:=112) H (fun hc H=>?_) (fun hc H=>?_)
    ·refine Zj 9 rfl ?_
     refine ZK ?_
     obtain rfl:=sj H
     exact WW (rp 15 0) (hJ ())
    refine Zc (ZQ 5 underlying57 YM) ?_
    refine Zc (Z8 rfl (.o 20) rfl isAgg3) ?_
    refine Zc (ZT WV) ?_
    refine Zj 2 rfl ?_
    refine Td (d:=117) H (fun hc H=>?_) (fun hc H=>?_)
    ·refine Zj 4 rfl ?_
     refine ZK ?_
     obtain rfl:=sj H
     exact WW (rp 15 0) (hJ ())
    refine Zc (ZQ 5 underlying57 YM) ?_
    refine Zc (Z8 rfl (.o 20) rfl isAgg3) ?_
    refine Zc (ZT Sv) ?_
    refine FE ?_
    refine ZK ?_
    obtain rfl:=sj H
    exact WW (rp 15 0) (hJ ())
   refine YW (Z0 (Z0 ?_))
   obtain rfl:=sj H
   exact WW [] (hE () rfl ())
  rcases Yw with Yw | rv
  ·intro Fe
   dsimp only at H
   refine ZL (Z7 (Z_ (Y2 ?_)))
   refine Zq ?_
   obtain rfl:=sj H
   exact Wj
  exact (Option.some.inj H)
 intro hJ
 replace H:=Hj
 refine Td (d:=11) H (fun hc H=>?_) (fun hc H=>?_)
 ·refine Zj 32 rfl ?_
  refine ZK ?_
  obtain rfl:=sj H
  exact WW (rp 15 0) (hJ ())
 refine Zc (ZQ 4 underlying26 Xe) ?_
 refine Zc (Z8 rfl (.o 4) rfl isAgg9) ?_
 refine Zc (Zg rfl rfl (fun w=>KX w Yp ([]:Str))) ?_
 refine Zj 2 rfl ?_
 refine Td (d:=16) H (fun hc H=>?_) (fun hc H=>?_)
 ·refine Zj 27 rfl ?_
  refine ZK ?_
  obtain rfl:=sj H
  exact WW (rp 15 0) (hJ ())
 refine Zc (ZQ 8 underlying26 Xe) ?_
 refine Zc (Z8 rfl (.o 8) rfl isAgg9) ?_
 refine Zc (Zg rfl rfl (fun w=>KX w Y5 ([]:Str))) ?_
 refine Zj 2 rfl ?_
 refine Td (d:=21) H (fun hc H=>?_) (fun hc H=>?_)
 ·refine Zj 22 rfl ?_
  refine ZK ?_
  obtain rfl:=sj H
  exact WW (rp 15 0) (hJ ())
 refine Zc (ZQ 7 underlying26 YM) ?_
 refine Zc (Z8 rfl (.o 7) rfl isAgg3) ?_
 refine Zc (ZT SN) ?_
 refine Zj 2 rfl ?_
 refine Td (d:=26) H (fun hc H=>?_) (fun hc H=>?_)
 ·refine Zj 17 rfl ?_
  refine ZK ?_
  obtain rfl:=sj H
  exact WW (rp 15 0) (hJ ())
 refine Zc (ZQ 5 underlying26 Xn) ?_
 refine Zc (Z8 rfl (.o 5) rfl isAgg23) ?_
 have ⟨X7,Vt,H⟩:=Z9 H
 refine JQ (Y4 (T9 Yq Vt :) call78 ⟨.r 3,trivial⟩) (fun Pm=>?_)
 refine Zc (UF T_) ?_
 refine Zj 2 rfl ?_
 refine Mg (d:=32) H (fun hc H=>?_) (fun hc H=>?_)
 ·refine Zj 11 rfl ?_
  refine ZK ?_
  obtain rfl:=sj H
  exact WW (rp 15 0) (hJ ())
 refine Zc (ZQ 6 underlying26 Xe) ?_
 refine Zc (Z8 rfl (.o 6) rfl isAgg9) ?_
 refine Zc (Zf rfl underlying9) ?_
 refine Zc (ZT Sv) ?_
 refine Zj 2 rfl ?_
 refine Td (d:=38) H (fun hc H=>?_) (fun hc H=>?_)
 ·refine Zj 5 rfl ?_
  refine ZK ?_
  obtain rfl:=sj H
  exact WW (rp 15 0) (hJ ())
 refine Zc (ZQ 9 underlying26 R6) ?_
 refine Zc (Z8 rfl (.o 9) rfl isAgg24) ?_
 refine Zc (ZG rfl underlying24) ?_
 refine Zc (ZT Sv) ?_
 refine FE ?_
 refine ZK ?_
 obtain rfl:=sj H
 exact WW (rp 15 0) (hJ ())
def Ty (Zm:Bool) (ZI ZR:List (Int)) (Zx:List (Str)) (Yp:Str) (Zr:List (Str)) (Zb:Str) (ZC:Int) (Y5:Str) (ZB:List (Str × Str × Int × Int × Int × Int)) (YN:Str) (Zk Ye:Int) (Zd YO:Int):Option (Bool) :=
 if (([4865,4866,4867]:List (Int))).length=3 then ((WE ZI ([4865,4866,4867]:List (Int))).bind fun Zu=>((if (!Zu)=true then (some true) else (if (([29,23]:List (Int))).length=2 then ((WE ZR ([29,23]:List (Int))).bind fun Xu=>(if (!Xu)=true then (some true) else (if Zk<0 then (some true) else (if 4294967295<Zk then (some true) else (if Ye<0 then (some true) else (if 16384<Ye then (some true) else (if Zd<4 then (some true) else (if 16777216<Zd then (some true) else (if YO<33290 then (some true) else (if 262144<YO then (some true) else (some (decide (65536<((YN).length:Int)))))))))))))) else none)).bind fun j1=>(if j1=true then (some false) else (if Zm=true then ((XJ Zm ZI ZR Zx Yp Zr Zb ZC Y5 ZB YN Zk Ye Zd YO).bind fun YJ=>(some YJ)) else ((XH Zm ZI ZR Zx Yp Zr Zb ZC Y5 ZB YN Zk Ye Zd YO).bind fun X7=>(some X7)))))) else none
theorem Ox {YZ:Y6} {Y0:Nat} {Y1:Y6} {YY:Nat} {YC:Y6} {YH:Nat} {YG:Y6} {YF:Nat} {XR:Y6} {XP:Nat} {Zm:Bool} {ZI:List (Int)} {ZR:List (Int)} {Zx:List (Str)} {Yp:Str} {Zr:List (Str)} {Zb:Str} {ZC:Int} {Y5:Str} {ZB:List (Str × Str × Int × Int × Int × Int)} {YN:Str} {Zk:Int} {Ye:Int} {Zd:Int} {YO:Int} (YV:(ZI).length≤Y0) (YD:(ZR).length≤YY) (Y8:(Zx).length≤YH) (Yq:(Zr).length≤YF) (Xk:(ZB).length≤XP) {r:Bool} (H:Ty Zm ZI ZR Zx Yp Zr Zb ZC Y5 ZB YN Zk Ye Zd YO=some r) :
  Does Tryz.prog 17 [aG [(1,[vb Zm]),(1,[sl YZ ((ZI).length) Y0]),(1,[sl Y1 ((ZR).length) YY]),(1,[sl YC ((Zx).length) YH]),(1,[vs Yp]),(1,[sl YG ((Zr).length) YF]),(1,[vs Zb]),(1,[vi ZC]),(1,[vs Y5]),(1,[sl XR ((ZB).length) XP]),(1,[vs YN]),(1,[vi Zk]),(1,[vi Ye]),(1,[vi Zd]),(1,[vi YO])]] [] [⟨YZ,eI ZI⟩,⟨Y1,eI ZR⟩,⟨YC,eS Zx⟩,⟨YG,eS Zr⟩,⟨XR,eF (fun p:Str × Str × Int × Int × Int × Int=>[vs p.1,vs p.2.1,vi p.2.2.1,vi p.2.2.2.1,vi p.2.2.2.2.1,vi p.2.2.2.2.2]) ZB⟩] (Γ:=Unit) (fun g=>vb r) (fun g=>[]):=by
 intro w hmem hro hd
 refine Zn func17 rfl ntmps17 rfl hmem hro hd ?_
 unfold Ty at H
 refine Z_ (YE PT (fun b1=>?_))
 refine Y2 ?_
 refine Z6 (ZY (Z_ (ZV (ZQ 1 underlying26 XO) ?_)))
 refine ZV (Z8 rfl (.o 1) rfl isAgg22) ?_
 refine YE (Ya (pv:=[(0,vi 4865),(1,vi 4866),(2,vi 4867)]) rfl rfl underlying22 YM (s:=1) rfl LG rfl rfl rfl (cs:=eI ([4865,4866,4867]:List (Int))) (by kernel_rfl)) (fun b2=>?_)
 have ⟨h1,H⟩:=Z4 H
 refine WN 5 (congrArg (fun n=>sl (some (b2,0)) n n) h1.symm) ?_
 have ⟨Zu,Yk,H⟩:=Z9 H
 refine YE (Y4 (Ch YV (Nat.le_refl _) Yk :) call49 ⟨.r 0, .o 0,trivial⟩) (fun Re=>?_)
 refine ZV (UF T_) ?_
 refine YP ?_
 have ⟨j1,Hj,H⟩:=Z9 H
 refine VH (Γ:=Unit) (fun Sc=>[(1,ptr (some (b1,0)) 0),(60,vb j1)]) (fun Sc=>[⟨some (b1,0),[vb Zm]⟩,⟨some (b1,1),[sl YZ ((ZI).length) Y0]⟩,⟨some (b1,2),[sl Y1 ((ZR).length) YY]⟩,⟨some (b1,3),[sl YC ((Zx).length) YH]⟩,⟨some (b1,4),[vs Yp]⟩,⟨some (b1,5),[sl YG ((Zr).length) YF]⟩,⟨some (b1,6),[vs Zb]⟩,⟨some (b1,7),[vi ZC]⟩,⟨some (b1,8),[vs Y5]⟩,⟨some (b1,9),[sl XR ((ZB).length) XP]⟩,⟨some (b1,10),[vs YN]⟩,⟨some (b1,11),[vi Zk]⟩,⟨some (b1,12),[vi Ye]⟩,⟨some (b1,13),[vi Zd]⟩,⟨some (b1,14),[vi YO]⟩]) ?_ ?_
 ·intro Sc
  refine Z7 (Sn H (fun hc H=>?_) (fun hc H=>?_))
  ·refine Z_ (Y2 ?_)
   refine Zq (ZZ ?_)
   obtain rfl:=sj H
   exact Wj
  refine ZN (Z7 (ZY (Z_ (ZV (ZQ 0 underlying26 MS) ?_))))
  refine ZV (Z8 rfl (.o 0) rfl isAgg4) ?_
  refine Z6 (Sn H (fun hc H=>?_) (fun hc H=>?_))
  ·refine Z_ (ZV (VY [0,1,2,3,4,5,6,7,8,9,10,11,12,13,14] rfl rfl isAgg26 We) ?_)
   have ⟨YJ,X6,H⟩:=Z9 H
   refine YE (Y4 (ry YV YD Y8 Yq Xk X6 :) call50 ⟨.r 0, .r 1, .r 2, .r 3, .r 4,trivial⟩) (fun UD=>?_)
   refine Y2 ?_
   refine Zq (ZZ ?_)
   obtain rfl:=sj H
   exact Wj
  refine ZN (Z7 (Z_ (ZV (VY [0,1,2,3,4,5,6,7,8,9,10,11,12,13,14] rfl rfl isAgg26 We) ?_)))
  have ⟨X7,Vt,H⟩:=Z9 H
  refine YE (Y4 (qK YV YD Y8 Yq Xk Vt :) call51 ⟨.r 0, .r 1, .r 2, .r 3, .r 4,trivial⟩) (fun Pm=>?_)
  refine Y2 ?_
  refine Zq ?_
  obtain rfl:=sj H
  exact Wj
 intro hJ
 replace H:=Hj
 refine Mg (d:=8) H (fun hc H=>?_) (fun hc H=>?_)
 ·refine Zj 52 rfl ?_
  refine ZK ?_
  obtain rfl:=sj H
  exact WW (rp 15 1) (hJ ())
 refine Zc (ZQ 2 underlying26 XO) ?_
 refine Zc (Z8 rfl (.o 3) rfl isAgg22) ?_
 refine JQ (Ya (pv:=[(0,vi 29),(1,vi 23)]) rfl rfl underlying22 YM (s:=1) rfl LG rfl rfl rfl (cs:=eI ([29,23]:List (Int))) (by kernel_rfl)) (fun b3=>?_)
 have ⟨h2,H⟩:=Z4 H
 refine WN 11 (congrArg (fun n=>sl (some (b3,0)) n n) h2.symm) ?_
 have ⟨Xu,UH,H⟩:=Z9 H
 refine JQ (Y4 (Ch YD (Nat.le_refl _) UH :) call49 ⟨.r 1, .o 0,trivial⟩) (fun JV=>?_)
 refine Zc (UF T_) ?_
 refine Zj 2 rfl ?_
 refine Mg (d:=15) H (fun hc H=>?_) (fun hc H=>?_)
 ·refine Zj 45 rfl ?_
  refine ZK ?_
  obtain rfl:=sj H
  exact WW (rp 15 2) (hJ ())
 refine Zc (ZQ 11 underlying26 YM) ?_
 refine Zc (Z8 rfl (.o 13) rfl isAgg3) ?_
 refine Zc (ZT WV) ?_
 refine Zj 2 rfl ?_
 refine Td (d:=20) H (fun hc H=>?_) (fun hc H=>?_)
 ·refine Zj 40 rfl ?_
  refine ZK ?_
  obtain rfl:=sj H
  exact WW (rp 15 2) (hJ ())
 refine Zc (ZQ 11 underlying26 YM) ?_
 refine Zc (Z8 rfl (.o 13) rfl isAgg3) ?_
 refine Zc (ZT Sv) ?_
 refine Zj 2 rfl ?_
 refine Td (d:=25) H (fun hc H=>?_) (fun hc H=>?_)
 ·refine Zj 35 rfl ?_
  refine ZK ?_
  obtain rfl:=sj H
  exact WW (rp 15 2) (hJ ())
 refine Zc (ZQ 12 underlying26 YM) ?_
 refine Zc (Z8 rfl (.o 14) rfl isAgg3) ?_
 refine Zc (ZT WV) ?_
 refine Zj 2 rfl ?_
 refine Td (d:=30) H (fun hc H=>?_) (fun hc H=>?_)
 ·refine Zj 30 rfl ?_
  refine ZK ?_
  obtain rfl:=sj H
  exact WW (rp 15 2) (hJ ())
 refine Zc (ZQ 12 underlying26 YM) ?_
 refine Zc (Z8 rfl (.o 14) rfl isAgg3) ?_
 refine Zc (ZT Sv) ?_
 refine Zj 2 rfl ?_
 refine Td (d:=35) H (fun hc H=>?_) (fun hc H=>?_)
 ·refine Zj 25 rfl ?_
  refine ZK ?_
  obtain rfl:=sj H
  exact WW (rp 15 2) (hJ ())
 refine Zc (ZQ 13 underlying26 YM) ?_
 refine Zc (Z8 rfl (.o 15) rfl isAgg3) ?_
 refine Zc (ZT WV) ?_
 refine Zj 2 rfl ?_
 refine Td (d:=40) H (fun hc H=>?_) (fun hc H=>?_)
 ·refine Zj 20 rfl ?_
  refine ZK ?_
  obtain rfl:=sj H
  exact WW (rp 15 2) (hJ ())
 refine Zc (ZQ 13 underlying26 YM) ?_
 refine Zc (Z8 rfl (.o 15) rfl isAgg3) ?_
 refine Zc (ZT Sv) ?_
 refine Zj 2 rfl ?_
 refine Td (d:=45) H (fun hc H=>?_) (fun hc H=>?_)
 ·refine Zj 15 rfl ?_
  refine ZK ?_
  obtain rfl:=sj H
  exact WW (rp 15 2) (hJ ())
 refine Zc (ZQ 14 underlying26 YM) ?_
 refine Zc (Z8 rfl (.o 16) rfl isAgg3) ?_
 refine Zc (ZT WV) ?_
 refine Zj 2 rfl ?_
 refine Td (d:=50) H (fun hc H=>?_) (fun hc H=>?_)
 ·refine Zj 10 rfl ?_
  refine ZK ?_
  obtain rfl:=sj H
  exact WW (rp 15 2) (hJ ())
 refine Zc (ZQ 14 underlying26 YM) ?_
 refine Zc (Z8 rfl (.o 16) rfl isAgg3) ?_
 refine Zc (ZT Sv) ?_
 refine Zj 2 rfl ?_
 refine Td (d:=55) H (fun hc H=>?_) (fun hc H=>?_)
 ·refine Zj 5 rfl ?_
  refine ZK ?_
  obtain rfl:=sj H
  exact WW (rp 15 2) (hJ ())
 refine Zc (ZQ 10 underlying26 Xe) ?_
 refine Zc (Z8 rfl (.o 12) rfl isAgg9) ?_
 refine Zc (Zf rfl underlying9) ?_
 refine Zc (ZT Sv) ?_
 refine FE ?_
 refine ZK ?_
 obtain rfl:=sj H
 exact WW (rp 15 2) (hJ ())
def Wu (Zm:Bool) (ZI ZR:List (Int)) (Zx:List (Str)) (Yp:Str) (Zr:List (Str)) (Zb:Str) (ZC:Int) (Y5:Str) (ZB:List (Str × Str × Int × Int × Int × Int)) (YN:Str) (Zk Ye:Int) (Zd YO:Int):Option (Bool) :=
 if ((ZB).length:Int)=1 then (if 0≤(0:Int)∧(0:Int)<((ZB).length:Int) then (if ((lg ZB 0).2.2.2.2.1)≤Zk then (if 0≤(0:Int)∧(0:Int)<((ZB).length:Int) then (if 0≤(0:Int)∧(0:Int)<((ZB).length:Int) then (X5 (decide ((ZJ (Zk - ((lg ZB 0).2.2.2.2.1)))≤((lg ZB 0).2.2.2.2.2))) fun x1=>(some x1)) else none) else none) else (some false)) else none) else (some false)
theorem rH {YZ:Y6} {Y0:Nat} {Y1:Y6} {YY:Nat} {YC:Y6} {YH:Nat} {YG:Y6} {YF:Nat} {XR:Y6} {XP:Nat} {Zm:Bool} {ZI:List (Int)} {ZR:List (Int)} {Zx:List (Str)} {Yp:Str} {Zr:List (Str)} {Zb:Str} {ZC:Int} {Y5:Str} {ZB:List (Str × Str × Int × Int × Int × Int)} {YN:Str} {Zk:Int} {Ye:Int} {Zd:Int} {YO:Int} (YV:(ZI).length≤Y0) (YD:(ZR).length≤YY) (Y8:(Zx).length≤YH) (Yq:(Zr).length≤YF) (Xk:(ZB).length≤XP) {r:Bool} (H:Wu Zm ZI ZR Zx Yp Zr Zb ZC Y5 ZB YN Zk Ye Zd YO=some r) :
  Does Tryz.prog 41 [aG [(1,[vb Zm]),(1,[sl YZ ((ZI).length) Y0]),(1,[sl Y1 ((ZR).length) YY]),(1,[sl YC ((Zx).length) YH]),(1,[vs Yp]),(1,[sl YG ((Zr).length) YF]),(1,[vs Zb]),(1,[vi ZC]),(1,[vs Y5]),(1,[sl XR ((ZB).length) XP]),(1,[vs YN]),(1,[vi Zk]),(1,[vi Ye]),(1,[vi Zd]),(1,[vi YO])]] [] [⟨YZ,eI ZI⟩,⟨Y1,eI ZR⟩,⟨YC,eS Zx⟩,⟨YG,eS Zr⟩,⟨XR,eF (fun p:Str × Str × Int × Int × Int × Int=>[vs p.1,vs p.2.1,vi p.2.2.1,vi p.2.2.2.1,vi p.2.2.2.2.1,vi p.2.2.2.2.2]) ZB⟩] (Γ:=Unit) (fun g=>vb r) (fun g=>[]):=by
 intro w hmem hro hd
 refine Zn func41 rfl ntmps41 rfl hmem hro hd ?_
 unfold Wu at H
 refine Z_ (YE PT (fun b1=>?_))
 refine Y2 ?_
 refine Z6 (ZY (UI (decide (((ZB).length:Int)=1)) (fun Cy=>?_) (fun Cy=>?_)))
 ·replace H:=U8 (of_decide_eq_true Cy) H
  have ⟨h1,H⟩:=Z4 H
  refine UI (decide (((lg ZB 0).2.2.2.2.1)≤Zk)) (fun Dj=>?_) (fun Dj=>?_)
  ·replace H:=U8 (of_decide_eq_true Dj) H
   have ⟨h2,H⟩:=Z4 H
   have ⟨h3,H⟩:=Z4 H
   have ⟨x1,TK,H⟩:=ZX H
   refine U3 (rp 15 0) 31 rfl ?_
   refine Zz 0 rfl (ZQ 9 underlying26 R6) ?_
   refine Zz 1 rfl (Z8 rfl (.o 9) rfl isAgg24) ?_
   refine Zz 2 rfl (ZG rfl underlying24) ?_
   refine Zz 3 rfl (ZT Xr) ?_
   refine YA 0 4 rfl ?_
   refine Xb 7 (congrArg vb Cy) ?_
   refine Zz 5 rfl (ZQ 9 underlying26 R6) ?_
   refine Zz 6 rfl (Z8 rfl (.o 9) rfl isAgg24) ?_
   refine Zz 7 rfl (YK (i:=0) rfl rfl underlying24 Ut rfl (.r 4) (VC (s:=6) (fun _=>rfl) rfl (tl h1)) h1.1 h1.2 (k:=0 * 6) rfl) ?_
   refine Zz 8 rfl (Vk rfl underlying57 rfl (k:=4) rfl YM rfl) ?_
   refine Zz 9 rfl (Z8 rfl (.r 4) ((UM (g:=fun p:Str × Str × Int × Int × Int × Int=>[vs p.1,vs p.2.1,vi p.2.2.1,vi p.2.2.2.1,vi p.2.2.2.2.1,vi p.2.2.2.2.2]) (s:=6) (fun _=>rfl) ZB 0 4 (tl h1) (by decide:4<6)).trans rfl) isAgg3) ?_
   refine Zz 10 rfl (ZQ 11 underlying26 YM) ?_
   refine Zz 11 rfl (Z8 rfl (.o 11) rfl isAgg3) ?_
   refine Zz 12 rfl (ZT RH) ?_
   refine YA 1 13 rfl ?_
   refine Xb 17 (congrArg vb Dj) ?_
   refine Zz 15 rfl (ZQ 11 underlying26 YM) ?_
   refine Zz 16 rfl (Z8 rfl (.o 11) rfl isAgg3) ?_
   refine Zz 17 rfl (ZQ 9 underlying26 R6) ?_
   refine Zz 18 rfl (Z8 rfl (.o 9) rfl isAgg24) ?_
   refine Zz 19 rfl (YK (i:=0) rfl rfl underlying24 Ut rfl (.r 4) (VC (s:=6) (fun _=>rfl) rfl (tl h2)) h2.1 h2.2 (k:=0 * 6) rfl) ?_
   refine Zz 20 rfl (Vk rfl underlying57 rfl (k:=4) rfl YM rfl) ?_
   refine Zz 21 rfl (Z8 rfl (.r 4) ((UM (g:=fun p:Str × Str × Int × Int × Int × Int=>[vs p.1,vs p.2.1,vi p.2.2.1,vi p.2.2.2.1,vi p.2.2.2.2.1,vi p.2.2.2.2.2]) (s:=6) (fun _=>rfl) ZB 0 4 (tl h2) (by decide:4<6)).trans rfl) isAgg3) ?_
   refine Zz 22 rfl (ZT OX) ?_
   refine Zz 23 rfl (ZQ 9 underlying26 R6) ?_
   refine Zz 24 rfl (Z8 rfl (.o 9) rfl isAgg24) ?_
   refine Zz 25 rfl (YK (i:=0) rfl rfl underlying24 Ut rfl (.r 4) (VC (s:=6) (fun _=>rfl) rfl (tl h3)) h3.1 h3.2 (k:=0 * 6) rfl) ?_
   refine Zz 26 rfl (Vk rfl underlying57 rfl (k:=5) rfl YM rfl) ?_
   refine Zz 27 rfl (Z8 rfl (.r 4) ((UM (g:=fun p:Str × Str × Int × Int × Int × Int=>[vs p.1,vs p.2.1,vi p.2.2.1,vi p.2.2.2.1,vi p.2.2.2.2.1,vi p.2.2.2.2.2]) (s:=6) (fun _=>rfl) ZB 0 5 (tl h3) (by decide:5<6)).trans rfl) isAgg3) ?_
   refine Zz 28 rfl (ZT RH) ?_
   refine YA 1 29 rfl ?_
   refine Xb 2 (congrArg vb TK) ?_
   refine Vi ?_
   refine Z7 (Wz [2] [] rfl rfl ?_)
   refine Y7 ?_
   obtain rfl:=sj H
   exact Wj
  replace H:=U7 (of_decide_eq_false Dj) H
  refine U3 (rp 15 0) 31 rfl ?_
  refine Zz 0 rfl (ZQ 9 underlying26 R6) ?_
  refine Zz 1 rfl (Z8 rfl (.o 9) rfl isAgg24) ?_
  refine Zz 2 rfl (ZG rfl underlying24) ?_
  refine Zz 3 rfl (ZT Xr) ?_
  refine YA 0 4 rfl ?_
  refine Xb 7 (congrArg vb Cy) ?_
  refine Zz 5 rfl (ZQ 9 underlying26 R6) ?_
  refine Zz 6 rfl (Z8 rfl (.o 9) rfl isAgg24) ?_
  refine Zz 7 rfl (YK (i:=0) rfl rfl underlying24 Ut rfl (.r 4) (VC (s:=6) (fun _=>rfl) rfl (tl h1)) h1.1 h1.2 (k:=0 * 6) rfl) ?_
  refine Zz 8 rfl (Vk rfl underlying57 rfl (k:=4) rfl YM rfl) ?_
  refine Zz 9 rfl (Z8 rfl (.r 4) ((UM (g:=fun p:Str × Str × Int × Int × Int × Int=>[vs p.1,vs p.2.1,vi p.2.2.1,vi p.2.2.2.1,vi p.2.2.2.2.1,vi p.2.2.2.2.2]) (s:=6) (fun _=>rfl) ZB 0 4 (tl h1) (by decide:4<6)).trans rfl) isAgg3) ?_
  refine Zz 10 rfl (ZQ 11 underlying26 YM) ?_
  refine Zz 11 rfl (Z8 rfl (.o 11) rfl isAgg3) ?_
  refine Zz 12 rfl (ZT RH) ?_
  refine YA 1 13 rfl ?_
  refine Xb 17 (congrArg vb Dj) ?_
  refine YA 15 15 rfl ?_
  refine Vi ?_
  refine Z7 (Wz [2] [] rfl rfl ?_)
  refine Y7 ?_
  obtain rfl:=sj H
  exact Wj
 replace H:=U7 (of_decide_eq_false Cy) H
 refine U3 (rp 15 0) 31 rfl ?_
 refine Zz 0 rfl (ZQ 9 underlying26 R6) ?_
 refine Zz 1 rfl (Z8 rfl (.o 9) rfl isAgg24) ?_
 refine Zz 2 rfl (ZG rfl underlying24) ?_
 refine Zz 3 rfl (ZT Xr) ?_
 refine YA 0 4 rfl ?_
 refine Xb 7 (congrArg vb Cy) ?_
 refine YA 25 5 rfl ?_
 refine Vi ?_
 refine Z7 (Wz [2] [] rfl rfl ?_)
 refine Y7 ?_
 obtain rfl:=sj H
 exact Wj
end Go.Proofs
end

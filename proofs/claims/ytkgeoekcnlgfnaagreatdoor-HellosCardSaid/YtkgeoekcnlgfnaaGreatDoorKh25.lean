/-
  Part 25 of the proof of what several laws share.
-/
import Derived.Test.YtkgeoekcnlgfnaaGreatDoorKh24
set_option maxHeartbeats 4000000
set_option maxRecDepth 20000
set_option linter.unusedVariables false
set_option linter.unusedSimpArgs false
section
namespace Go.Proofs
open Go Go.Kx
open TryzI Tryz
def YT.b0 (s_:List (Str)) (s0:Int):Option ((Int) ⊕ ((Unit) ⊕ (Int))) :=
 if s0<((s_).length:Int) then (if 0≤s0∧s0<((s_).length:Int) then ((O7 (lg s_ ((s0).toNat))).bind fun Zu=>(if Zu=true then (some (.inr (.inr s0))) else (some (.inl (ZJ (s0+1)))))) else none) else (some (.inr (.inl ())))
def YT (s_:List (Str)):Option (Int) :=
 (loop (YT.b0 s_) BIG 0).bind fun Yw=>(match Yw with | .inl Yw=>(some (-1)) | .inr rv=>some rv)
theorem GN {As_:Y6} {cs_:Nat} {s_:List (Str)} (FN:(s_).length≤cs_) {r:Int} (H:YT s_=some r) :
  Does Tryz.prog 108 [sl As_ ((s_).length) cs_,Value.func (.func 91) #[] #[]] [] [⟨As_,eS s_⟩] (Γ:=Unit) (fun g=>vi r) (fun g=>[]):=by
 intro w hmem hro hd
 refine Zn func108 rfl ntmps108 rfl hmem hro hd ?_
 unfold YT at H
 refine Z_ (Y2 ?_)
 refine Z6 (ZY (Z_ (YP ?_)))
 refine ZV (ZG rfl underlying23) ?_
 refine YP ?_
 refine Z6 (ZP ?_)
 have ⟨Yw,Hl,H⟩:=Z9 H
 refine Wz [0,1,7,8] [] rfl rfl ?_
 refine U0 (id:=0) (body:=(YT.b0 s_)) (σ:=Int) (Γ:=Unit) (Γx:=Unit) (fun s0 WG=>[(0,sl As_ ((s_).length) cs_),(1,Value.func (.func 91) #[] #[]),(7,vi ((s_).length:Int)),(8,vi s0)]) (fun s0 WG=>[]) (fun t g=>[]) (fun t g=>[]) r ?_ BIG 0 () Yw Hl ?_
 ·intro s0 WG r1 H K hK hE MK
  unfold YT.b0 at H
  refine Z_ (ZV (ZT WV) ?_)
  refine Z6 (ZY (UK H (fun hc H=>?_) (fun hc H=>?_)))
  ·refine ZN (Z7 (ZY (ZP (Z_ (Zj 2 rfl ?_)))))
   refine Z6 (Z_ (Zj 3 rfl ?_))
   have ⟨h1,H⟩:=Z4 H
   refine ZV (YK (i:=s0) rfl rfl underlying23 Xe rfl (.r 0) (Uf (tl h1)) h1.1 h1.2 (k:=(s0).toNat) (JZ _)) ?_
   refine ZV (Z8 rfl (.r 0) (UL (f:=vs) (l:=s_) (tl h1)) isAgg9) ?_
   have ⟨Zu,Yk,H⟩:=Z9 H
   refine YE (Cg (vs:=[vs (lg s_ ((s0).toNat))]) (cap:=[]) (qN Yk :) call91 .z) (fun Re=>?_)
   refine Z6 (Sn H (fun hc H=>?_) (fun hc H=>?_))
   ·refine Z_ (Zj 2 rfl ?_)
    refine Zq (ZE (ZZ (ZZ (ZE (ZZ ?_)))))
    have M3:=(MK _ (Option.some.inj H).symm)
    subst M3
    exact Wj
   refine ZN (ZW (Z7 (ZH (ZV (ZT XN) ?_))))
   refine YP ?_
   refine ZK ?_
   obtain rfl:=sj H
   exact Ri [] (hK (ZJ (s0+1)) rfl ())
  refine YW (Z0 (Z0 ?_))
  obtain rfl:=sj H
  exact WW [] (hE () rfl ())
 rcases Yw with Yw | rv
 ·intro Fe
  dsimp only at H
  refine ZL (Z7 (Z_ (Y2 ?_)))
  refine Zq ?_
  obtain rfl:=sj H
  exact Wj
 exact (Option.some.inj H)
def Xv (s_:List (Str)):Option (Bool) :=
 (YT s_).bind fun Zu=>(X5 (decide (0≤Zu)) fun x1=>(some x1))
theorem Gr {As_:Y6} {cs_:Nat} {s_:List (Str)} (FN:(s_).length≤cs_) {r:Bool} (H:Xv s_=some r) :
  Does Tryz.prog 90 [sl As_ ((s_).length) cs_,Value.func (.func 91) #[] #[]] [] [⟨As_,eS s_⟩] (Γ:=Unit) (fun g=>vb r) (fun g=>[]):=by
 intro w hmem hro hd
 refine Zn func90 rfl ntmps90 rfl hmem hro hd ?_
 unfold Xv at H
 refine Z_ (Y2 ?_)
 refine Z6 (Z_ (Zj 2 rfl ?_))
 have ⟨Zu,Yk,H⟩:=Z9 H
 refine YE (Y4 (GN FN Yk :) call108 ⟨.r 0,trivial⟩) (fun Re=>?_)
 refine ZV (ZT LD) ?_
 refine Y2 ?_
 have ⟨x1,TK,H⟩:=ZX H
 refine WN 4 (congrArg vb TK) ?_
 refine Zq ?_
 obtain rfl:=sj H
 exact Wj
def Oz (ss:List (Str)) (least:Int):Option (Bool) :=
 (Uy ((ss).length:Int) least 8).bind fun Zu=>(if Zu=true then ((Xv ss).bind fun YJ=>(some (!YJ))) else (some false))
theorem Ny {Ass:Y6} {css:Nat} {ss:List (Str)} {least:Int} (adq:(ss).length≤css) {r:Bool} (H:Oz ss least=some r) :
  Does Tryz.prog 72 [sl Ass ((ss).length) css,vi least] [] [⟨Ass,eS ss⟩] (Γ:=Unit) (fun g=>vb r) (fun g=>[]):=by
 intro w hmem hro hd
 refine Zn func72 rfl ntmps72 rfl hmem hro hd ?_
 unfold Oz at H
 refine Z_ (Y2 ?_)
 refine Z6 (Z_ (YP ?_))
 refine ZV (ZG rfl underlying23) ?_
 refine YP ?_
 have ⟨Zu,Yk,H⟩:=Z9 H
 refine YE (Y4 (Vn Yk :) call46 .z) (fun Re=>?_)
 refine YP ?_
 refine Mg (d:=9) H (fun hc H=>?_) (fun hc H=>?_)
 ·refine Zc (ZO rfl) ?_
  have ⟨YJ,X6,H⟩:=Z9 H
  refine JQ (Y4 (Gr adq X6 :) call90 ⟨.r 0,trivial⟩) (fun UD=>?_)
  refine Zc (UF T_) ?_
  refine Zj 2 rfl ?_
  refine Zq ?_
  obtain rfl:=sj H
  exact Wj
 refine Zj 5 rfl ?_
 refine Zq ?_
 obtain rfl:=sj H
 exact Wj
def Sg.b0 (chain:List (Str)) (s0:Int × Int):Option ((Int × Int) ⊕ (Int)) :=
 if s0.2<((chain).length:Int) then (if 0≤s0.2∧s0.2<((chain).length:Int) then (X5 (lg chain ((s0.2).toNat)) fun JW=>(X5 (ZJ (s0.1+(ZJ (((JW).length:Int)+5)))) fun n1=>(some (.inl (n1,ZJ (s0.2+1)))))) else none) else (some (.inr s0.1))
def Sg (chain:List (Str)):Option (Bool) :=
 (loop (Sg.b0 chain) BIG (8,0)).bind fun Yw=>(X5 (decide (Yw≤65536)) fun x1=>(some x1))
theorem K_ {Achain:Y6} {cchain:Nat} {chain:List (Str)} (acy:(chain).length≤cchain) {r:Bool} (H:Sg chain=some r) :
  Does Tryz.prog 73 [sl Achain ((chain).length) cchain] [] [⟨Achain,eS chain⟩] (Γ:=Unit) (fun g=>vb r) (fun g=>[]):=by
 intro w hmem hro hd
 refine Zn func73 rfl ntmps73 rfl hmem hro hd ?_
 unfold Sg at H
 refine Z_ (Y2 ?_)
 refine Z6 (Z_ (Y2 ?_))
 refine Z6 (ZY (Z_ (YP ?_)))
 refine ZV (ZG rfl underlying23) ?_
 refine YP ?_
 refine Z6 (ZP ?_)
 have ⟨Yw,Hl,H⟩:=Z9 H
 refine Wz [3,6,7,8] [] rfl rfl ?_
 refine Yv (id:=0) (body:=(Sg.b0 chain)) (σ:=Int × Int) (Γ:=Unit) (Γx:=Unit) (fun s0 WG=>[(3,vi s0.1),(6,sl Achain ((chain).length) cchain),(7,vi ((chain).length:Int)),(8,vi s0.2)]) (fun s0 WG=>[]) (fun t g=>[(3,vi t)]) (fun t g=>[]) ?_ BIG (8,0) () Yw Hl ?_
 ·intro s0 WG r1 H K hK hE
  unfold Sg.b0 at H
  refine Z_ (ZV (ZT WV) ?_)
  refine Z6 (ZY (UK H (fun hc H=>?_) (fun hc H=>?_)))
  ·refine ZN (Z7 (ZY (ZP (Z_ ?_))))
   have ⟨h1,H⟩:=Z4 H
   refine ZV (YK (i:=s0.2) rfl rfl underlying23 Xe rfl (.r 0) (Uf (tl h1)) h1.1 h1.2 (k:=(s0.2).toNat) (JZ _)) ?_
   refine ZV (Z8 rfl (.r 0) (UL (f:=vs) (l:=chain) (tl h1)) isAgg9) ?_
   refine Y2 ?_
   have ⟨JW,hs_1,H⟩:=ZX H
   refine WN 5 (congrArg vs hs_1) ?_
   refine Z6 (ZH (Zj 2 rfl ?_))
   refine ZV (Zf rfl underlying9) ?_
   refine ZV (ZT XN) ?_
   refine ZV (ZT XN) ?_
   refine Y2 ?_
   have ⟨n1,wY,H⟩:=ZX H
   refine WN 3 (congrArg vi wY) ?_
   refine ZK (ZW (Z7 (ZH (ZV (ZT XN) ?_))))
   refine YP ?_
   refine ZK ?_
   obtain rfl:=sj H
   exact Ri [] (hK (n1,ZJ (s0.2+1)) rfl ())
  refine YW (Z0 (Z0 ?_))
  obtain rfl:=sj H
  exact WW [] (hE s0.1 rfl ())
 intro g
 refine ZL (Z7 (Z_ (YP ?_)))
 refine ZV (ZT RH) ?_
 refine Y2 ?_
 have ⟨x1,TK,H⟩:=ZX H
 refine WN 2 (congrArg vb TK) ?_
 refine Zq ?_
 obtain rfl:=sj H
 exact Wj
def N_ (Zm:Bool) (ZI ZR:List (Int)) (Zx:List (Str)) (Yp:Str) (Zr:List (Str)) (Zb:Str) (ZC:Int) (Y5:Str) (ZB:List (Str × Str × Int × Int × Int × Int)) (YN:Str) (Zk Ye:Int) (Zd YO:Int):Option (Bool) :=
 (Pb Yp).bind fun Zu=>((if ((Y5).length:Int)=32 then (some true) else (if Y5=([]:Str) then (X5 (decide (ZC=0)) fun E8=>(some E8)) else (some false))).bind fun j1=>(if Zu.2=true then ((Oz Zx 1).bind fun YJ=>(if YJ=true then ((Sg Zx).bind fun X7=>(if X7=true then (if j1=true then ((Uy ZC 0 8).bind fun Xu=>(if Xu=true then (if (ZJ (((Zr).length:Int)+((ZB).length:Int)))=0 then (X5 (decide (Zb=([]:Str))) fun x1=>(some x1)) else (some false)) else (some false))) else (some false)) else (some false))) else (some false))) else (some false)))
theorem pM {bc:Nat} {obc:Nat} {YZ:Y6} {Y0:Nat} {Y1:Y6} {YY:Nat} {YC:Y6} {YH:Nat} {YG:Y6} {YF:Nat} {XR:Y6} {XP:Nat} {Zm:Bool} {ZI:List (Int)} {ZR:List (Int)} {Zx:List (Str)} {Yp:Str} {Zr:List (Str)} {Zb:Str} {ZC:Int} {Y5:Str} {ZB:List (Str × Str × Int × Int × Int × Int)} {YN:Str} {Zk:Int} {Ye:Int} {Zd:Int} {YO:Int} (YV:(ZI).length≤Y0) (YD:(ZR).length≤YY) (Y8:(Zx).length≤YH) (Yq:(Zr).length≤YF) (Xk:(ZB).length≤XP) {r:Bool} (H:N_ Zm ZI ZR Zx Yp Zr Zb ZC Y5 ZB YN Zk Ye Zd YO=some r) :
  Does Tryz.prog 47 [ptr (some (bc,obc)) 0] [] [⟨some (bc,obc),[vb Zm]⟩,⟨some (bc,obc+1),[sl YZ ((ZI).length) Y0]⟩,⟨some (bc,obc+2),[sl Y1 ((ZR).length) YY]⟩,⟨some (bc,obc+3),[sl YC ((Zx).length) YH]⟩,⟨some (bc,obc+4),[vs Yp]⟩,⟨some (bc,obc+5),[sl YG ((Zr).length) YF]⟩,⟨some (bc,obc+6),[vs Zb]⟩,⟨some (bc,obc+7),[vi ZC]⟩,⟨some (bc,obc+8),[vs Y5]⟩,⟨some (bc,obc+9),[sl XR ((ZB).length) XP]⟩,⟨some (bc,obc+10),[vs YN]⟩,⟨some (bc,obc+11),[vi Zk]⟩,⟨some (bc,obc+12),[vi Ye]⟩,⟨some (bc,obc+13),[vi Zd]⟩,⟨some (bc,obc+14),[vi YO]⟩,⟨YZ,eI ZI⟩,⟨Y1,eI ZR⟩,⟨YC,eS Zx⟩,⟨YG,eS Zr⟩,⟨XR,eF (fun p:Str × Str × Int × Int × Int × Int=>[vs p.1,vs p.2.1,vi p.2.2.1,vi p.2.2.2.1,vi p.2.2.2.2.1,vi p.2.2.2.2.2]) ZB⟩] (Γ:=Unit) (fun g=>vb r) (fun g=>[]):=by
 intro w hmem hro hd
 refine Zn func47 rfl ntmps47 rfl hmem hro hd ?_
 unfold N_ at H
 refine Z_ (Y2 ?_)
 refine Z6 (Z_ (Zj 2 rfl ?_))
 refine ZV (ZQ 4 underlying26 Xe) ?_
 refine ZV (Z8 rfl (.r 4) rfl isAgg9) ?_
 have ⟨Zu,Yk,H⟩:=Z9 H
 refine YE (Y4 (o_ Yk :) call71 .z) (fun Re=>?_)
 refine Zj 3 rfl ?_
 refine YE (R4 4 YB Uj) (fun b1=>?_)
 refine VM (Vd (vs:=e64 Zu.1.toList) 0 YB) (fun _=>?_)
 refine Y2 ?_
 refine Z6 (Z_ (Zj 2 rfl ?_))
 refine ZV (ZQ 8 underlying26 Xe) ?_
 refine ZV (Z8 rfl (.r 8) rfl isAgg9) ?_
 refine ZV (Zf rfl underlying9) ?_
 refine ZV (ZT Xr) ?_
 refine YP ?_
 have ⟨j1,Hj,H⟩:=Z9 H
 refine VH (Γ:=Unit) (fun Sc=>[(0,ptr (some (bc,obc)) 0),(4,vb Zu.2),(5,vb j1)]) (fun Sc=>[]) ?_ ?_
 ·intro Sc
  refine Z7 (ZY (UI Zu.2 (fun Im=>?_) (fun Im=>?_)))
  ·replace H:=U8 Im H
   have ⟨YJ,X6,H⟩:=Z9 H
   refine UI YJ (fun He=>?_) (fun He=>?_)
   ·replace H:=U8 He H
    have ⟨X7,Vt,H⟩:=Z9 H
    refine UI X7 (fun Jo=>?_) (fun Jo=>?_)
    ·replace H:=U8 Jo H
     refine UI j1 (fun Hy=>?_) (fun Hy=>?_)
     ·replace H:=U8 Hy H
      have ⟨Xu,UH,H⟩:=Z9 H
      refine UI Xu (fun FW=>?_) (fun FW=>?_)
      ·replace H:=U8 FW H
       refine UI (decide ((ZJ (((Zr).length:Int)+((ZB).length:Int)))=0)) (fun D_=>?_) (fun D_=>?_)
       ·replace H:=U8 (of_decide_eq_true D_) H
        have ⟨x1,TK,H⟩:=ZX H
        refine U3 [] 47 rfl ?_
        refine YA 1 0 rfl ?_
        refine Xb 35 (congrArg vb Im) ?_
        refine YA 1 2 rfl ?_
        refine Zz 4 rfl (ZQ 3 underlying26 Xn) ?_
        refine Zz 5 rfl (Z8 rfl (.r 3) rfl isAgg23) ?_
        refine Tm 6 [] rfl (Y4 (Ny Y8 X6 :) call72 ⟨.r 17,trivial⟩) (fun _=>rfl) (fun UD=>?_)
        refine YA 1 7 rfl ?_
        refine Xb 42 (congrArg vb He) ?_
        refine YA 1 9 rfl ?_
        refine Zz 11 rfl (ZQ 3 underlying26 Xn) ?_
        refine Zz 12 rfl (Z8 rfl (.r 3) rfl isAgg23) ?_
        refine Tm 13 [] rfl (Y4 (K_ Y8 Vt :) call73 ⟨.r 17,trivial⟩) (fun _=>rfl) (fun Pm=>?_)
        refine YA 1 14 rfl ?_
        refine Xb 49 (congrArg vb Jo) ?_
        refine YA 2 16 rfl ?_
        refine Xb 52 (congrArg vb Hy) ?_
        refine YA 1 19 rfl ?_
        refine Zz 21 rfl (ZQ 7 underlying26 YM) ?_
        refine Zz 22 rfl (Z8 rfl (.r 7) rfl isAgg3) ?_
        refine Tm 23 [] rfl (Y4 (Vn UH :) call46 .z) (fun _=>rfl) (fun JV=>?_)
        refine YA 1 24 rfl ?_
        refine Xb 59 (congrArg vb FW) ?_
        refine YA 1 26 rfl ?_
        refine Zz 28 rfl (ZQ 5 underlying26 Xn) ?_
        refine Zz 29 rfl (Z8 rfl (.r 5) rfl isAgg23) ?_
        refine Zz 30 rfl (ZG rfl underlying23) ?_
        refine YA 1 31 rfl ?_
        refine Zz 33 rfl (ZQ 9 underlying26 R6) ?_
        refine Zz 34 rfl (Z8 rfl (.r 9) rfl isAgg24) ?_
        refine Zz 35 rfl (ZG rfl underlying24) ?_
        refine Zz 36 rfl (ZT XN) ?_
        refine Zz 37 rfl (ZT Xr) ?_
        refine YA 1 38 rfl ?_
        refine Xb 73 (congrArg vb D_) ?_
        refine YA 1 40 rfl ?_
        refine Zz 42 rfl (ZQ 6 underlying26 Xe) ?_
        refine Zz 43 rfl (Z8 rfl (.r 6) rfl isAgg9) ?_
        refine Zz 44 rfl (Zg rfl rfl (fun w=>L6 w Zb ([]:Str))) ?_
        refine YA 1 45 rfl ?_
        refine Xb 2 (congrArg vb TK) ?_
        refine Vi ?_
        refine Z7 (Wz [2] [] rfl rfl ?_)
        refine Y7 ?_
        obtain rfl:=sj H
        exact Wj
       replace H:=U7 (of_decide_eq_false D_) H
       refine U3 [] 47 rfl ?_
       refine YA 1 0 rfl ?_
       refine Xb 35 (congrArg vb Im) ?_
       refine YA 1 2 rfl ?_
       refine Zz 4 rfl (ZQ 3 underlying26 Xn) ?_
       refine Zz 5 rfl (Z8 rfl (.r 3) rfl isAgg23) ?_
       refine Tm 6 [] rfl (Y4 (Ny Y8 X6 :) call72 ⟨.r 17,trivial⟩) (fun _=>rfl) (fun UD=>?_)
       refine YA 1 7 rfl ?_
       refine Xb 42 (congrArg vb He) ?_
       refine YA 1 9 rfl ?_
       refine Zz 11 rfl (ZQ 3 underlying26 Xn) ?_
       refine Zz 12 rfl (Z8 rfl (.r 3) rfl isAgg23) ?_
       refine Tm 13 [] rfl (Y4 (K_ Y8 Vt :) call73 ⟨.r 17,trivial⟩) (fun _=>rfl) (fun Pm=>?_)
       refine YA 1 14 rfl ?_
       refine Xb 49 (congrArg vb Jo) ?_
       refine YA 2 16 rfl ?_
       refine Xb 52 (congrArg vb Hy) ?_
       refine YA 1 19 rfl ?_
       refine Zz 21 rfl (ZQ 7 underlying26 YM) ?_
       refine Zz 22 rfl (Z8 rfl (.r 7) rfl isAgg3) ?_
       refine Tm 23 [] rfl (Y4 (Vn UH :) call46 .z) (fun _=>rfl) (fun JV=>?_)
       refine YA 1 24 rfl ?_
       refine Xb 59 (congrArg vb FW) ?_
       refine YA 1 26 rfl ?_
       refine Zz 28 rfl (ZQ 5 underlying26 Xn) ?_
       refine Zz 29 rfl (Z8 rfl (.r 5) rfl isAgg23) ?_
       refine Zz 30 rfl (ZG rfl underlying23) ?_
       refine YA 1 31 rfl ?_
       refine Zz 33 rfl (ZQ 9 underlying26 R6) ?_
       refine Zz 34 rfl (Z8 rfl (.r 9) rfl isAgg24) ?_
       refine Zz 35 rfl (ZG rfl underlying24) ?_
       refine Zz 36 rfl (ZT XN) ?_
       refine Zz 37 rfl (ZT Xr) ?_
       refine YA 1 38 rfl ?_
       refine Xb 73 (congrArg vb D_) ?_
       refine YA 6 40 rfl ?_
       refine Vi ?_
       refine Z7 (Wz [2] [] rfl rfl ?_)
       refine Y7 ?_
       obtain rfl:=sj H
       exact Wj
      replace H:=U7 (Bool.eq_false_iff.1 FW) H
      refine U3 [] 47 rfl ?_
      refine YA 1 0 rfl ?_
      refine Xb 35 (congrArg vb Im) ?_
      refine YA 1 2 rfl ?_
      refine Zz 4 rfl (ZQ 3 underlying26 Xn) ?_
      refine Zz 5 rfl (Z8 rfl (.r 3) rfl isAgg23) ?_
      refine Tm 6 [] rfl (Y4 (Ny Y8 X6 :) call72 ⟨.r 17,trivial⟩) (fun _=>rfl) (fun UD=>?_)
      refine YA 1 7 rfl ?_
      refine Xb 42 (congrArg vb He) ?_
      refine YA 1 9 rfl ?_
      refine Zz 11 rfl (ZQ 3 underlying26 Xn) ?_
      refine Zz 12 rfl (Z8 rfl (.r 3) rfl isAgg23) ?_
      refine Tm 13 [] rfl (Y4 (K_ Y8 Vt :) call73 ⟨.r 17,trivial⟩) (fun _=>rfl) (fun Pm=>?_)
      refine YA 1 14 rfl ?_
      refine Xb 49 (congrArg vb Jo) ?_
      refine YA 2 16 rfl ?_
      refine Xb 52 (congrArg vb Hy) ?_
      refine YA 1 19 rfl ?_
      refine Zz 21 rfl (ZQ 7 underlying26 YM) ?_
      refine Zz 22 rfl (Z8 rfl (.r 7) rfl isAgg3) ?_
      refine Tm 23 [] rfl (Y4 (Vn UH :) call46 .z) (fun _=>rfl) (fun JV=>?_)
      refine YA 1 24 rfl ?_
      refine Xb 59 (congrArg vb FW) ?_
      refine YA 20 26 rfl ?_
      refine Vi ?_
      refine Z7 (Wz [2] [] rfl rfl ?_)
      refine Y7 ?_
      obtain rfl:=sj H
      exact Wj
     replace H:=U7 (Bool.eq_false_iff.1 Hy) H
     refine U3 [] 47 rfl ?_
     refine YA 1 0 rfl ?_
     refine Xb 35 (congrArg vb Im) ?_
     refine YA 1 2 rfl ?_
     refine Zz 4 rfl (ZQ 3 underlying26 Xn) ?_
     refine Zz 5 rfl (Z8 rfl (.r 3) rfl isAgg23) ?_
     refine Tm 6 [] rfl (Y4 (Ny Y8 X6 :) call72 ⟨.r 17,trivial⟩) (fun _=>rfl) (fun UD=>?_)
     refine YA 1 7 rfl ?_
     refine Xb 42 (congrArg vb He) ?_
     refine YA 1 9 rfl ?_
     refine Zz 11 rfl (ZQ 3 underlying26 Xn) ?_
     refine Zz 12 rfl (Z8 rfl (.r 3) rfl isAgg23) ?_
     refine Tm 13 [] rfl (Y4 (K_ Y8 Vt :) call73 ⟨.r 17,trivial⟩) (fun _=>rfl) (fun Pm=>?_)
     refine YA 1 14 rfl ?_
     refine Xb 49 (congrArg vb Jo) ?_
     refine YA 2 16 rfl ?_
     refine Xb 52 (congrArg vb Hy) ?_
     refine YA 27 19 rfl ?_
     refine Vi ?_
     refine Z7 (Wz [2] [] rfl rfl ?_)
     refine Y7 ?_
     obtain rfl:=sj H
     exact Wj
    replace H:=U7 (Bool.eq_false_iff.1 Jo) H
    refine U3 [] 47 rfl ?_
    refine YA 1 0 rfl ?_
    refine Xb 35 (congrArg vb Im) ?_
    refine YA 1 2 rfl ?_
    refine Zz 4 rfl (ZQ 3 underlying26 Xn) ?_
    refine Zz 5 rfl (Z8 rfl (.r 3) rfl isAgg23) ?_
    refine Tm 6 [] rfl (Y4 (Ny Y8 X6 :) call72 ⟨.r 17,trivial⟩) (fun _=>rfl) (fun UD=>?_)
    refine YA 1 7 rfl ?_
    refine Xb 42 (congrArg vb He) ?_
    refine YA 1 9 rfl ?_
    refine Zz 11 rfl (ZQ 3 underlying26 Xn) ?_
    refine Zz 12 rfl (Z8 rfl (.r 3) rfl isAgg23) ?_
    refine Tm 13 [] rfl (Y4 (K_ Y8 Vt :) call73 ⟨.r 17,trivial⟩) (fun _=>rfl) (fun Pm=>?_)
    refine YA 1 14 rfl ?_
    refine Xb 49 (congrArg vb Jo) ?_
    refine YA 30 16 rfl ?_
    refine Vi ?_
    refine Z7 (Wz [2] [] rfl rfl ?_)
    refine Y7 ?_
    obtain rfl:=sj H
    exact Wj
   replace H:=U7 (Bool.eq_false_iff.1 He) H
   refine U3 [] 47 rfl ?_
   refine YA 1 0 rfl ?_
   refine Xb 35 (congrArg vb Im) ?_
   refine YA 1 2 rfl ?_
   refine Zz 4 rfl (ZQ 3 underlying26 Xn) ?_
   refine Zz 5 rfl (Z8 rfl (.r 3) rfl isAgg23) ?_
   refine Tm 6 [] rfl (Y4 (Ny Y8 X6 :) call72 ⟨.r 17,trivial⟩) (fun _=>rfl) (fun UD=>?_)
   refine YA 1 7 rfl ?_
   refine Xb 42 (congrArg vb He) ?_
   refine YA 37 9 rfl ?_
   refine Vi ?_
   refine Z7 (Wz [2] [] rfl rfl ?_)
   refine Y7 ?_
   obtain rfl:=sj H
   exact Wj
  replace H:=U7 (Bool.eq_false_iff.1 Im) H
  refine U3 [] 47 rfl ?_
  refine YA 1 0 rfl ?_
  refine Xb 35 (congrArg vb Im) ?_
  refine YA 44 2 rfl ?_
  refine Vi ?_
  refine Z7 (Wz [2] [] rfl rfl ?_)
  refine Y7 ?_
  obtain rfl:=sj H
  exact Wj
 intro hJ
 replace H:=Hj
 refine Td (d:=20) H (fun hc H=>?_) (fun hc H=>?_)
 ·refine Zj 6 rfl ?_
  refine Vs rfl rfl rfl rfl rfl rfl ?_
  refine Vs rfl rfl rfl rfl rfl rfl ?_
  refine Vs rfl rfl rfl rfl rfl rfl ?_
  refine Vs rfl rfl rfl rfl rfl rfl ?_
  refine Vs rfl rfl rfl rfl rfl rfl ?_
  refine Zj 3 rfl ?_
  refine ZK ?_
  obtain rfl:=sj H
  exact WW [] (hJ ())
 refine Zj 2 rfl ?_
 refine Zc (ZQ 8 underlying26 Xe) ?_
 refine Zc (Z8 rfl (.r 8) rfl isAgg9) ?_
 refine Zc (Zg rfl rfl (fun w=>L6 w Y5 ([]:Str))) ?_
 refine Zc (ZO rfl) ?_
 refine Td (d:=26) H (fun hc H=>?_) (fun hc H=>?_)
 ·refine Zj 2 rfl ?_
  refine Zc (ZQ 7 underlying26 YM) ?_
  refine Zc (Z8 rfl (.r 7) rfl isAgg3) ?_
  refine Zc (ZT Xr) ?_
  refine Zj 3 rfl ?_
  have ⟨E8,hsealed1,H⟩:=ZX H
  refine WN 5 (congrArg vb hsealed1) ?_
  refine ZK ?_
  obtain rfl:=sj H
  exact WW [] (hJ ())
 refine Zj 8 rfl ?_
 refine ZK ?_
 obtain rfl:=sj H
 exact WW [] (hJ ())
def K7 (Zm:Bool) (ZI ZR:List (Int)) (Zx:List (Str)) (Yp:Str) (Zr:List (Str)) (Zb:Str) (ZC:Int) (Y5:Str) (ZB:List (Str × Str × Int × Int × Int × Int)) (YN:Str) (Zk Ye:Int) (Zd YO:Int) (Oj Pg:Str) (Nr Hf:Int) (Hg Kz:Int):Option (Bool) :=
 (OU Nr).bind fun Zu=>((Yi ZI Nr).bind fun YJ=>(if YJ=true then (if ((Pg).length:Int)=(ZJ (Zu.2.1.tdiv 8)) then ((Uy ((Oj).length:Int) 1 4096).bind fun X7=>(if X7=true then ((Uy Hf 0 4294967295).bind fun Xu=>(if Xu=true then ((Uy Hg 0 4294967295).bind fun UC=>(if UC=true then ((Uy Kz 0 604800).bind fun MV=>(some MV)) else (some false))) else (some false))) else (some false))) else (some false)) else (some false)))
theorem oN {bc:Nat} {obc:Nat} {YZ:Y6} {Y0:Nat} {Y1:Y6} {YY:Nat} {YC:Y6} {YH:Nat} {YG:Y6} {YF:Nat} {XR:Y6} {XP:Nat} {Zm:Bool} {ZI:List (Int)} {ZR:List (Int)} {Zx:List (Str)} {Yp:Str} {Zr:List (Str)} {Zb:Str} {ZC:Int} {Y5:Str} {ZB:List (Str × Str × Int × Int × Int × Int)} {YN:Str} {Zk:Int} {Ye:Int} {Zd:Int} {YO:Int} {Oj:Str} {Pg:Str} {Nr:Int} {Hf:Int} {Hg:Int} {Kz:Int} (YV:(ZI).length≤Y0) (YD:(ZR).length≤YY) (Y8:(Zx).length≤YH) (Yq:(Zr).length≤YF) (Xk:(ZB).length≤XP) {r:Bool} (H:K7 Zm ZI ZR Zx Yp Zr Zb ZC Y5 ZB YN Zk Ye Zd YO Oj Pg Nr Hf Hg Kz=some r) :
  Does Tryz.prog 76 [ptr (some (bc,obc)) 0,aG [(1,[vs Oj]),(1,[vs Pg]),(1,[vi Nr]),(1,[vi Hf]),(1,[vi Hg]),(1,[vi Kz])]] [] [⟨some (bc,obc),[vb Zm]⟩,⟨some (bc,obc+1),[sl YZ ((ZI).length) Y0]⟩,⟨some (bc,obc+2),[sl Y1 ((ZR).length) YY]⟩,⟨some (bc,obc+3),[sl YC ((Zx).length) YH]⟩,⟨some (bc,obc+4),[vs Yp]⟩,⟨some (bc,obc+5),[sl YG ((Zr).length) YF]⟩,⟨some (bc,obc+6),[vs Zb]⟩,⟨some (bc,obc+7),[vi ZC]⟩,⟨some (bc,obc+8),[vs Y5]⟩,⟨some (bc,obc+9),[sl XR ((ZB).length) XP]⟩,⟨some (bc,obc+10),[vs YN]⟩,⟨some (bc,obc+11),[vi Zk]⟩,⟨some (bc,obc+12),[vi Ye]⟩,⟨some (bc,obc+13),[vi Zd]⟩,⟨some (bc,obc+14),[vi YO]⟩,⟨YZ,eI ZI⟩,⟨Y1,eI ZR⟩,⟨YC,eS Zx⟩,⟨YG,eS Zr⟩,⟨XR,eF (fun p:Str × Str × Int × Int × Int × Int=>[vs p.1,vs p.2.1,vi p.2.2.1,vi p.2.2.2.1,vi p.2.2.2.2.1,vi p.2.2.2.2.2]) ZB⟩] (Γ:=Unit) (fun g=>vb r) (fun g=>[]):=by
 intro w hmem hro hd
 refine Zn func76 rfl ntmps76 rfl hmem hro hd ?_
 unfold K7 at H
 refine Z_ (YE PT (fun b1=>?_))
 refine Y2 ?_
 refine Z6 (Z_ (ZV (ZQ 2 underlying57 YM) ?_))
 refine ZV (Z8 rfl (.o 2) rfl isAgg3) ?_
 have ⟨Zu,Yk,H⟩:=Z9 H
 refine YE (Y4 (Gh Yk :) call70 .z) (fun Re=>?_)
 refine Zj 7 rfl ?_
 refine Z6 (ZY ?_)
 have ⟨YJ,X6,H⟩:=Z9 H
 refine UI YJ (fun GK=>?_) (fun GK=>?_)
 ·replace H:=U8 GK H
  refine UI (decide (((Pg).length:Int)=(ZJ (Zu.2.1.tdiv 8)))) (fun Jq=>?_) (fun Jq=>?_)
  ·replace H:=U8 (of_decide_eq_true Jq) H
   have ⟨X7,Vt,H⟩:=Z9 H
   refine UI X7 (fun Hr=>?_) (fun Hr=>?_)
   ·replace H:=U8 Hr H
    have ⟨Xu,UH,H⟩:=Z9 H
    refine UI Xu (fun Gq=>?_) (fun Gq=>?_)
    ·replace H:=U8 Gq H
     have ⟨UC,Qi,H⟩:=Z9 H
     refine UI UC (fun Ed=>?_) (fun Ed=>?_)
     ·replace H:=U8 Ed H
      have ⟨MV,KG,H⟩:=Z9 H
      refine U3 [0,0,0,0,0,0] 37 rfl ?_
      refine YA 1 0 rfl ?_
      refine Zz 2 rfl (ZQ 1 underlying26 XO) ?_
      refine Zz 3 rfl (Z8 rfl (.r 1) rfl isAgg22) ?_
      refine Zz 4 rfl (ZQ 2 underlying57 YM) ?_
      refine Zz 5 rfl (Z8 rfl (.o 2) rfl isAgg3) ?_
      refine Tm 6 [0,0,0,0,0,0] rfl (Y4 (Sw YV X6 :) call62 ⟨.r 15,trivial⟩) (fun _=>rfl) (fun UD=>?_)
      refine YA 0 7 rfl ?_
      refine Xb 22 (congrArg vb GK) ?_
      refine Zz 8 rfl (ZQ 1 underlying57 Xe) ?_
      refine Zz 9 rfl (Z8 rfl (.o 1) rfl isAgg9) ?_
      refine Zz 10 rfl (Zf rfl underlying9) ?_
      refine YA 0 11 rfl ?_
      refine Zz 12 rfl (Zg rfl rfl (fun w=>Lh w Zu.2.1 8 (by decide))) ?_
      refine Zz 13 rfl (ZT Xr) ?_
      refine YA 1 14 rfl ?_
      refine Xb 30 (congrArg vb Jq) ?_
      refine Zz 16 rfl (ZQ 0 underlying57 Xe) ?_
      refine Zz 17 rfl (Z8 rfl (.o 0) rfl isAgg9) ?_
      refine Zz 18 rfl (Zf rfl underlying9) ?_
      refine Tm 19 [0,0,0,0,0,0] rfl (Y4 (Vn Vt :) call46 .z) (fun _=>rfl) (fun Pm=>?_)
      refine YA 1 20 rfl ?_
      refine Xb 36 (congrArg vb Hr) ?_
      refine Zz 22 rfl (ZQ 3 underlying57 YM) ?_
      refine Zz 23 rfl (Z8 rfl (.o 3) rfl isAgg3) ?_
      refine Tm 24 [0,0,0,0,0,0] rfl (Y4 (Vn UH :) call46 .z) (fun _=>rfl) (fun JV=>?_)
      refine YA 1 25 rfl ?_
      refine Xb 41 (congrArg vb Gq) ?_
      refine Zz 27 rfl (ZQ 4 underlying57 YM) ?_
      refine Zz 28 rfl (Z8 rfl (.o 4) rfl isAgg3) ?_
      refine Tm 29 [0,0,0,0,0,0] rfl (Y4 (Vn Qi :) call46 .z) (fun _=>rfl) (fun zM=>?_)
      refine YA 1 30 rfl ?_
      refine Xb 46 (congrArg vb Ed) ?_
      refine Zz 32 rfl (ZQ 5 underlying57 YM) ?_
      refine Zz 33 rfl (Z8 rfl (.o 5) rfl isAgg3) ?_
      refine Tm 34 [0,0,0,0,0,0] rfl (Y4 (Vn KG :) call46 .z) (fun _=>rfl) (fun jV=>?_)
      refine YA 1 35 rfl ?_
      refine Vi ?_
      refine Z7 (Wz [4] [] rfl rfl ?_)
      refine Y7 ?_
      obtain rfl:=sj H
      exact Wj
     replace H:=U7 (Bool.eq_false_iff.1 Ed) H
     refine U3 [0,0,0,0,0,0] 37 rfl ?_
     refine YA 1 0 rfl ?_
     refine Zz 2 rfl (ZQ 1 underlying26 XO) ?_
     refine Zz 3 rfl (Z8 rfl (.r 1) rfl isAgg22) ?_
     refine Zz 4 rfl (ZQ 2 underlying57 YM) ?_
     refine Zz 5 rfl (Z8 rfl (.o 2) rfl isAgg3) ?_
     refine Tm 6 [0,0,0,0,0,0] rfl (Y4 (Sw YV X6 :) call62 ⟨.r 15,trivial⟩) (fun _=>rfl) (fun UD=>?_)
     refine YA 0 7 rfl ?_
     refine Xb 22 (congrArg vb GK) ?_
     refine Zz 8 rfl (ZQ 1 underlying57 Xe) ?_
     refine Zz 9 rfl (Z8 rfl (.o 1) rfl isAgg9) ?_
     refine Zz 10 rfl (Zf rfl underlying9) ?_
     refine YA 0 11 rfl ?_
     refine Zz 12 rfl (Zg rfl rfl (fun w=>Lh w Zu.2.1 8 (by decide))) ?_
     refine Zz 13 rfl (ZT Xr) ?_
     refine YA 1 14 rfl ?_
     refine Xb 30 (congrArg vb Jq) ?_
     refine Zz 16 rfl (ZQ 0 underlying57 Xe) ?_
     refine Zz 17 rfl (Z8 rfl (.o 0) rfl isAgg9) ?_
     refine Zz 18 rfl (Zf rfl underlying9) ?_
     refine Tm 19 [0,0,0,0,0,0] rfl (Y4 (Vn Vt :) call46 .z) (fun _=>rfl) (fun Pm=>?_)
     refine YA 1 20 rfl ?_
     refine Xb 36 (congrArg vb Hr) ?_
     refine Zz 22 rfl (ZQ 3 underlying57 YM) ?_
     refine Zz 23 rfl (Z8 rfl (.o 3) rfl isAgg3) ?_
     refine Tm 24 [0,0,0,0,0,0] rfl (Y4 (Vn UH :) call46 .z) (fun _=>rfl) (fun JV=>?_)
     refine YA 1 25 rfl ?_
     refine Xb 41 (congrArg vb Gq) ?_
     refine Zz 27 rfl (ZQ 4 underlying57 YM) ?_
     refine Zz 28 rfl (Z8 rfl (.o 4) rfl isAgg3) ?_
     refine Tm 29 [0,0,0,0,0,0] rfl (Y4 (Vn Qi :) call46 .z) (fun _=>rfl) (fun zM=>?_)
     refine YA 1 30 rfl ?_
     refine Xb 46 (congrArg vb Ed) ?_
     refine YA 4 32 rfl ?_
     refine Vi ?_
     refine Z7 (Wz [4] [] rfl rfl ?_)
     refine Y7 ?_
     obtain rfl:=sj H
     exact Wj
    replace H:=U7 (Bool.eq_false_iff.1 Gq) H
    refine U3 [0,0,0,0,0,0] 37 rfl ?_
    refine YA 1 0 rfl ?_
    refine Zz 2 rfl (ZQ 1 underlying26 XO) ?_
    refine Zz 3 rfl (Z8 rfl (.r 1) rfl isAgg22) ?_
    refine Zz 4 rfl (ZQ 2 underlying57 YM) ?_
    refine Zz 5 rfl (Z8 rfl (.o 2) rfl isAgg3) ?_
    refine Tm 6 [0,0,0,0,0,0] rfl (Y4 (Sw YV X6 :) call62 ⟨.r 15,trivial⟩) (fun _=>rfl) (fun UD=>?_)
    refine YA 0 7 rfl ?_
    refine Xb 22 (congrArg vb GK) ?_
    refine Zz 8 rfl (ZQ 1 underlying57 Xe) ?_
    refine Zz 9 rfl (Z8 rfl (.o 1) rfl isAgg9) ?_
    refine Zz 10 rfl (Zf rfl underlying9) ?_
    refine YA 0 11 rfl ?_
    refine Zz 12 rfl (Zg rfl rfl (fun w=>Lh w Zu.2.1 8 (by decide))) ?_
    refine Zz 13 rfl (ZT Xr) ?_
    refine YA 1 14 rfl ?_
    refine Xb 30 (congrArg vb Jq) ?_
    refine Zz 16 rfl (ZQ 0 underlying57 Xe) ?_
    refine Zz 17 rfl (Z8 rfl (.o 0) rfl isAgg9) ?_
    refine Zz 18 rfl (Zf rfl underlying9) ?_
    refine Tm 19 [0,0,0,0,0,0] rfl (Y4 (Vn Vt :) call46 .z) (fun _=>rfl) (fun Pm=>?_)
    refine YA 1 20 rfl ?_
    refine Xb 36 (congrArg vb Hr) ?_
    refine Zz 22 rfl (ZQ 3 underlying57 YM) ?_
    refine Zz 23 rfl (Z8 rfl (.o 3) rfl isAgg3) ?_
    refine Tm 24 [0,0,0,0,0,0] rfl (Y4 (Vn UH :) call46 .z) (fun _=>rfl) (fun JV=>?_)
    refine YA 1 25 rfl ?_
    refine Xb 41 (congrArg vb Gq) ?_
    refine YA 9 27 rfl ?_
    refine Vi ?_
    refine Z7 (Wz [4] [] rfl rfl ?_)
    refine Y7 ?_
    obtain rfl:=sj H
    exact Wj
   replace H:=U7 (Bool.eq_false_iff.1 Hr) H
   refine U3 [0,0,0,0,0,0] 37 rfl ?_
   refine YA 1 0 rfl ?_
   refine Zz 2 rfl (ZQ 1 underlying26 XO) ?_
   refine Zz 3 rfl (Z8 rfl (.r 1) rfl isAgg22) ?_
   refine Zz 4 rfl (ZQ 2 underlying57 YM) ?_
   refine Zz 5 rfl (Z8 rfl (.o 2) rfl isAgg3) ?_
   refine Tm 6 [0,0,0,0,0,0] rfl (Y4 (Sw YV X6 :) call62 ⟨.r 15,trivial⟩) (fun _=>rfl) (fun UD=>?_)
   refine YA 0 7 rfl ?_
   refine Xb 22 (congrArg vb GK) ?_
   refine Zz 8 rfl (ZQ 1 underlying57 Xe) ?_
   refine Zz 9 rfl (Z8 rfl (.o 1) rfl isAgg9) ?_
   refine Zz 10 rfl (Zf rfl underlying9) ?_
   refine YA 0 11 rfl ?_
   refine Zz 12 rfl (Zg rfl rfl (fun w=>Lh w Zu.2.1 8 (by decide))) ?_
   refine Zz 13 rfl (ZT Xr) ?_
   refine YA 1 14 rfl ?_
   refine Xb 30 (congrArg vb Jq) ?_
   refine Zz 16 rfl (ZQ 0 underlying57 Xe) ?_
   refine Zz 17 rfl (Z8 rfl (.o 0) rfl isAgg9) ?_
   refine Zz 18 rfl (Zf rfl underlying9) ?_
   refine Tm 19 [0,0,0,0,0,0] rfl (Y4 (Vn Vt :) call46 .z) (fun _=>rfl) (fun Pm=>?_)
   refine YA 1 20 rfl ?_
   refine Xb 36 (congrArg vb Hr) ?_
   refine YA 14 22 rfl ?_
   refine Vi ?_
   refine Z7 (Wz [4] [] rfl rfl ?_)
   refine Y7 ?_
   obtain rfl:=sj H
   exact Wj
  replace H:=U7 (of_decide_eq_false Jq) H
  refine U3 [0,0,0,0,0,0] 37 rfl ?_
  refine YA 1 0 rfl ?_
  refine Zz 2 rfl (ZQ 1 underlying26 XO) ?_
  refine Zz 3 rfl (Z8 rfl (.r 1) rfl isAgg22) ?_
  refine Zz 4 rfl (ZQ 2 underlying57 YM) ?_
  refine Zz 5 rfl (Z8 rfl (.o 2) rfl isAgg3) ?_
  refine Tm 6 [0,0,0,0,0,0] rfl (Y4 (Sw YV X6 :) call62 ⟨.r 15,trivial⟩) (fun _=>rfl) (fun UD=>?_)
  refine YA 0 7 rfl ?_
  refine Xb 22 (congrArg vb GK) ?_
  refine Zz 8 rfl (ZQ 1 underlying57 Xe) ?_
  refine Zz 9 rfl (Z8 rfl (.o 1) rfl isAgg9) ?_
  refine Zz 10 rfl (Zf rfl underlying9) ?_
  refine YA 0 11 rfl ?_
  refine Zz 12 rfl (Zg rfl rfl (fun w=>Lh w Zu.2.1 8 (by decide))) ?_
  refine Zz 13 rfl (ZT Xr) ?_
  refine YA 1 14 rfl ?_
  refine Xb 30 (congrArg vb Jq) ?_
  refine YA 20 16 rfl ?_
  refine Vi ?_
  refine Z7 (Wz [4] [] rfl rfl ?_)
  refine Y7 ?_
  obtain rfl:=sj H
  exact Wj
 replace H:=U7 (Bool.eq_false_iff.1 GK) H
 refine U3 [0,0,0,0,0,0] 37 rfl ?_
 refine YA 1 0 rfl ?_
 refine Zz 2 rfl (ZQ 1 underlying26 XO) ?_
 refine Zz 3 rfl (Z8 rfl (.r 1) rfl isAgg22) ?_
 refine Zz 4 rfl (ZQ 2 underlying57 YM) ?_
 refine Zz 5 rfl (Z8 rfl (.o 2) rfl isAgg3) ?_
 refine Tm 6 [0,0,0,0,0,0] rfl (Y4 (Sw YV X6 :) call62 ⟨.r 15,trivial⟩) (fun _=>rfl) (fun UD=>?_)
 refine YA 0 7 rfl ?_
 refine Xb 22 (congrArg vb GK) ?_
 refine YA 28 8 rfl ?_
 refine Vi ?_
 refine Z7 (Wz [4] [] rfl rfl ?_)
 refine Y7 ?_
 obtain rfl:=sj H
 exact Wj
def PY (Oj Pg:Str) (Nr Hf:Int) (Hg Kz:Int) (LU:Bool) (Oy OE:List (Int)) (NF:List (Str)) (M9:Str) (NM:List (Str)) (IU:Str) (MO:Int) (I7:Str) (Ld:List (Str × Str × Int × Int × Int × Int)) (IM:Str) (Kb GH:Int) (J3 IW:Int):Option (Bool) :=
 (K7 LU Oy OE NF M9 NM IU MO I7 Ld IM Kb GH J3 IW Oj Pg Nr Hf Hg Kz).bind fun Zu=>(some (!Zu))
theorem qG {bcap0:Nat} {obcap0:Nat} {bcap02:Nat} {obcap02:Nat} {Acap0_Suites:Y6} {ccap0_Suites:Nat} {Acap0_Groups:Y6} {ccap0_Groups:Nat} {Acap0_Chain:Y6} {ccap0_Chain:Nat} {Acap0_Roots:Y6} {ccap0_Roots:Nat} {Acap0_Psk:Y6} {ccap0_Psk:Nat} {Oj:Str} {Pg:Str} {Nr:Int} {Hf:Int} {Hg:Int} {Kz:Int} {LU:Bool} {Oy:List (Int)} {OE:List (Int)} {NF:List (Str)} {M9:Str} {NM:List (Str)} {IU:Str} {MO:Int} {I7:Str} {Ld:List (Str × Str × Int × Int × Int × Int)} {IM:Str} {Kb:Int} {GH:Int} {J3:Int} {IW:Int} (CR:(Oy).length≤ccap0_Suites) (CK:(OE).length≤ccap0_Groups) (AC:(NF).length≤ccap0_Chain) (zX:(NM).length≤ccap0_Roots) (vK:(Ld).length≤ccap0_Psk) {r:Bool} (H:PY Oj Pg Nr Hf Hg Kz LU Oy OE NF M9 NM IU MO I7 Ld IM Kb GH J3 IW=some r) :
  Does Tryz.prog 75 [aG [(1,[vs Oj]),(1,[vs Pg]),(1,[vi Nr]),(1,[vi Hf]),(1,[vi Hg]),(1,[vi Kz])],ptr (some (bcap0,obcap0)) 0] [] [⟨some (bcap0,obcap0),[ptr (some (bcap02,obcap02)) 0]⟩,⟨some (bcap02,obcap02),[vb LU]⟩,⟨some (bcap02,obcap02+1),[sl Acap0_Suites ((Oy).length) ccap0_Suites]⟩,⟨some (bcap02,obcap02+2),[sl Acap0_Groups ((OE).length) ccap0_Groups]⟩,⟨some (bcap02,obcap02+3),[sl Acap0_Chain ((NF).length) ccap0_Chain]⟩,⟨some (bcap02,obcap02+4),[vs M9]⟩,⟨some (bcap02,obcap02+5),[sl Acap0_Roots ((NM).length) ccap0_Roots]⟩,⟨some (bcap02,obcap02+6),[vs IU]⟩,⟨some (bcap02,obcap02+7),[vi MO]⟩,⟨some (bcap02,obcap02+8),[vs I7]⟩,⟨some (bcap02,obcap02+9),[sl Acap0_Psk ((Ld).length) ccap0_Psk]⟩,⟨some (bcap02,obcap02+10),[vs IM]⟩,⟨some (bcap02,obcap02+11),[vi Kb]⟩,⟨some (bcap02,obcap02+12),[vi GH]⟩,⟨some (bcap02,obcap02+13),[vi J3]⟩,⟨some (bcap02,obcap02+14),[vi IW]⟩,⟨Acap0_Suites,eI Oy⟩,⟨Acap0_Groups,eI OE⟩,⟨Acap0_Chain,eS NF⟩,⟨Acap0_Roots,eS NM⟩,⟨Acap0_Psk,eF (fun p:Str × Str × Int × Int × Int × Int=>[vs p.1,vs p.2.1,vi p.2.2.1,vi p.2.2.2.1,vi p.2.2.2.2.1,vi p.2.2.2.2.2]) Ld⟩] (Γ:=Unit) (fun g=>vb r) (fun g=>[]):=by
 intro w hmem hro hd
 refine Zn func75 rfl ntmps75 rfl hmem hro hd ?_
 unfold PY at H
 refine Z_ (YE PT (fun b1=>?_))
 refine Y2 ?_
 refine Z6 (Z_ (ZV (Z8 rfl (.r 0) rfl isAgg71) ?_))
 refine ZV (VY [0,1,2,3,4,5] rfl rfl isAgg57 Ut) ?_
 have ⟨Zu,Yk,H⟩:=Z9 H
 refine YE (Y4 (oN CR CK AC zX vK Yk :) call76 ⟨.r 1, .r 2, .r 3, .r 4, .r 5, .r 6, .r 7, .r 8, .r 9, .r 10, .r 11, .r 12, .r 13, .r 14, .r 15, .r 16, .r 17, .r 18, .r 19, .r 20,trivial⟩) (fun Re=>?_)
 refine ZV (UF T_) ?_
 refine Y2 ?_
 refine Zq ?_
 obtain rfl:=sj H
 exact Wj
def Y3.b0 (s_:List (Str × Str × Int × Int × Int × Int)) (Tc:Bool) (UY UZ:List (Int)) (TW:List (Str)) (UJ:Str) (TY:List (Str)) (QE:Str) (TT:Int) (Qz:Str) (Rb:List (Str × Str × Int × Int × Int × Int)) (Qx:Str) (RV O4:Int) (RZ QB s0:Int):Option ((Int) ⊕ ((Unit) ⊕ (Int))) :=
 if s0<((s_).length:Int) then (if 0≤s0∧s0<((s_).length:Int) then ((PY ((lg s_ ((s0).toNat)).1) ((lg s_ ((s0).toNat)).2.1) ((lg s_ ((s0).toNat)).2.2.1) ((lg s_ ((s0).toNat)).2.2.2.1) ((lg s_ ((s0).toNat)).2.2.2.2.1) ((lg s_ ((s0).toNat)).2.2.2.2.2) Tc UY UZ TW UJ TY QE TT Qz Rb Qx RV O4 RZ QB).bind fun Zu=>(if Zu=true then (some (.inr (.inr s0))) else (some (.inl (ZJ (s0+1)))))) else none) else (some (.inr (.inl ())))
def Y3 (s_:List (Str × Str × Int × Int × Int × Int)) (Tc:Bool) (UY UZ:List (Int)) (TW:List (Str)) (UJ:Str) (TY:List (Str)) (QE:Str) (TT:Int) (Qz:Str) (Rb:List (Str × Str × Int × Int × Int × Int)) (Qx:Str) (RV O4:Int) (RZ QB:Int):Option (Int) :=
 (loop (Y3.b0 s_ Tc UY UZ TW UJ TY QE TT Qz Rb Qx RV O4 RZ QB) BIG 0).bind fun Yw=>(match Yw with | .inl Yw=>(some (-1)) | .inr rv=>some rv)
theorem FP {As_:Y6} {cs_:Nat} {bfc0:Nat} {obfc0:Nat} {bfc02:Nat} {obfc02:Nat} {Afc0_Suites:Y6} {cfc0_Suites:Nat} {Afc0_Groups:Y6} {cfc0_Groups:Nat} {Afc0_Chain:Y6} {cfc0_Chain:Nat} {Afc0_Roots:Y6} {cfc0_Roots:Nat} {Afc0_Psk:Y6} {cfc0_Psk:Nat} {s_:List (Str × Str × Int × Int × Int × Int)} {Tc:Bool} {UY:List (Int)} {UZ:List (Int)} {TW:List (Str)} {UJ:Str} {TY:List (Str)} {QE:Str} {TT:Int} {Qz:Str} {Rb:List (Str × Str × Int × Int × Int × Int)} {Qx:Str} {RV:Int} {O4:Int} {RZ:Int} {QB:Int} (FN:(s_).length≤cs_) (Kl:(UY).length≤cfc0_Suites) (Km:(UZ).length≤cfc0_Groups) (Jb:(TW).length≤cfc0_Chain) (Jj:(TY).length≤cfc0_Roots) (Gp:(Rb).length≤cfc0_Psk) {r:Int} (H:Y3 s_ Tc UY UZ TW UJ TY QE TT Qz Rb Qx RV O4 RZ QB=some r) :
  Does Tryz.prog 92 [sl As_ ((s_).length) cs_,Value.func (.func 75) #[] #[ptr (some (bfc0,obfc0)) 0]] [] [⟨As_,eF (fun p:Str × Str × Int × Int × Int × Int=>[vs p.1,vs p.2.1,vi p.2.2.1,vi p.2.2.2.1,vi p.2.2.2.2.1,vi p.2.2.2.2.2]) s_⟩,⟨some (bfc0,obfc0),[ptr (some (bfc02,obfc02)) 0]⟩,⟨some (bfc02,obfc02),[vb Tc]⟩,⟨some (bfc02,obfc02+1),[sl Afc0_Suites ((UY).length) cfc0_Suites]⟩,⟨some (bfc02,obfc02+2),[sl Afc0_Groups ((UZ).length) cfc0_Groups]⟩,⟨some (bfc02,obfc02+3),[sl Afc0_Chain ((TW).length) cfc0_Chain]⟩,⟨some (bfc02,obfc02+4),[vs UJ]⟩,⟨some (bfc02,obfc02+5),[sl Afc0_Roots ((TY).length) cfc0_Roots]⟩,⟨some (bfc02,obfc02+6),[vs QE]⟩,⟨some (bfc02,obfc02+7),[vi TT]⟩,⟨some (bfc02,obfc02+8),[vs Qz]⟩,⟨some (bfc02,obfc02+9),[sl Afc0_Psk ((Rb).length) cfc0_Psk]⟩,⟨some (bfc02,obfc02+10),[vs Qx]⟩,⟨some (bfc02,obfc02+11),[vi RV]⟩,⟨some (bfc02,obfc02+12),[vi O4]⟩,⟨some (bfc02,obfc02+13),[vi RZ]⟩,⟨some (bfc02,obfc02+14),[vi QB]⟩,⟨Afc0_Suites,eI UY⟩,⟨Afc0_Groups,eI UZ⟩,⟨Afc0_Chain,eS TW⟩,⟨Afc0_Roots,eS TY⟩,⟨Afc0_Psk,eF (fun p:Str × Str × Int × Int × Int × Int=>[vs p.1,vs p.2.1,vi p.2.2.1,vi p.2.2.2.1,vi p.2.2.2.2.1,vi p.2.2.2.2.2]) Rb⟩] (Γ:=Unit) (fun g=>vi r) (fun g=>[]):=by
 intro w hmem hro hd
 refine Zn func92 rfl ntmps92 rfl hmem hro hd ?_
 unfold Y3 at H
 refine Z_ (Y2 ?_)
 refine Z6 (ZY (Z_ (YP ?_)))
 refine ZV (ZG rfl underlying24) ?_
 refine YP ?_
 refine Z6 (ZP ?_)
 have ⟨Yw,Hl,H⟩:=Z9 H
 refine Wz [0,1,7,8] [] rfl rfl ?_
 refine U0 (id:=0) (body:=(Y3.b0 s_ Tc UY UZ TW UJ TY QE TT Qz Rb Qx RV O4 RZ QB)) (σ:=Int) (Γ:=Unit) (Γx:=Unit) (fun s0 WG=>[(0,sl As_ ((s_).length) cs_),(1,Value.func (.func 75) #[] #[ptr (some (bfc0,obfc0)) 0]),(7,vi ((s_).length:Int)),(8,vi s0)]) (fun s0 WG=>[]) (fun t g=>[]) (fun t g=>[]) r ?_ BIG 0 () Yw Hl ?_
 ·intro s0 WG r1 H K hK hE MK
  unfold Y3.b0 at H
  refine Z_ (ZV (ZT WV) ?_)
  refine Z6 (ZY (UK H (fun hc H=>?_) (fun hc H=>?_)))
  ·refine ZN (Z7 (ZY (ZP (Z_ (Zj 2 rfl ?_)))))
   refine Z6 (Z_ (Zj 3 rfl ?_))
   have ⟨h1,H⟩:=Z4 H
   refine ZV (YK (i:=s0) rfl rfl underlying24 Ut rfl (.r 0) (VC (s:=6) (fun _=>rfl) rfl (tl h1)) h1.1 h1.2 (k:=((s0).toNat) * 6) rfl) ?_
   refine ZV (UE (n:=6) (ds:=[vs ((lg s_ ((s0).toNat)).1),vs ((lg s_ ((s0).toNat)).2.1),vi ((lg s_ ((s0).toNat)).2.2.1),vi ((lg s_ ((s0).toNat)).2.2.2.1),vi ((lg s_ ((s0).toNat)).2.2.2.2.1),vi ((lg s_ ((s0).toNat)).2.2.2.2.2)]) rfl (.r 0) (RJ (g:=fun p:Str × Str × Int × Int × Int × Int=>[vs p.1,vs p.2.1,vi p.2.2.1,vi p.2.2.2.1,vi p.2.2.2.2.1,vi p.2.2.2.2.2]) (s:=6) (fun _=>rfl) s_ ((s0).toNat) (tl h1)) rfl rfl isAgg57 Ut rfl) ?_
   have ⟨Zu,Yk,H⟩:=Z9 H
   refine YE (Cg (vs:=[aG [(1,[vs ((lg s_ ((s0).toNat)).1)]),(1,[vs ((lg s_ ((s0).toNat)).2.1)]),(1,[vi ((lg s_ ((s0).toNat)).2.2.1)]),(1,[vi ((lg s_ ((s0).toNat)).2.2.2.1)]),(1,[vi ((lg s_ ((s0).toNat)).2.2.2.2.1)]),(1,[vi ((lg s_ ((s0).toNat)).2.2.2.2.2)])]]) (cap:=[ptr (some (bfc0,obfc0)) 0]) (qG Kl Km Jb Jj Gp Yk :) call75 ⟨.r 1, .r 2, .r 3, .r 4, .r 5, .r 6, .r 7, .r 8, .r 9, .r 10, .r 11, .r 12, .r 13, .r 14, .r 15, .r 16, .r 17, .r 18, .r 19, .r 20, .r 21,trivial⟩) (fun Re=>?_)
   refine Z6 (Sn H (fun hc H=>?_) (fun hc H=>?_))
   ·refine Z_ (Zj 2 rfl ?_)
    refine Zq (ZE (ZZ (ZZ (ZE (ZZ ?_)))))
    have M3:=(MK _ (Option.some.inj H).symm)
    subst M3
    exact Wj
   refine ZN (ZW (Z7 (ZH (ZV (ZT XN) ?_))))
   refine YP ?_
   refine ZK ?_
   obtain rfl:=sj H
   exact Ri [] (hK (ZJ (s0+1)) rfl ())
  refine YW (Z0 (Z0 ?_))
  obtain rfl:=sj H
  exact WW [] (hE () rfl ())
 rcases Yw with Yw | rv
 ·intro Fe
  dsimp only at H
  refine ZL (Z7 (Z_ (Y2 ?_)))
  refine Zq ?_
  obtain rfl:=sj H
  exact Wj
 exact (Option.some.inj H)
end Go.Proofs
end

/-
  Part 33 of the proof of what several laws share.
-/
import Derived.Test.YtkgeoekcnlgfnaaGreatDoorKh32
set_option maxHeartbeats 4000000
set_option maxRecDepth 20000
set_option linter.unusedVariables false
set_option linter.unusedSimpArgs false
section
namespace Go.Proofs
open Go Go.Kx
open TryzI Tryz
def U5 (Pj:Bool) (Xp Xo:List (Int)) (QK:List (Str)) (GQ:Str) (QG:List (Str)) (Sm:Str) (PK:Int) (Ki:Str) (RS:List (Str × Str × Int × Int × Int × Int)) (J8:Str) (MQ G_:Int) (MP Kh:Int) (JI:Bool) (Q6 QT:List (Int)) (IR:List (Str)) (sJ:Str) (IZ:List (Str)) (Kc:Str) (IX:Int) (AZ:Str) (Jz:List (Str × Str × Int × Int × Int × Int)) (A7:Str) (ET u7:Int) (EN AJ:Int):Option (Bool) :=
 if (Pj == JI)=true then ((Yo Xp Q6).bind fun Zu=>(if Zu=true then ((Yo Xo QT).bind fun YJ=>(if YJ=true then ((XX QK IR).bind fun X7=>(if X7=true then (if GQ=sJ then ((XX QG IZ).bind fun Xu=>(if Xu=true then (if Sm=Kc then (if PK=IX then (if Ki=AZ then ((WK RS Jz).bind fun UC=>(if UC=true then (if J8=A7 then (if MQ=ET then (if G_=u7 then (if MP=EN then (X5 (decide (Kh=AJ)) fun x1=>(some x1)) else (some false)) else (some false)) else (some false)) else (some false)) else (some false))) else (some false)) else (some false)) else (some false)) else (some false))) else (some false)) else (some false))) else (some false))) else (some false))) else (some false)
theorem Gb {Aa_Suites:Y6} {ca_Suites:Nat} {Aa_Groups:Y6} {ca_Groups:Nat} {Aa_Chain:Y6} {ca_Chain:Nat} {Aa_Roots:Y6} {ca_Roots:Nat} {Aa_Psk:Y6} {ca_Psk:Nat} {Ab_Suites:Y6} {cb_Suites:Nat} {Ab_Groups:Y6} {cb_Groups:Nat} {Ab_Chain:Y6} {cb_Chain:Nat} {Ab_Roots:Y6} {cb_Roots:Nat} {Ab_Psk:Y6} {cb_Psk:Nat} {Pj:Bool} {Xp:List (Int)} {Xo:List (Int)} {QK:List (Str)} {GQ:Str} {QG:List (Str)} {Sm:Str} {PK:Int} {Ki:Str} {RS:List (Str × Str × Int × Int × Int × Int)} {J8:Str} {MQ:Int} {G_:Int} {MP:Int} {Kh:Int} {JI:Bool} {Q6:List (Int)} {QT:List (Int)} {IR:List (Str)} {sJ:Str} {IZ:List (Str)} {Kc:Str} {IX:Int} {AZ:Str} {Jz:List (Str × Str × Int × Int × Int × Int)} {A7:Str} {ET:Int} {u7:Int} {EN:Int} {AJ:Int} (Ms:(Xp).length≤ca_Suites) (Mq:(Xo).length≤ca_Groups) (Ci:(QK).length≤ca_Chain) (BJ:(QG).length≤ca_Roots) (tq:(RS).length≤ca_Psk) (Ih:(Q6).length≤cb_Suites) (Ic:(QT).length≤cb_Groups) (ru:(IR).length≤cb_Chain) (pK:(IZ).length≤cb_Roots) (fU:(Jz).length≤cb_Psk) {r:Bool} (H:U5 Pj Xp Xo QK GQ QG Sm PK Ki RS J8 MQ G_ MP Kh JI Q6 QT IR sJ IZ Kc IX AZ Jz A7 ET u7 EN AJ=some r) :
  Does Tryz.prog 20 [aG [(1,[vb Pj]),(1,[sl Aa_Suites ((Xp).length) ca_Suites]),(1,[sl Aa_Groups ((Xo).length) ca_Groups]),(1,[sl Aa_Chain ((QK).length) ca_Chain]),(1,[vs GQ]),(1,[sl Aa_Roots ((QG).length) ca_Roots]),(1,[vs Sm]),(1,[vi PK]),(1,[vs Ki]),(1,[sl Aa_Psk ((RS).length) ca_Psk]),(1,[vs J8]),(1,[vi MQ]),(1,[vi G_]),(1,[vi MP]),(1,[vi Kh])],aG [(1,[vb JI]),(1,[sl Ab_Suites ((Q6).length) cb_Suites]),(1,[sl Ab_Groups ((QT).length) cb_Groups]),(1,[sl Ab_Chain ((IR).length) cb_Chain]),(1,[vs sJ]),(1,[sl Ab_Roots ((IZ).length) cb_Roots]),(1,[vs Kc]),(1,[vi IX]),(1,[vs AZ]),(1,[sl Ab_Psk ((Jz).length) cb_Psk]),(1,[vs A7]),(1,[vi ET]),(1,[vi u7]),(1,[vi EN]),(1,[vi AJ])]] [] [⟨Aa_Suites,eI Xp⟩,⟨Aa_Groups,eI Xo⟩,⟨Aa_Chain,eS QK⟩,⟨Aa_Roots,eS QG⟩,⟨Aa_Psk,eF (fun p:Str × Str × Int × Int × Int × Int=>[vs p.1,vs p.2.1,vi p.2.2.1,vi p.2.2.2.1,vi p.2.2.2.2.1,vi p.2.2.2.2.2]) RS⟩,⟨Ab_Suites,eI Q6⟩,⟨Ab_Groups,eI QT⟩,⟨Ab_Chain,eS IR⟩,⟨Ab_Roots,eS IZ⟩,⟨Ab_Psk,eF (fun p:Str × Str × Int × Int × Int × Int=>[vs p.1,vs p.2.1,vi p.2.2.1,vi p.2.2.2.1,vi p.2.2.2.2.1,vi p.2.2.2.2.2]) Jz⟩] (Γ:=Unit) (fun g=>vb r) (fun g=>[]):=by
 intro w hmem hro hd
 refine Zn func20 rfl ntmps20 rfl hmem hro hd ?_
 unfold U5 at H
 refine Z_ (YE PT (fun b1=>?_))
 refine YE PT (fun b2=>?_)
 refine Y2 ?_
 refine Z6 (Z_ (ZV (ZQ 0 underlying26 MS) ?_))
 refine ZV (Z8 rfl (.o 15) rfl isAgg4) ?_
 refine ZV (ZQ 0 underlying26 MS) ?_
 refine ZV (Z8 rfl (.o 0) rfl isAgg4) ?_
 refine ZV (Zg rfl rfl (fun w=>adY w Pj JI underlying4)) ?_
 refine YP ?_
 refine Mg (d:=10) H (fun hc H=>?_) (fun hc H=>?_)
 ·refine Zc (ZQ 1 underlying26 XO) ?_
  refine Zc (Z8 rfl (.o 16) rfl isAgg22) ?_
  refine Zc (ZQ 1 underlying26 XO) ?_
  refine Zc (Z8 rfl (.o 1) rfl isAgg22) ?_
  have ⟨Zu,Yk,H⟩:=Z9 H
  refine JQ (Y4 (OC Ms Ih Yk :) call27 ⟨.r 0, .r 5,trivial⟩) (fun Re=>?_)
  refine Zj 2 rfl ?_
  refine Mg (d:=17) H (fun hc H=>?_) (fun hc H=>?_)
  ·refine Zc (ZQ 2 underlying26 XO) ?_
   refine Zc (Z8 rfl (.o 17) rfl isAgg22) ?_
   refine Zc (ZQ 2 underlying26 XO) ?_
   refine Zc (Z8 rfl (.o 2) rfl isAgg22) ?_
   have ⟨YJ,X6,H⟩:=Z9 H
   refine JQ (Y4 (OC Mq Ic X6 :) call27 ⟨.r 1, .r 6,trivial⟩) (fun UD=>?_)
   refine Zj 2 rfl ?_
   refine Mg (d:=24) H (fun hc H=>?_) (fun hc H=>?_)
   ·refine Zc (ZQ 3 underlying26 Xn) ?_
    refine Zc (Z8 rfl (.o 18) rfl isAgg23) ?_
    refine Zc (ZQ 3 underlying26 Xn) ?_
    refine Zc (Z8 rfl (.o 3) rfl isAgg23) ?_
    have ⟨X7,Vt,H⟩:=Z9 H
    refine JQ (Y4 (I4 Ci ru Vt :) call28 ⟨.r 2, .r 7,trivial⟩) (fun Pm=>?_)
    refine Zj 2 rfl ?_
    refine Mg (d:=31) H (fun hc H=>?_) (fun hc H=>?_)
    ·refine Zc (ZQ 4 underlying26 Xe) ?_
     refine Zc (Z8 rfl (.o 19) rfl isAgg9) ?_
     refine Zc (ZQ 4 underlying26 Xe) ?_
     refine Zc (Z8 rfl (.o 4) rfl isAgg9) ?_
     refine Zc (ZT L6) ?_
     refine Zj 2 rfl ?_
     refine Td (d:=38) H (fun hc H=>?_) (fun hc H=>?_)
     ·refine Zc (ZQ 5 underlying26 Xn) ?_
      refine Zc (Z8 rfl (.o 20) rfl isAgg23) ?_
      refine Zc (ZQ 5 underlying26 Xn) ?_
      refine Zc (Z8 rfl (.o 5) rfl isAgg23) ?_
      have ⟨Xu,UH,H⟩:=Z9 H
      refine JQ (Y4 (I4 BJ pK UH :) call28 ⟨.r 3, .r 8,trivial⟩) (fun JV=>?_)
      refine Zj 2 rfl ?_
      refine Mg (d:=45) H (fun hc H=>?_) (fun hc H=>?_)
      ·refine Zc (ZQ 6 underlying26 Xe) ?_
       refine Zc (Z8 rfl (.o 21) rfl isAgg9) ?_
       refine Zc (ZQ 6 underlying26 Xe) ?_
       refine Zc (Z8 rfl (.o 6) rfl isAgg9) ?_
       refine Zc (ZT L6) ?_
       refine Zj 2 rfl ?_
       refine Td (d:=52) H (fun hc H=>?_) (fun hc H=>?_)
       ·refine Zc (ZQ 7 underlying26 YM) ?_
        refine Zc (Z8 rfl (.o 22) rfl isAgg3) ?_
        refine Zc (ZQ 7 underlying26 YM) ?_
        refine Zc (Z8 rfl (.o 7) rfl isAgg3) ?_
        refine Zc (ZT Xr) ?_
        refine Zj 2 rfl ?_
        refine Td (d:=59) H (fun hc H=>?_) (fun hc H=>?_)
        ·refine Zc (ZQ 8 underlying26 Xe) ?_
         refine Zc (Z8 rfl (.o 23) rfl isAgg9) ?_
         refine Zc (ZQ 8 underlying26 Xe) ?_
         refine Zc (Z8 rfl (.o 8) rfl isAgg9) ?_
         refine Zc (ZT L6) ?_
         refine Zj 2 rfl ?_
         refine Td (d:=66) H (fun hc H=>?_) (fun hc H=>?_)
         ·refine Zc (ZQ 9 underlying26 R6) ?_
          refine Zc (Z8 rfl (.o 24) rfl isAgg24) ?_
          refine Zc (ZQ 9 underlying26 R6) ?_
          refine Zc (Z8 rfl (.o 9) rfl isAgg24) ?_
          have ⟨UC,Qi,H⟩:=Z9 H
          refine JQ (Y4 (pY tq fU Qi :) call54 ⟨.r 4, .r 9,trivial⟩) (fun zM=>?_)
          refine Zj 2 rfl ?_
          refine Mg (d:=73) H (fun hc H=>?_) (fun hc H=>?_)
          ·refine Zc (ZQ 10 underlying26 Xe) ?_
           refine Zc (Z8 rfl (.o 25) rfl isAgg9) ?_
           refine Zc (ZQ 10 underlying26 Xe) ?_
           refine Zc (Z8 rfl (.o 10) rfl isAgg9) ?_
           refine Zc (ZT L6) ?_
           refine Zj 2 rfl ?_
           refine Td (d:=80) H (fun hc H=>?_) (fun hc H=>?_)
           ·refine Zc (ZQ 11 underlying26 YM) ?_
            refine Zc (Z8 rfl (.o 26) rfl isAgg3) ?_
            refine Zc (ZQ 11 underlying26 YM) ?_
            refine Zc (Z8 rfl (.o 11) rfl isAgg3) ?_
            refine Zc (ZT Xr) ?_
            refine Zj 2 rfl ?_
            refine Td (d:=87) H (fun hc H=>?_) (fun hc H=>?_)
            ·refine Zc (ZQ 12 underlying26 YM) ?_
             refine Zc (Z8 rfl (.o 27) rfl isAgg3) ?_
             refine Zc (ZQ 12 underlying26 YM) ?_
             refine Zc (Z8 rfl (.o 12) rfl isAgg3) ?_
             refine Zc (ZT Xr) ?_
             refine Zj 2 rfl ?_
             refine Td (d:=94) H (fun hc H=>?_) (fun hc H=>?_)
             ·refine Zc (ZQ 13 underlying26 YM) ?_
              refine Zc (Z8 rfl (.o 28) rfl isAgg3) ?_
              refine Zc (ZQ 13 underlying26 YM) ?_
              refine Zc (Z8 rfl (.o 13) rfl isAgg3) ?_
              refine Zc (ZT Xr) ?_
              refine Zj 2 rfl ?_
              refine Td (d:=101) H (fun hc H=>?_) (fun hc H=>?_)
              ·refine Zc (ZQ 14 underlying26 YM) ?_
               refine Zc (Z8 rfl (.o 29) rfl isAgg3) ?_
               refine Zc (ZQ 14 underlying26 YM) ?_
               refine Zc (Z8 rfl (.o 14) rfl isAgg3) ?_
               refine Zc (ZT Xr) ?_
               refine Zj 2 rfl ?_
               have ⟨x1,TK,H⟩:=ZX H
               refine WN 4 (congrArg vb TK) ?_
               refine Z6 (N7 [4] rfl rfl ?_)
               refine Y7 ?_
               obtain rfl:=sj H
               exact Wj
              refine Zj 7 rfl ?_
              refine Z6 (N7 [4] rfl rfl ?_)
              refine Y7 ?_
              obtain rfl:=sj H
              exact Wj
             refine Zj 14 rfl ?_
             refine Z6 (N7 [4] rfl rfl ?_)
             refine Y7 ?_
             obtain rfl:=sj H
             exact Wj
            refine Zj 21 rfl ?_
            refine Z6 (N7 [4] rfl rfl ?_)
            refine Y7 ?_
            obtain rfl:=sj H
            exact Wj
           refine Zj 28 rfl ?_
           refine Z6 (N7 [4] rfl rfl ?_)
           refine Y7 ?_
           obtain rfl:=sj H
           exact Wj
          refine Zj 35 rfl ?_
          refine Z6 (N7 [4] rfl rfl ?_)
          refine Y7 ?_
          obtain rfl:=sj H
          exact Wj
         refine Zj 42 rfl ?_
         refine Z6 (N7 [4] rfl rfl ?_)
         refine Y7 ?_
         obtain rfl:=sj H
         exact Wj
        refine Zj 49 rfl ?_
        refine Z6 (N7 [4] rfl rfl ?_)
        refine Y7 ?_
        obtain rfl:=sj H
        exact Wj
       refine Zj 56 rfl ?_
       refine Z6 (N7 [4] rfl rfl ?_)
       refine Y7 ?_
       obtain rfl:=sj H
       exact Wj
      refine Zj 63 rfl ?_
      refine Z6 (N7 [4] rfl rfl ?_)
      refine Y7 ?_
      obtain rfl:=sj H
      exact Wj
     refine Zj 70 rfl ?_
     refine Z6 (N7 [4] rfl rfl ?_)
     refine Y7 ?_
     obtain rfl:=sj H
     exact Wj
    refine Zj 77 rfl ?_
    refine Z6 (N7 [4] rfl rfl ?_)
    refine Y7 ?_
    obtain rfl:=sj H
    exact Wj
   refine Zj 84 rfl ?_
   refine Z6 (N7 [4] rfl rfl ?_)
   refine Y7 ?_
   obtain rfl:=sj H
   exact Wj
  refine Zj 91 rfl ?_
  refine Z6 (N7 [4] rfl rfl ?_)
  refine Y7 ?_
  obtain rfl:=sj H
  exact Wj
 refine Zj 98 rfl ?_
 refine Z6 (N7 [4] rfl rfl ?_)
 refine Y7 ?_
 obtain rfl:=sj H
 exact Wj
def Xl.b0 (a_ b:List (Int × Str)) (s0:Int):Option ((Int) ⊕ ((Unit) ⊕ (Bool))) :=
 if s0<((a_).length:Int) then (if 0≤s0∧s0<((a_).length:Int) then (if 0≤s0∧s0<((b).length:Int) then (if (!(Lf.all [Lf.i ((lg a_ ((s0).toNat)).1),Lf.s ((lg a_ ((s0).toNat)).2)] [Lf.i ((lg b ((s0).toNat)).1),Lf.s ((lg b ((s0).toNat)).2)]))=true then (some (.inr (.inr false))) else (some (.inl (ZJ (s0+1))))) else none) else none) else (some (.inr (.inl ())))
def Xl (a_ b:List (Int × Str)):Option (Bool) :=
 if ((a_).length:Int) ≠ ((b).length:Int) then (some false) else ((loop (Xl.b0 a_ b) BIG 0).bind fun Yw=>(match Yw with | .inl Yw=>(some true) | .inr rv=>some rv))
theorem oW {Aa_:Y6} {ca_:Nat} {Ab:Y6} {cb:Nat} {a_:List (Int × Str)} {b:List (Int × Str)} (jb:(a_).length≤ca_) (hcb:(b).length≤cb) {r:Bool} (H:Xl a_ b=some r) :
  Does Tryz.prog 52 [sl Aa_ ((a_).length) ca_,sl Ab ((b).length) cb] [] [⟨Aa_,eF (fun p:Int × Str=>[vi p.1,vs p.2]) a_⟩,⟨Ab,eF (fun p:Int × Str=>[vi p.1,vs p.2]) b⟩] (Γ:=Unit) (fun g=>vb r) (fun g=>[]):=by
 intro w hmem hro hd
 refine Zn func52 rfl ntmps52 rfl hmem hro hd ?_
 unfold Xl at H
 refine Z_ (Y2 ?_)
 refine Z6 (ZY (Z_ (YP ?_)))
 refine ZV (ZG rfl underlying27) ?_
 refine YP ?_
 refine ZV (ZG rfl underlying27) ?_
 refine ZV (ZT SN) ?_
 refine Z6 (UK H (fun hc H=>?_) (fun hc H=>?_))
 ·refine Z_ (Y2 ?_)
  refine Zq (ZZ ?_)
  obtain rfl:=sj H
  exact Wj
 refine ZN (Z7 (ZY (Z_ (Y2 ?_))))
 refine Z6 (ZP ?_)
 have ⟨Yw,Hl,H⟩:=Z9 H
 refine Wz [0,1,5] [] rfl rfl ?_
 refine U0 (id:=0) (body:=(Xl.b0 a_ b)) (σ:=Int) (Γ:=Unit) (Γx:=Unit) (fun s0 WG=>[(0,sl Aa_ ((a_).length) ca_),(1,sl Ab ((b).length) cb),(5,vi s0)]) (fun s0 WG=>[]) (fun t g=>[]) (fun t g=>[]) r ?_ BIG 0 () Yw Hl ?_
 ·intro s0 WG r1 H K hK hE MK
  unfold Xl.b0 at H
  refine ZY (Z_ (Zj 2 rfl ?_))
  refine ZV (ZG rfl underlying27) ?_
  refine ZV (ZT WV) ?_
  refine Z6 (UK H (fun hc H=>?_) (fun hc H=>?_))
  ·refine ZN (Z7 (ZY (ZP (ZY ?_))))
   have ⟨h1,H⟩:=Z4 H
   have ⟨h2,H⟩:=Z4 H
   refine U3 [] 9 rfl ?_
   refine PX 0 [] (.v 0 [] rfl rfl (ZO rfl) (.v 1 [] rfl rfl (ZO rfl) (.v 2 [0,1] rfl rfl (YK (i:=s0) rfl rfl underlying27 Rv rfl (.r 0) (VC (s:=2) (fun _=>rfl) rfl (tl h1)) h1.1 h1.2 (k:=((s0).toNat) * 2) rfl) (.v 3 [2] rfl rfl (UE (n:=2) (ds:=[vi ((lg a_ ((s0).toNat)).1),vs ((lg a_ ((s0).toNat)).2)]) rfl (.r 0) (RJ (g:=fun p:Int × Str=>[vi p.1,vs p.2]) (s:=2) (fun _=>rfl) a_ ((s0).toNat) (tl h1)) rfl rfl isAgg50 Rv rfl) (.v 4 [] rfl rfl (ZO rfl) (.v 5 [] rfl rfl (ZO rfl) (.v 6 [4,5] rfl rfl (YK (i:=s0) rfl rfl underlying27 Rv rfl (.r 1) (VC (s:=2) (fun _=>rfl) rfl (tl h2)) h2.1 h2.2 (k:=((s0).toNat) * 2) rfl) (.v 7 [6] rfl rfl (UE (n:=2) (ds:=[vi ((lg b ((s0).toNat)).1),vs ((lg b ((s0).toNat)).2)]) rfl (.r 1) (RJ (g:=fun p:Int × Str=>[vi p.1,vs p.2]) (s:=2) (fun _=>rfl) b ((s0).toNat) (tl h2)) rfl rfl isAgg50 Rv rfl) (.v 8 [7,3] rfl rfl (Zg rfl rfl (fun w=>FB w underlying50 (by kernel_rfl) (by kernel_rfl) [Lf.i ((lg a_ ((s0).toNat)).1),Lf.s ((lg a_ ((s0).toNat)).2)] [Lf.i ((lg b ((s0).toNat)).1),Lf.s ((lg b ((s0).toNat)).2)] (by kernel_rfl) (by kernel_rfl) (by kernel_rfl) (by kernel_rfl))) .nil))))))))) (fun γ=>?_)
   refine Qj [25,0,1,5] rfl rfl ?_
   refine Vi ?_
   refine Z7 (Sn H (fun hc H=>?_) (fun hc H=>?_))
   ·refine Z_ (Y2 ?_)
    refine Zq (ZE (ZZ (ZZ (ZE (ZZ ?_)))))
    have M3:=(MK _ (Option.some.inj H).symm)
    subst M3
    exact Wj
   refine ZN (ZW (Z7 (ZH (YP ?_))))
   refine ZV (ZT XN) ?_
   refine Y2 ?_
   refine ZK ?_
   obtain rfl:=sj H
   exact Ri [] (hK (ZJ (s0+1)) rfl ())
  refine YW (Z0 (Z0 ?_))
  obtain rfl:=sj H
  exact WW [] (hE () rfl ())
 rcases Yw with Yw | rv
 ·intro Fe
  dsimp only at H
  refine ZL (Z7 (Z_ (Y2 ?_)))
  refine Zq ?_
  obtain rfl:=sj H
  exact Wj
 exact (Option.some.inj H)
def XT.b0 (a_ b:List (Str × Int)) (s0:Int):Option ((Int) ⊕ ((Unit) ⊕ (Bool))) :=
 if s0<((a_).length:Int) then (if 0≤s0∧s0<((a_).length:Int) then (if 0≤s0∧s0<((b).length:Int) then (if (!(Lf.all [Lf.s ((lg a_ ((s0).toNat)).1),Lf.i ((lg a_ ((s0).toNat)).2)] [Lf.s ((lg b ((s0).toNat)).1),Lf.i ((lg b ((s0).toNat)).2)]))=true then (some (.inr (.inr false))) else (some (.inl (ZJ (s0+1))))) else none) else none) else (some (.inr (.inl ())))
def XT (a_ b:List (Str × Int)):Option (Bool) :=
 if ((a_).length:Int) ≠ ((b).length:Int) then (some false) else ((loop (XT.b0 a_ b) BIG 0).bind fun Yw=>(match Yw with | .inl Yw=>(some true) | .inr rv=>some rv))
theorem qD {Aa_:Y6} {ca_:Nat} {Ab:Y6} {cb:Nat} {a_:List (Str × Int)} {b:List (Str × Int)} (jb:(a_).length≤ca_) (hcb:(b).length≤cb) {r:Bool} (H:XT a_ b=some r) :
  Does Tryz.prog 53 [sl Aa_ ((a_).length) ca_,sl Ab ((b).length) cb] [] [⟨Aa_,eF (fun p:Str × Int=>[vs p.1,vi p.2]) a_⟩,⟨Ab,eF (fun p:Str × Int=>[vs p.1,vi p.2]) b⟩] (Γ:=Unit) (fun g=>vb r) (fun g=>[]):=by
 intro w hmem hro hd
 refine Zn func53 rfl ntmps53 rfl hmem hro hd ?_
 unfold XT at H
 refine Z_ (Y2 ?_)
 refine Z6 (ZY (Z_ (YP ?_)))
 refine ZV (ZG rfl underlying28) ?_
 refine YP ?_
 refine ZV (ZG rfl underlying28) ?_
 refine ZV (ZT SN) ?_
 refine Z6 (UK H (fun hc H=>?_) (fun hc H=>?_))
 ·refine Z_ (Y2 ?_)
  refine Zq (ZZ ?_)
  obtain rfl:=sj H
  exact Wj
 refine ZN (Z7 (ZY (Z_ (Y2 ?_))))
 refine Z6 (ZP ?_)
 have ⟨Yw,Hl,H⟩:=Z9 H
 refine Wz [0,1,5] [] rfl rfl ?_
 refine U0 (id:=0) (body:=(XT.b0 a_ b)) (σ:=Int) (Γ:=Unit) (Γx:=Unit) (fun s0 WG=>[(0,sl Aa_ ((a_).length) ca_),(1,sl Ab ((b).length) cb),(5,vi s0)]) (fun s0 WG=>[]) (fun t g=>[]) (fun t g=>[]) r ?_ BIG 0 () Yw Hl ?_
 ·intro s0 WG r1 H K hK hE MK
  unfold XT.b0 at H
  refine ZY (Z_ (Zj 2 rfl ?_))
  refine ZV (ZG rfl underlying28) ?_
  refine ZV (ZT WV) ?_
  refine Z6 (UK H (fun hc H=>?_) (fun hc H=>?_))
  ·refine ZN (Z7 (ZY (ZP (ZY ?_))))
   have ⟨h1,H⟩:=Z4 H
   have ⟨h2,H⟩:=Z4 H
   refine U3 [] 9 rfl ?_
   refine PX 0 [] (.v 0 [] rfl rfl (ZO rfl) (.v 1 [] rfl rfl (ZO rfl) (.v 2 [0,1] rfl rfl (YK (i:=s0) rfl rfl underlying28 LH rfl (.r 0) (VC (s:=2) (fun _=>rfl) rfl (tl h1)) h1.1 h1.2 (k:=((s0).toNat) * 2) rfl) (.v 3 [2] rfl rfl (UE (n:=2) (ds:=[vs ((lg a_ ((s0).toNat)).1),vi ((lg a_ ((s0).toNat)).2)]) rfl (.r 0) (RJ (g:=fun p:Str × Int=>[vs p.1,vi p.2]) (s:=2) (fun _=>rfl) a_ ((s0).toNat) (tl h1)) rfl rfl isAgg60 LH rfl) (.v 4 [] rfl rfl (ZO rfl) (.v 5 [] rfl rfl (ZO rfl) (.v 6 [4,5] rfl rfl (YK (i:=s0) rfl rfl underlying28 LH rfl (.r 1) (VC (s:=2) (fun _=>rfl) rfl (tl h2)) h2.1 h2.2 (k:=((s0).toNat) * 2) rfl) (.v 7 [6] rfl rfl (UE (n:=2) (ds:=[vs ((lg b ((s0).toNat)).1),vi ((lg b ((s0).toNat)).2)]) rfl (.r 1) (RJ (g:=fun p:Str × Int=>[vs p.1,vi p.2]) (s:=2) (fun _=>rfl) b ((s0).toNat) (tl h2)) rfl rfl isAgg60 LH rfl) (.v 8 [7,3] rfl rfl (Zg rfl rfl (fun w=>FB w underlying60 (by kernel_rfl) (by kernel_rfl) [Lf.s ((lg a_ ((s0).toNat)).1),Lf.i ((lg a_ ((s0).toNat)).2)] [Lf.s ((lg b ((s0).toNat)).1),Lf.i ((lg b ((s0).toNat)).2)] (by kernel_rfl) (by kernel_rfl) (by kernel_rfl) (by kernel_rfl))) .nil))))))))) (fun γ=>?_)
   refine Qj [25,0,1,5] rfl rfl ?_
   refine Vi ?_
   refine Z7 (Sn H (fun hc H=>?_) (fun hc H=>?_))
   ·refine Z_ (Y2 ?_)
    refine Zq (ZE (ZZ (ZZ (ZE (ZZ ?_)))))
    have M3:=(MK _ (Option.some.inj H).symm)
    subst M3
    exact Wj
   refine ZN (ZW (Z7 (ZH (YP ?_))))
   refine ZV (ZT XN) ?_
   refine Y2 ?_
   refine ZK ?_
   obtain rfl:=sj H
   exact Ri [] (hK (ZJ (s0+1)) rfl ())
  refine YW (Z0 (Z0 ?_))
  obtain rfl:=sj H
  exact WW [] (hE () rfl ())
 rcases Yw with Yw | rv
 ·intro Fe
  dsimp only at H
  refine ZL (Z7 (Z_ (Y2 ?_)))
  refine Zq ?_
  obtain rfl:=sj H
  exact Wj
 exact (Option.some.inj H)
def TZ (NR:Int) (Q5 Sy:Str) (Xp:List (Int)) (Sm:Str) (V7 Xo:List (Int)) (VB Un:List (Int)) (Vb:List (Int × Str)) (Xj:List (Str × Int)) (VD:List (Str)) (RS:Int) (U_:List (Int)) (Uk:List (Str)) (Q0:Int) (NS:Str) (Nw KP:Int) (PL:Str) (QV z_:Int) (Hd I6:Str) (Q6:List (Int)) (Kc:Str) (NL QT:List (Int)) (MN IY:List (Int)) (Lc:List (Int × Str)) (PO:List (Str × Int)) (MM:List (Str)) (Jz:Int) (KZ:List (Int)) (IQ:List (Str)) (GM:Int) (AL:Str) (zU uU:Int) (EO:Str) (G8:Int):Option (Bool) :=
 if NR=z_ then (if Q5=Hd then (if Sy=I6 then ((Yo Xp Q6).bind fun Zu=>(if Zu=true then (if Sm=Kc then ((Yo V7 NL).bind fun YJ=>(if YJ=true then ((Yo Xo QT).bind fun X7=>(if X7=true then ((Yo VB MN).bind fun Xu=>(if Xu=true then ((Yo Un IY).bind fun UC=>(if UC=true then ((Xl Vb Lc).bind fun MV=>(if MV=true then ((XT Xj PO).bind fun JM=>(if JM=true then ((XX VD MM).bind fun JY=>(if JY=true then (if RS=Jz then ((Yo U_ KZ).bind fun xG=>(if xG=true then ((XX Uk IQ).bind fun IJ=>(if IJ=true then (if Q0=GM then (if NS=AL then (if Nw=zU then (if KP=uU then (if PL=EO then (X5 (decide (QV=G8)) fun x1=>(some x1)) else (some false)) else (some false)) else (some false)) else (some false)) else (some false)) else (some false))) else (some false))) else (some false)) else (some false))) else (some false))) else (some false))) else (some false))) else (some false))) else (some false))) else (some false))) else (some false)) else (some false))) else (some false)) else (some false)) else (some false)
theorem K9 {Aa_Suites:Y6} {ca_Suites:Nat} {Aa_Versions:Y6} {ca_Versions:Nat} {Aa_Groups:Y6} {ca_Groups:Nat} {Aa_Schemes:Y6} {ca_Schemes:Nat} {Aa_Modes:Y6} {ca_Modes:Nat} {Aa_Shares:Y6} {ca_Shares:Nat} {Aa_Identities:Y6} {ca_Identities:Nat} {Aa_Binders:Y6} {ca_Binders:Nat} {Aa_Others:Y6} {ca_Others:Nat} {Aa_Certs:Y6} {ca_Certs:Nat} {Ab_Suites:Y6} {cb_Suites:Nat} {Ab_Versions:Y6} {cb_Versions:Nat} {Ab_Groups:Y6} {cb_Groups:Nat} {Ab_Schemes:Y6} {cb_Schemes:Nat} {Ab_Modes:Y6} {cb_Modes:Nat} {Ab_Shares:Y6} {cb_Shares:Nat} {Ab_Identities:Y6} {cb_Identities:Nat} {Ab_Binders:Y6} {cb_Binders:Nat} {Ab_Others:Y6} {cb_Others:Nat} {Ab_Certs:Y6} {cb_Certs:Nat} {NR:Int} {Q5:Str} {Sy:Str} {Xp:List (Int)} {Sm:Str} {V7:List (Int)} {Xo:List (Int)} {VB:List (Int)} {Un:List (Int)} {Vb:List (Int × Str)} {Xj:List (Str × Int)} {VD:List (Str)} {RS:Int} {U_:List (Int)} {Uk:List (Str)} {Q0:Int} {NS:Str} {Nw:Int} {KP:Int} {PL:Str} {QV:Int} {z_:Int} {Hd:Str} {I6:Str} {Q6:List (Int)} {Kc:Str} {NL:List (Int)} {QT:List (Int)} {MN:List (Int)} {IY:List (Int)} {Lc:List (Int × Str)} {PO:List (Str × Int)} {MM:List (Str)} {Jz:Int} {KZ:List (Int)} {IQ:List (Str)} {GM:Int} {AL:Str} {zU:Int} {uU:Int} {EO:Str} {G8:Int} (Ms:(Xp).length≤ca_Suites) (GJ:(V7).length≤ca_Versions) (Mq:(Xo).length≤ca_Groups) (FH:(VB).length≤ca_Schemes) (CE:(Un).length≤ca_Modes) (Ev:(Vb).length≤ca_Shares) (Jk:(Xj).length≤ca_Identities) (FJ:(VD).length≤ca_Binders) (Dt:(U_).length≤ca_Others) (Bl:(Uk).length≤ca_Certs) (Ih:(Q6).length≤cb_Suites) (AX:(NL).length≤cb_Versions) (Ic:(QT).length≤cb_Groups) (zC:(MN).length≤cb_Schemes) (pz:(IY).length≤cb_Modes) (w9:(Lc).length≤cb_Shares) (D5:(PO).length≤cb_Identities) (yc:(MM).length≤cb_Binders) (wE:(KZ).length≤cb_Others) (qH:(IQ).length≤cb_Certs) {r:Bool} (H:TZ NR Q5 Sy Xp Sm V7 Xo VB Un Vb Xj VD RS U_ Uk Q0 NS Nw KP PL QV z_ Hd I6 Q6 Kc NL QT MN IY Lc PO MM Jz KZ IQ GM AL zU uU EO G8=some r) :
  Does Tryz.prog 18 [aG [(1,[vi NR]),(1,[vs Q5]),(1,[vs Sy]),(1,[sl Aa_Suites ((Xp).length) ca_Suites]),(1,[vs Sm]),(1,[sl Aa_Versions ((V7).length) ca_Versions]),(1,[sl Aa_Groups ((Xo).length) ca_Groups]),(1,[sl Aa_Schemes ((VB).length) ca_Schemes]),(1,[sl Aa_Modes ((Un).length) ca_Modes]),(1,[sl Aa_Shares ((Vb).length) ca_Shares]),(1,[sl Aa_Identities ((Xj).length) ca_Identities]),(1,[sl Aa_Binders ((VD).length) ca_Binders]),(1,[vi RS]),(1,[sl Aa_Others ((U_).length) ca_Others]),(1,[sl Aa_Certs ((Uk).length) ca_Certs]),(1,[vi Q0]),(1,[vs NS]),(1,[vi Nw]),(1,[vi KP]),(1,[vs PL]),(1,[vi QV])],aG [(1,[vi z_]),(1,[vs Hd]),(1,[vs I6]),(1,[sl Ab_Suites ((Q6).length) cb_Suites]),(1,[vs Kc]),(1,[sl Ab_Versions ((NL).length) cb_Versions]),(1,[sl Ab_Groups ((QT).length) cb_Groups]),(1,[sl Ab_Schemes ((MN).length) cb_Schemes]),(1,[sl Ab_Modes ((IY).length) cb_Modes]),(1,[sl Ab_Shares ((Lc).length) cb_Shares]),(1,[sl Ab_Identities ((PO).length) cb_Identities]),(1,[sl Ab_Binders ((MM).length) cb_Binders]),(1,[vi Jz]),(1,[sl Ab_Others ((KZ).length) cb_Others]),(1,[sl Ab_Certs ((IQ).length) cb_Certs]),(1,[vi GM]),(1,[vs AL]),(1,[vi zU]),(1,[vi uU]),(1,[vs EO]),(1,[vi G8])]] [] [⟨Aa_Suites,eI Xp⟩,⟨Aa_Versions,eI V7⟩,⟨Aa_Groups,eI Xo⟩,⟨Aa_Schemes,eI VB⟩,⟨Aa_Modes,eI Un⟩,⟨Aa_Shares,eF (fun p:Int × Str=>[vi p.1,vs p.2]) Vb⟩,⟨Aa_Identities,eF (fun p:Str × Int=>[vs p.1,vi p.2]) Xj⟩,⟨Aa_Binders,eS VD⟩,⟨Aa_Others,eI U_⟩,⟨Aa_Certs,eS Uk⟩,⟨Ab_Suites,eI Q6⟩,⟨Ab_Versions,eI NL⟩,⟨Ab_Groups,eI QT⟩,⟨Ab_Schemes,eI MN⟩,⟨Ab_Modes,eI IY⟩,⟨Ab_Shares,eF (fun p:Int × Str=>[vi p.1,vs p.2]) Lc⟩,⟨Ab_Identities,eF (fun p:Str × Int=>[vs p.1,vi p.2]) PO⟩,⟨Ab_Binders,eS MM⟩,⟨Ab_Others,eI KZ⟩,⟨Ab_Certs,eS IQ⟩] (Γ:=Unit) (fun g=>vb r) (fun g=>[]):=by
 intro w hmem hro hd
 refine Zn func18 rfl ntmps18 rfl hmem hro hd ?_
 unfold TZ at H
 refine Z_ (YE PT (fun b1=>?_))
 refine YE PT (fun b2=>?_)
 refine Y2 ?_
 refine Z6 (Z_ (ZV (ZQ 0 underlying30 YM) ?_))
 refine ZV (Z8 rfl (.o 21) rfl isAgg3) ?_
 refine ZV (ZQ 0 underlying30 YM) ?_
 refine ZV (Z8 rfl (.o 0) rfl isAgg3) ?_
 refine ZV (ZT Xr) ?_
 refine YP ?_
 refine Td (d:=10) H (fun hc H=>?_) (fun hc H=>?_)
 ·refine Zc (ZQ 1 underlying30 Xe) ?_
  refine Zc (Z8 rfl (.o 22) rfl isAgg9) ?_
  refine Zc (ZQ 1 underlying30 Xe) ?_
  refine Zc (Z8 rfl (.o 1) rfl isAgg9) ?_
  refine Zc (ZT L6) ?_
  refine Zj 2 rfl ?_
  refine Td (d:=17) H (fun hc H=>?_) (fun hc H=>?_)
  ·refine Zc (ZQ 2 underlying30 Xe) ?_
   refine Zc (Z8 rfl (.o 23) rfl isAgg9) ?_
   refine Zc (ZQ 2 underlying30 Xe) ?_
   refine Zc (Z8 rfl (.o 2) rfl isAgg9) ?_
   refine Zc (ZT L6) ?_
   refine Zj 2 rfl ?_
   refine Td (d:=24) H (fun hc H=>?_) (fun hc H=>?_)
   ·refine Zc (ZQ 3 underlying30 XO) ?_
    refine Zc (Z8 rfl (.o 24) rfl isAgg22) ?_
    refine Zc (ZQ 3 underlying30 XO) ?_
    refine Zc (Z8 rfl (.o 3) rfl isAgg22) ?_
    have ⟨Zu,Yk,H⟩:=Z9 H
    refine JQ (Y4 (OC Ms Ih Yk :) call27 ⟨.r 0, .r 10,trivial⟩) (fun Re=>?_)
    refine Zj 2 rfl ?_
    refine Mg (d:=31) H (fun hc H=>?_) (fun hc H=>?_)
    ·refine Zc (ZQ 4 underlying30 Xe) ?_
     refine Zc (Z8 rfl (.o 25) rfl isAgg9) ?_
     refine Zc (ZQ 4 underlying30 Xe) ?_
     refine Zc (Z8 rfl (.o 4) rfl isAgg9) ?_
     refine Zc (ZT L6) ?_
     refine Zj 2 rfl ?_
     refine Td (d:=38) H (fun hc H=>?_) (fun hc H=>?_)
     ·refine Zc (ZQ 5 underlying30 XO) ?_
      refine Zc (Z8 rfl (.o 26) rfl isAgg22) ?_
      refine Zc (ZQ 5 underlying30 XO) ?_
      refine Zc (Z8 rfl (.o 5) rfl isAgg22) ?_
      have ⟨YJ,X6,H⟩:=Z9 H
      refine JQ (Y4 (OC GJ AX X6 :) call27 ⟨.r 1, .r 11,trivial⟩) (fun UD=>?_)
      refine Zj 2 rfl ?_
      refine Mg (d:=45) H (fun hc H=>?_) (fun hc H=>?_)
      ·refine Zc (ZQ 6 underlying30 XO) ?_
       refine Zc (Z8 rfl (.o 27) rfl isAgg22) ?_
       refine Zc (ZQ 6 underlying30 XO) ?_
       refine Zc (Z8 rfl (.o 6) rfl isAgg22) ?_
       have ⟨X7,Vt,H⟩:=Z9 H
       refine JQ (Y4 (OC Mq Ic Vt :) call27 ⟨.r 2, .r 12,trivial⟩) (fun Pm=>?_)
       refine Zj 2 rfl ?_
       refine Mg (d:=52) H (fun hc H=>?_) (fun hc H=>?_)
       ·refine Zc (ZQ 7 underlying30 XO) ?_
        refine Zc (Z8 rfl (.o 28) rfl isAgg22) ?_
        refine Zc (ZQ 7 underlying30 XO) ?_
        refine Zc (Z8 rfl (.o 7) rfl isAgg22) ?_
        have ⟨Xu,UH,H⟩:=Z9 H
        refine JQ (Y4 (OC FH zC UH :) call27 ⟨.r 3, .r 13,trivial⟩) (fun JV=>?_)
        refine Zj 2 rfl ?_
        refine Mg (d:=59) H (fun hc H=>?_) (fun hc H=>?_)
        ·refine Zc (ZQ 8 underlying30 XO) ?_
         refine Zc (Z8 rfl (.o 29) rfl isAgg22) ?_
         refine Zc (ZQ 8 underlying30 XO) ?_
         refine Zc (Z8 rfl (.o 8) rfl isAgg22) ?_
         have ⟨UC,Qi,H⟩:=Z9 H
         refine JQ (Y4 (OC CE pz Qi :) call27 ⟨.r 4, .r 14,trivial⟩) (fun zM=>?_)
         refine Zj 2 rfl ?_
         refine Mg (d:=66) H (fun hc H=>?_) (fun hc H=>?_)
         ·refine Zc (ZQ 9 underlying30 QR) ?_
          refine Zc (Z8 rfl (.o 30) rfl isAgg27) ?_
          refine Zc (ZQ 9 underlying30 QR) ?_
          refine Zc (Z8 rfl (.o 9) rfl isAgg27) ?_
          have ⟨MV,KG,H⟩:=Z9 H
          refine JQ (Y4 (oW Ev w9 KG :) call52 ⟨.r 5, .r 15,trivial⟩) (fun jV=>?_)
          refine Zj 2 rfl ?_
          refine Mg (d:=73) H (fun hc H=>?_) (fun hc H=>?_)
          ·refine Zc (ZQ 10 underlying30 MX) ?_
           refine Zc (Z8 rfl (.o 31) rfl isAgg28) ?_
           refine Zc (ZQ 10 underlying30 MX) ?_
           refine Zc (Z8 rfl (.o 10) rfl isAgg28) ?_
           have ⟨JM,L_,H⟩:=Z9 H
           refine JQ (Y4 (qD Jk D5 L_ :) call53 ⟨.r 6, .r 16,trivial⟩) (fun rE=>?_)
           refine Zj 2 rfl ?_
           refine Mg (d:=80) H (fun hc H=>?_) (fun hc H=>?_)
           ·refine Zc (ZQ 11 underlying30 Xn) ?_
            refine Zc (Z8 rfl (.o 32) rfl isAgg23) ?_
            refine Zc (ZQ 11 underlying30 Xn) ?_
            refine Zc (Z8 rfl (.o 11) rfl isAgg23) ?_
            have ⟨JY,JL,H⟩:=Z9 H
            refine JQ (Y4 (I4 FJ yc JL :) call28 ⟨.r 7, .r 17,trivial⟩) (fun jY=>?_)
            refine Zj 2 rfl ?_
            refine Mg (d:=87) H (fun hc H=>?_) (fun hc H=>?_)
            ·refine Zc (ZQ 12 underlying30 YM) ?_
             refine Zc (Z8 rfl (.o 33) rfl isAgg3) ?_
             refine Zc (ZQ 12 underlying30 YM) ?_
             refine Zc (Z8 rfl (.o 12) rfl isAgg3) ?_
             refine Zc (ZT Xr) ?_
             refine Zj 2 rfl ?_
             refine Td (d:=94) H (fun hc H=>?_) (fun hc H=>?_)
             ·refine Zc (ZQ 13 underlying30 XO) ?_
              refine Zc (Z8 rfl (.o 34) rfl isAgg22) ?_
              refine Zc (ZQ 13 underlying30 XO) ?_
              refine Zc (Z8 rfl (.o 13) rfl isAgg22) ?_
              have ⟨xG,CP,H⟩:=Z9 H
              refine JQ (Y4 (OC Dt wE CP :) call27 ⟨.r 8, .r 18,trivial⟩) (fun g_9=>?_)
              refine Zj 2 rfl ?_
              refine Mg (d:=101) H (fun hc H=>?_) (fun hc H=>?_)
              ·refine Zc (ZQ 14 underlying30 Xn) ?_
               refine Zc (Z8 rfl (.o 35) rfl isAgg23) ?_
               refine Zc (ZQ 14 underlying30 Xn) ?_
               refine Zc (Z8 rfl (.o 14) rfl isAgg23) ?_
               have ⟨IJ,Gx,H⟩:=Z9 H
               refine JQ (Y4 (I4 Bl qH Gx :) call28 ⟨.r 9, .r 19,trivial⟩) (fun mY=>?_)
               refine Zj 2 rfl ?_
               refine Mg (d:=108) H (fun hc H=>?_) (fun hc H=>?_)
               ·refine Zc (ZQ 15 underlying30 YM) ?_
                refine Zc (Z8 rfl (.o 36) rfl isAgg3) ?_
                refine Zc (ZQ 15 underlying30 YM) ?_
                refine Zc (Z8 rfl (.o 15) rfl isAgg3) ?_
                refine Zc (ZT Xr) ?_
                refine Zj 2 rfl ?_
                refine Td (d:=115) H (fun hc H=>?_) (fun hc H=>?_)
                ·refine Zc (ZQ 16 underlying30 Xe) ?_
                 refine Zc (Z8 rfl (.o 37) rfl isAgg9) ?_
                 refine Zc (ZQ 16 underlying30 Xe) ?_
                 refine Zc (Z8 rfl (.o 16) rfl isAgg9) ?_
                 refine Zc (ZT L6) ?_
                 refine Zj 2 rfl ?_
                 refine Td (d:=122) H (fun hc H=>?_) (fun hc H=>?_)
                 ·refine Zc (ZQ 17 underlying30 YM) ?_
                  refine Zc (Z8 rfl (.o 38) rfl isAgg3) ?_
                  refine Zc (ZQ 17 underlying30 YM) ?_
                  refine Zc (Z8 rfl (.o 17) rfl isAgg3) ?_
                  refine Zc (ZT Xr) ?_
                  refine Zj 2 rfl ?_
                  refine Td (d:=129) H (fun hc H=>?_) (fun hc H=>?_)
                  ·refine Zc (ZQ 18 underlying30 YM) ?_
                   refine Zc (Z8 rfl (.o 39) rfl isAgg3) ?_
                   refine Zc (ZQ 18 underlying30 YM) ?_
                   refine Zc (Z8 rfl (.o 18) rfl isAgg3) ?_
                   refine Zc (ZT Xr) ?_
                   refine Zj 2 rfl ?_
                   refine Td (d:=136) H (fun hc H=>?_) (fun hc H=>?_)
                   ·refine Zc (ZQ 19 underlying30 Xe) ?_
                    refine Zc (Z8 rfl (.o 40) rfl isAgg9) ?_
                    refine Zc (ZQ 19 underlying30 Xe) ?_
                    refine Zc (Z8 rfl (.o 19) rfl isAgg9) ?_
                    refine Zc (ZT L6) ?_
                    refine Zj 2 rfl ?_
                    refine Td (d:=143) H (fun hc H=>?_) (fun hc H=>?_)
                    ·refine Zc (ZQ 20 underlying30 YM) ?_
                     refine Zc (Z8 rfl (.o 41) rfl isAgg3) ?_
                     refine Zc (ZQ 20 underlying30 YM) ?_
                     refine Zc (Z8 rfl (.o 20) rfl isAgg3) ?_
                     refine Zc (ZT Xr) ?_
                     refine Zj 2 rfl ?_
                     have ⟨x1,TK,H⟩:=ZX H
                     refine WN 4 (congrArg vb TK) ?_
                     refine Z6 (N7 [4] rfl rfl ?_)
                     refine Y7 ?_
                     obtain rfl:=sj H
                     exact Wj
                    refine Zj 7 rfl ?_
                    refine Z6 (N7 [4] rfl rfl ?_)
                    refine Y7 ?_
                    obtain rfl:=sj H
                    exact Wj
                   refine Zj 14 rfl ?_
                   refine Z6 (N7 [4] rfl rfl ?_)
                   refine Y7 ?_
                   obtain rfl:=sj H
                   exact Wj
                  refine Zj 21 rfl ?_
                  refine Z6 (N7 [4] rfl rfl ?_)
                  refine Y7 ?_
                  obtain rfl:=sj H
                  exact Wj
                 refine Zj 28 rfl ?_
                 refine Z6 (N7 [4] rfl rfl ?_)
                 refine Y7 ?_
                 obtain rfl:=sj H
                 exact Wj
                refine Zj 35 rfl ?_
                refine Z6 (N7 [4] rfl rfl ?_)
                refine Y7 ?_
                obtain rfl:=sj H
                exact Wj
               refine Zj 42 rfl ?_
               refine Z6 (N7 [4] rfl rfl ?_)
               refine Y7 ?_
               obtain rfl:=sj H
               exact Wj
              refine Zj 49 rfl ?_
              refine Z6 (N7 [4] rfl rfl ?_)
              refine Y7 ?_
              obtain rfl:=sj H
              exact Wj
             refine Zj 56 rfl ?_
             refine Z6 (N7 [4] rfl rfl ?_)
             refine Y7 ?_
             obtain rfl:=sj H
             exact Wj
            refine Zj 63 rfl ?_
            refine Z6 (N7 [4] rfl rfl ?_)
            refine Y7 ?_
            obtain rfl:=sj H
            exact Wj
           refine Zj 70 rfl ?_
           refine Z6 (N7 [4] rfl rfl ?_)
           refine Y7 ?_
           obtain rfl:=sj H
           exact Wj
          refine Zj 77 rfl ?_
          refine Z6 (N7 [4] rfl rfl ?_)
          refine Y7 ?_
          obtain rfl:=sj H
          exact Wj
         refine Zj 84 rfl ?_
         refine Z6 (N7 [4] rfl rfl ?_)
         refine Y7 ?_
         obtain rfl:=sj H
         exact Wj
        refine Zj 91 rfl ?_
        refine Z6 (N7 [4] rfl rfl ?_)
        refine Y7 ?_
        obtain rfl:=sj H
        exact Wj
       refine Zj 98 rfl ?_
       refine Z6 (N7 [4] rfl rfl ?_)
       refine Y7 ?_
       obtain rfl:=sj H
       exact Wj
      refine Zj 105 rfl ?_
      refine Z6 (N7 [4] rfl rfl ?_)
      refine Y7 ?_
      obtain rfl:=sj H
      exact Wj
     refine Zj 112 rfl ?_
     refine Z6 (N7 [4] rfl rfl ?_)
     refine Y7 ?_
     obtain rfl:=sj H
     exact Wj
    refine Zj 119 rfl ?_
    refine Z6 (N7 [4] rfl rfl ?_)
    refine Y7 ?_
    obtain rfl:=sj H
    exact Wj
   refine Zj 126 rfl ?_
   refine Z6 (N7 [4] rfl rfl ?_)
   refine Y7 ?_
   obtain rfl:=sj H
   exact Wj
  refine Zj 133 rfl ?_
  refine Z6 (N7 [4] rfl rfl ?_)
  refine Y7 ?_
  obtain rfl:=sj H
  exact Wj
 refine Zj 140 rfl ?_
 refine Z6 (N7 [4] rfl rfl ?_)
 refine Y7 ?_
 obtain rfl:=sj H
 exact Wj
def Yc.b0  (s0:Int × List (Int)):Option ((Int × List (Int)) ⊕ (List (Int))) :=
 if s0.1<((s0.2).length:Int) then (if 0≤s0.1∧s0.1<((s0.2).length:Int) then (if 0≤s0.1∧s0.1<((s0.2).length:Int) then (X5 (s0.2.set ((s0.1).toNat) (ZJ ((-9) - (lg s0.2 ((s0.1).toNat))))) fun Xi=>(X5 (ZJ (s0.1+1)) fun i1=>(some (.inl (i1,Xi))))) else none) else none) else (some (.inr s0.2))
def Yc (a_:List (Int)):Option (List (Int)) :=
 (loop (Yc.b0) BIG (0,a_)).bind fun Yw=>(some Yw)
theorem MJ {Aa_:Y6} {spa_:List (Int)} {a_:List (Int)} {r:List (Int)} (H:Yc a_=some r) :
  Does Tryz.prog 55 [sl Aa_ ((a_).length) ((a_++spa_).length)] [⟨Aa_,eI (a_++spa_)⟩] [] (Γ:=Unit) (fun g=>Value.tuple [].toArray) (fun g=>[⟨Aa_,eI (r++spa_)⟩]):=by
 intro w hmem hro hd
 refine Zn func55 rfl ntmps55 rfl hmem hro hd ?_
 unfold Yc at H
 refine Z_ (Y2 ?_)
 refine Z6 (ZP ?_)
 have ⟨Yw,Hl,H⟩:=Z9 H
 refine Wz [0,2] [0] rfl rfl ?_
 refine Yv (id:=0) (body:=(Yc.b0)) (σ:=Int × List (Int)) (Γ:=Unit) (Γx:=Unit) (fun s0 WG=>[(0,sl Aa_ ((s0.2).length) ((s0.2++spa_).length)),(2,vi s0.1)]) (fun s0 WG=>[⟨Aa_,eI (s0.2++spa_)⟩]) (fun t g=>[]) (fun t g=>[⟨Aa_,eI (t++spa_)⟩]) ?_ BIG (0,a_) () Yw Hl ?_
 ·intro s0 WG r1 H K hK hE
  unfold Yc.b0 at H
  refine ZY (Z_ (Zj 2 rfl ?_))
  refine ZV (ZG rfl underlying22) ?_
  refine ZV (ZT WV) ?_
  refine Z6 (UK H (fun hc H=>?_) (fun hc H=>?_))
  ·refine ZN (Z7 (ZY (ZP (ZH (Zj 4 rfl ?_)))))
   have ⟨h1,H⟩:=Z4 H
   refine ZV (YK (i:=s0.1) rfl rfl underlying22 YM rfl (.o 0) (Uf (Si (tl h1))) h1.1 h1.2 (k:=(s0.1).toNat) (JZ _)) ?_
   refine ZV (Z8 rfl (.o 0) (Aw (f:=vi) (l:=s0.2) (sp:=spa_) (tl h1)) isAgg3) ?_
   refine ZV (ZT OX) ?_
   have ⟨h2,H⟩:=Z4 H
   refine ZV (YK (i:=s0.1) rfl rfl underlying22 YM rfl (.o 0) (Uf (Si (tl h2))) h2.1 h2.2 (k:=(s0.1).toNat) (JZ _)) ?_
   refine VM (YR (j:=0) rfl rfl YM rfl rfl rfl (by rw [List.length_map]; exact Si (tl h2)) (cs':=eI ((s0.2.set ((s0.1).toNat) (ZJ ((-9) - (lg s0.2 ((s0.1).toNat)))))++spa_)) (AQ (tl h2))) (fun _=>?_)
   have ⟨Xi,hm_1,H⟩:=ZX H
   refine Ta 0 (congrArg (fun z=>eI (z++spa_)) hm_1) ?_
   refine WN (v':=sl Aa_ ((Xi).length) ((Xi++spa_).length)) 0 (Rf hm_1) ?_
   refine WN (v':=sl Aa_ ((Xi).length) ((Xi++spa_).length)) 4 (Rf hm_1) ?_
   refine WN (v':=sl Aa_ ((Xi).length) ((Xi++spa_).length)) 9 (Rf hm_1) ?_
   refine WN (v':=sl Aa_ ((Xi).length) ((Xi++spa_).length)) 11 (Rf hm_1) ?_
   refine ZK (ZW (Z7 (ZH (YP ?_))))
   refine ZV (ZT XN) ?_
   refine Y2 ?_
   have ⟨i1,Ll,H⟩:=ZX H
   refine WN 2 (congrArg vi Ll) ?_
   refine ZK ?_
   obtain rfl:=sj H
   exact Ri [0] (hK (i1,Xi) rfl ())
  refine YW (Z0 (Z0 ?_))
  obtain rfl:=sj H
  exact WW [0] (hE s0.2 rfl ())
 intro g
 refine ZL ?_
 obtain rfl:=sj H
 exact Kv (rs:=[]) (vs:=[]) rfl trivial (fun w' hs'=>⟨(),rfl,Step.left (Step.pulled (is:=[0]) (A:=[⟨Aa_,eI (Yw++spa_)⟩]) hs' rfl)⟩)
def XB.b0  (s0:Int × (List (Int × Str))):Option ((Int × (List (Int × Str))) ⊕ ((List (Int × Str)))) :=
 if s0.1<((s0.2).length:Int) then (if 0≤s0.1∧s0.1<((s0.2).length:Int) then (if 0≤s0.1∧s0.1<((s0.2).length:Int) then (X5 (s0.2.set ((s0.1).toNat) ((HZ (· ^^^ ·) ((lg s0.2 ((s0.1).toNat)).1) 90),(lg s0.2 ((s0.1).toNat)).2)) fun Xi=>(X5 (ZJ (s0.1+1)) fun i1=>(some (.inl (i1,Xi))))) else none) else none) else (some (.inr s0.2))
def XB (a_:List (Int × Str)):Option ((List (Int × Str))) :=
 (loop (XB.b0) BIG (0,a_)).bind fun Yw=>(some Yw)
theorem pW {Aa_:Y6} {spa_:List (Int × Str)} {a_:List (Int × Str)} {r:(List (Int × Str))} (H:XB a_=some r) :
  Does Tryz.prog 56 [sl Aa_ ((a_).length) ((a_++spa_).length)] [⟨Aa_,eF (fun p:Int × Str=>[vi p.1,vs p.2]) (a_++spa_)⟩] [] (Γ:=Unit) (fun g=>Value.tuple [].toArray) (fun g=>[⟨Aa_,eF (fun p:Int × Str=>[vi p.1,vs p.2]) (r++spa_)⟩]):=by
 intro w hmem hro hd
 refine Zn func56 rfl ntmps56 rfl hmem hro hd ?_
 unfold XB at H
 refine Z_ (Y2 ?_)
 refine Z6 (ZP ?_)
 have ⟨Yw,Hl,H⟩:=Z9 H
 refine Wz [0,2] [0] rfl rfl ?_
 refine Yv (id:=0) (body:=(XB.b0)) (σ:=Int × (List (Int × Str))) (Γ:=Unit) (Γx:=Unit) (fun s0 WG=>[(0,sl Aa_ ((s0.2).length) ((s0.2++spa_).length)),(2,vi s0.1)]) (fun s0 WG=>[⟨Aa_,eF (fun p:Int × Str=>[vi p.1,vs p.2]) (s0.2++spa_)⟩]) (fun t g=>[]) (fun t g=>[⟨Aa_,eF (fun p:Int × Str=>[vi p.1,vs p.2]) (t++spa_)⟩]) ?_ BIG (0,a_) () Yw Hl ?_
 ·intro s0 WG r1 H K hK hE
  unfold XB.b0 at H
  refine ZY (Z_ (Zj 2 rfl ?_))
  refine ZV (ZG rfl underlying27) ?_
  refine ZV (ZT WV) ?_
  refine Z6 (UK H (fun hc H=>?_) (fun hc H=>?_))
  ·refine ZN (Z7 (ZY (ZP (ZH (Zj 4 rfl ?_)))))
   have ⟨h1,H⟩:=Z4 H
   refine ZV (YK (i:=s0.1) rfl rfl underlying27 Rv rfl (.o 0) (VC (s:=2) (fun _=>rfl) rfl (Si (tl h1))) h1.1 h1.2 (k:=((s0.1).toNat) * 2) rfl) ?_
   refine ZV (Vk rfl underlying50 rfl (k:=0) rfl YM rfl) ?_
   refine ZV (Z8 rfl (.o 0) (((UM (g:=fun p:Int × Str=>[vi p.1,vs p.2]) (s:=2) (fun _=>rfl) (s0.2++spa_) ((s0.1).toNat) 0 (Si (tl h1)) (by decide:0<2)).trans (congrArg (fun z=>((fun p:Int × Str=>[vi p.1,vs p.2]) z)[0]?) (FR (tl h1)))).trans rfl) isAgg3) ?_
   refine ZV (ZT abV) ?_
   have ⟨h2,H⟩:=Z4 H
   refine ZV (YK (i:=s0.1) rfl rfl underlying27 Rv rfl (.o 0) (VC (s:=2) (fun _=>rfl) rfl (Si (tl h2))) h2.1 h2.2 (k:=((s0.1).toNat) * 2) rfl) ?_
   refine ZV (Vk rfl underlying50 rfl (k:=0) rfl YM rfl) ?_
   refine VM (YR (j:=0) rfl rfl YM rfl rfl rfl (xZ (g:=fun p:Int × Str=>[vi p.1,vs p.2]) (s:=2) (fun _=>rfl) (Si (tl h2)) (by decide:0<2)) (cs':=eF (fun p:Int × Str=>[vi p.1,vs p.2]) ((s0.2.set ((s0.1).toNat) ((HZ (· ^^^ ·) ((lg s0.2 ((s0.1).toNat)).1) 90),(lg s0.2 ((s0.1).toNat)).2))++spa_)) (xV (g:=fun p:Int × Str=>[vi p.1,vs p.2]) (s:=2) (fun _=>rfl) s0.2 spa_ ((s0.1).toNat) 0 _ _ (tl h2) (by decide:0<2) rfl)) (fun _=>?_)
   have ⟨Xi,hm_1,H⟩:=ZX H
   refine Ta 0 (congrArg (fun z=>eF (fun p:Int × Str=>[vi p.1,vs p.2]) (z++spa_)) hm_1) ?_
   refine WN (v':=sl Aa_ ((Xi).length) ((Xi++spa_).length)) 0 (Rf hm_1) ?_
   refine WN (v':=sl Aa_ ((Xi).length) ((Xi++spa_).length)) 4 (Rf hm_1) ?_
   refine WN (v':=sl Aa_ ((Xi).length) ((Xi++spa_).length)) 9 (Rf hm_1) ?_
   refine WN (v':=sl Aa_ ((Xi).length) ((Xi++spa_).length)) 11 (Rf hm_1) ?_
   refine ZK (ZW (Z7 (ZH (YP ?_))))
   refine ZV (ZT XN) ?_
   refine Y2 ?_
   have ⟨i1,Ll,H⟩:=ZX H
   refine WN 2 (congrArg vi Ll) ?_
   refine ZK ?_
   obtain rfl:=sj H
   exact Ri [0] (hK (i1,Xi) rfl ())
  refine YW (Z0 (Z0 ?_))
  obtain rfl:=sj H
  exact WW [0] (hE s0.2 rfl ())
 intro g
 refine ZL ?_
 obtain rfl:=sj H
 exact Kv (rs:=[]) (vs:=[]) rfl trivial (fun w' hs'=>⟨(),rfl,Step.left (Step.pulled (is:=[0]) (A:=[⟨Aa_,eF (fun p:Int × Str=>[vi p.1,vs p.2]) (Yw++spa_)⟩]) hs' rfl)⟩)
end Go.Proofs
end

/-
  Part 17 of the proof of what several laws share.
-/
import Derived.LaidEql
import Derived.Stop.Asserts
import Derived.RowKitTokens
import Derived.Test.YtkgeoekcnlgfnaaGreatDoorKh16
set_option maxHeartbeats 4000000
set_option maxRecDepth 20000
set_option linter.unusedVariables false
set_option linter.unusedSimpArgs false
section
namespace Go.Proofs
open Go Go.Kx
open TryzI Tryz
def Wn.b0 (YJ X7:Str × Int) (s0:Int):Option ((Int) ⊕ ((Unit) ⊕ (Str × Er))) :=
 if s0<2 then (if 0≤s0∧s0<(2:Int) then (if (s0).toNat<(([YJ.2,X7.2]:List (Int))).length then (X5 (lg ([YJ.2,X7.2]:List (Int)) ((s0).toNat)) fun x2=>(if x2 ≠ 0 then (X5 (Er.wr 2000 (Er.no x2)) fun x3=>(some (.inr (.inr (([]:Str),x3))))) else (some (.inl (ZJ (s0+1)))))) else none) else none) else (some (.inr (.inl ())))
def Wn (Ql:Int) (TH:Str) (Oa LQ:Int):Option (Str × Er) :=
 (OU Ql).bind fun Zu=>(if Zu.2.2 ≠ 0 then (X5 (Er.wr 2000 (Er.no Zu.2.2)) fun x1=>(some (([]:Str),x1))) else ((KV Oa 4).bind fun YJ=>((KV LQ 4).bind fun X7=>((loop (Wn.b0 YJ X7) BIG 0).bind fun Yw=>(match Yw with | .inl Yw=>(if ((TH).length:Int) ≠ (ZJ (Zu.2.1.tdiv 8)) then (some (([]:Str),Er.no 2000)) else ((P9 Ql 2).bind fun Xu=>(if (Xu).length+(YJ.1).length≤4611686018427387904 then (if (Xu++YJ.1).length+(X7.1).length≤4611686018427387904 then (if ((Xu++YJ.1)++X7.1).length+(TH).length≤4611686018427387904 then (X5 (((Xu++YJ.1)++X7.1)++TH) fun x4=>(some (x4,Er.nil))) else none) else none) else none))) | .inr rv=>some rv)))))
theorem xB {Ql:Int} {TH:Str} {Oa:Int} {LQ:Int} {r:Str × Er} (H:Wn Ql TH Oa LQ=some r) :
  Does Tryz.prog 122 [aG [(1,[vi Ql]),(1,[vs TH]),(1,[vi Oa]),(1,[vi LQ])]] [] [] (Γ:=Unit) (fun g=>Value.tuple [vs r.1,vE r.2].toArray) (fun g=>[]):=by
 intro w hmem hro hd
 refine Zn func122 rfl ntmps122 rfl hmem hro hd ?_
 unfold Wn at H
 refine Z_ (YE PT (fun b1=>?_))
 refine Zj 2 rfl ?_
 refine Z6 (Z_ (ZV (ZQ 0 underlying66 YM) ?_))
 refine ZV (Z8 rfl (.o 0) rfl isAgg3) ?_
 have ⟨Zu,Yk,H⟩:=Z9 H
 refine YE (Y4 (Gh Yk :) call70 .z) (fun Re=>?_)
 refine Zj 7 rfl ?_
 refine Z6 (ZY (Z_ (YP ?_)))
 refine ZV (ZT SN) ?_
 refine Z6 (UK H (fun hc H=>?_) (fun hc H=>?_))
 ·refine Z_ (YP ?_)
  refine ZV (JU rfl underlying36 rfl (r:=vE (Er.no Zu.2.2)) rfl) ?_
  refine ZV (Y9 (pv:=[(0,vi 2000),(1,vE (Er.no Zu.2.2))]) (pl:=[(0,1),(1,1)]) rfl rfl underlying179 AP IP A_ (cs:=flat [(1,[vi 2000]),(1,[vE (Er.no Zu.2.2)])]) (by kernel_rfl)) ?_
  refine ZV (JU rfl underlying179 rfl (r:=vE (Er.wr 2000 (Er.no Zu.2.2))) rfl) ?_
  refine Zj 2 rfl ?_
  have ⟨x1,TK,H⟩:=ZX H
  refine WN 3 (congrArg vE TK) ?_
  refine Zq (ZZ ?_)
  obtain rfl:=sj H
  exact IA
 refine ZN (Z7 (Z_ (ZV (ZQ 2 underlying66 YM) ?_)))
 refine ZV (Z8 rfl (.o 2) rfl isAgg3) ?_
 have ⟨YJ,X6,H⟩:=Z9 H
 refine YE (Y4 (Ec X6 :) call133 .z) (fun UD=>?_)
 refine Zj 5 rfl ?_
 refine Z6 (Z_ (ZV (ZQ 3 underlying66 YM) ?_))
 refine ZV (Z8 rfl (.o 3) rfl isAgg3) ?_
 have ⟨X7,Vt,H⟩:=Z9 H
 refine YE (Y4 (Ec Vt :) call133 .z) (fun Pm=>?_)
 refine Zj 5 rfl ?_
 refine Z6 (Wz [1,5,6,7,8,9] [0,0,0,0] rfl rfl ?_)
 refine ZY (Z_ (Zj 2 rfl ?_))
 refine YE (Ya (pv:=[(0,vi YJ.2),(1,vi X7.2)]) rfl rfl underlying197 mg (s:=1) rfl fG rfl rfl rfl (cs:=eI ([YJ.2,X7.2]:List (Int))) (by kernel_rfl)) (fun b2=>?_)
 refine ZV (ZG rfl underlying197) ?_
 refine YP ?_
 refine Z6 (ZP ?_)
 have ⟨Yw,Hl,H⟩:=Z9 H
 refine Wz [1,5,7,8,39,40,41] [1,1,1,1,0] rfl rfl ?_
 refine U0 (id:=0) (body:=(Wn.b0 YJ X7)) (σ:=Int) (Γ:=Unit) (Γx:=Unit) (fun s0 WG=>[(1,ptr (some (b1,0)) 0),(5,vi Zu.2.1),(7,vs YJ.1),(8,vs X7.1),(39,sl (some (b2,0)) 2 2),(40,vi 2),(41,vi s0)]) (fun s0 WG=>[⟨some (b1,0),[vi Ql]⟩,⟨some (b1,1),[vs TH]⟩,⟨some (b1,2),[vi Oa]⟩,⟨some (b1,3),[vi LQ]⟩,⟨some (b2,0),eI ([YJ.2,X7.2]:List (Int))⟩]) (fun t g=>[(1,ptr (some (b1,0)) 0),(5,vi Zu.2.1),(7,vs YJ.1),(8,vs X7.1)]) (fun t g=>[⟨some (b1,0),[vi Ql]⟩,⟨some (b1,1),[vs TH]⟩,⟨some (b1,2),[vi Oa]⟩,⟨some (b1,3),[vi LQ]⟩]) r ?_ BIG 0 () Yw Hl ?_
 ·intro s0 WG r1 H K hK hE MK
  unfold Wn.b0 at H
  refine Z_ (ZV (ZT WV) ?_)
  refine Z6 (ZY (UK H (fun hc H=>?_) (fun hc H=>?_)))
  ·refine ZN (Z7 (ZY (ZP (Z_ ?_))))
   have ⟨h1,H⟩:=Z4 H
   have ⟨h2,H⟩:=Z4 H
   refine ZV (RQ (i:=s0) rfl rfl underlying197 mg rfl (fun _ h=>by cases h) h1.1 h1.2 (k:=(s0).toNat) (JZ _)) ?_
   refine ZV (Z8 rfl (.o 4) (UL (f:=vi) (l:=([YJ.2,X7.2]:List (Int))) h2) isAgg36) ?_
   refine Y2 ?_
   have ⟨x2,KO,H⟩:=ZX H
   refine WN 11 (congrArg vi KO) ?_
   refine Z6 (Z_ (YP ?_))
   refine ZV (ZT SN) ?_
   refine Z6 (UK H (fun hc H=>?_) (fun hc H=>?_))
   ·refine Z_ (YP ?_)
    refine ZV (JU rfl underlying36 rfl (r:=vE (Er.no x2)) rfl) ?_
    refine ZV (Y9 (pv:=[(0,vi 2000),(1,vE (Er.no x2))]) (pl:=[(0,1),(1,1)]) rfl rfl underlying179 AP IP A_ (cs:=flat [(1,[vi 2000]),(1,[vE (Er.no x2)])]) (by kernel_rfl)) ?_
    refine ZV (JU rfl underlying179 rfl (r:=vE (Er.wr 2000 (Er.no x2))) rfl) ?_
    refine Zj 2 rfl ?_
    have ⟨x3,qx,H⟩:=ZX H
    refine WN 3 (congrArg vE qx) ?_
    refine Zq (ZE (ZZ (ZZ (ZE (ZZ ?_)))))
    have M3:=(MK _ (Option.some.inj H).symm)
    subst M3
    exact IA
   refine ZN (ZW (Z7 (ZH (ZV (ZT XN) ?_))))
   refine YP ?_
   refine ZK ?_
   obtain rfl:=sj H
   exact Ri [0,0,0,0,0] (hK (ZJ (s0+1)) rfl ())
  refine YW (Z0 (Z0 ?_))
  obtain rfl:=sj H
  exact WW [0,0,0,0] (hE () rfl ())
 rcases Yw with Yw | rv
 ·intro Fe
  dsimp only at H
  refine ZL (Z7 (ZY (Z_ (ZV (ZQ 1 underlying66 Xe) ?_))))
  refine ZV (Z8 rfl (.o 1) rfl isAgg9) ?_
  refine ZV (Zf rfl underlying9) ?_
  refine YP ?_
  refine ZV (Zg rfl rfl (fun w=>Lh w Zu.2.1 8 (by decide))) ?_
  refine ZV (ZT SN) ?_
  refine Z6 (UK H (fun hc H=>?_) (fun hc H=>?_))
  ·refine Z_ (ZV (JU rfl underlying36 rfl (r:=vE (Er.no 2000)) rfl) ?_)
   refine Zj 2 rfl ?_
   refine Zq (ZZ ?_)
   obtain rfl:=sj H
   exact IA
  refine ZN (Z7 (ZY ?_))
  have ⟨Xu,UH,H⟩:=Z9 H
  have ⟨h3,H⟩:=Z4 H
  have ⟨h4,H⟩:=Z4 H
  have ⟨h5,H⟩:=Z4 H
  have ⟨x4,hx4,H⟩:=ZX H
  refine U3 [] 12 rfl ?_
  refine PX 2 [] (.v 0 [] rfl rfl (ZQ 0 underlying66 YM) (.v 1 [0] rfl rfl (Z8 rfl (.o 0) rfl isAgg3) (.e 2 [1] rfl rfl (Qg (Ee UH :) call134 .z) (.v 3 [] rfl rfl (ZO rfl) (.v 4 [2,3] rfl rfl (Zg rfl rfl (fun w=>G9 w Xu YJ.1 h3)) (.v 5 [] rfl rfl (ZO rfl) (.v 6 [5,4] rfl rfl (Zg rfl rfl (fun w=>G9 w (Xu++YJ.1) X7.1 h4)) (.v 7 [] rfl rfl (ZQ 1 underlying66 Xe) (.v 8 [7] rfl rfl (Z8 rfl (.o 1) rfl isAgg9) (.v 9 [6,8] rfl rfl (Zg rfl rfl (fun w=>G9 w ((Xu++YJ.1)++X7.1) TH h5)) .nil)))))))))) (fun γ=>?_)
  refine Qj [68] rfl rfl ?_
  refine qc 10 [] rfl (XL rfl) rfl ?_
  refine Xb 2 (congrArg vs hx4) ?_
  refine qc 11 [] rfl (XL rfl) rfl ?_
  refine Vi ?_
  refine Z7 (Y7 ?_)
  obtain rfl:=sj H
  exact IA
 exact (Option.some.inj H)
def Nh (key s_:Str):Option (Int × Str × Int × Int × Er) :=
 if ((s_).length:Int)<12 then (some (0,([]:Str),0,0,Er.no 2001)) else (if 12≤(s_).length then (if 12≤(s_).length then ((Ju key (sub s_ 0 12) ([]:Str) (sub s_ 12 ((s_).length))).bind fun Zu=>(if Zu.2 ≠ 0 then (X5 (Er.wr 2001 (Er.no Zu.2)) fun x1=>(some (0,([]:Str),0,0,x1))) else ((K4 Zu.1 0).bind fun YJ=>((Ni Zu.1 YJ.2.1).bind fun X7=>((Ni Zu.1 X7.2.1).bind fun Xu=>(if Xu.2.2 ≠ 0 then (X5 (Er.wr 2001 (Er.no Xu.2.2)) fun x2=>(some (0,([]:Str),0,0,x2))) else (if 0≤Xu.2.1 then (if (Xu.2.1).toNat≤(Zu.1).length then ((Wn YJ.1 (sub Zu.1 ((Xu.2.1).toNat) ((Zu.1).length)) X7.1 Xu.1).bind fun UC=>((if (!(Er.isNil UC.2))=true then (some true) else (some (decide (UC.1 ≠ Zu.1)))).bind fun j1=>(if j1=true then (some (0,([]:Str),0,0,Er.no 2001)) else (some (YJ.1,sub Zu.1 ((Xu.2.1).toNat) ((Zu.1).length),X7.1,Xu.1,Er.nil))))) else none) else none))))))) else none) else none)
theorem wS {key:Str} {s_:Str} {r:Int × Str × Int × Int × Er} (H:Nh key s_=some r) :
  Does Tryz.prog 102 [vs key,vs s_] [] [] (Γ:=Unit) (fun g=>Value.tuple [aG [(1,[vi r.1]),(1,[vs r.2.1]),(1,[vi r.2.2.1]),(1,[vi r.2.2.2.1])],vE r.2.2.2.2].toArray) (fun g=>[]):=by
 intro w hmem hro hd
 refine Zn func102 rfl ntmps102 rfl hmem hro hd ?_
 unfold Nh at H
 refine Z_ (YE (SL WC Ph) (fun b1=>?_))
 refine Y2 ?_
 refine Z6 (ZY (Z_ (YP ?_)))
 refine ZV (Zf rfl underlying9) ?_
 refine ZV (ZT WV) ?_
 refine Z6 (UK H (fun hc H=>?_) (fun hc H=>?_))
 ·refine Z_ (ZV (Y9 (pv:=[]) (pl:=[(0,1),(1,1),(2,1),(3,1)]) rfl rfl underlying66 WC Qy Ph (cs:=flat [(1,[vi 0]),(1,[vs ([]:Str)]),(1,[vi 0]),(1,[vi 0])]) (by kernel_rfl)) ?_)
  refine ZV (JU rfl underlying36 rfl (r:=vE (Er.no 2001)) rfl) ?_
  refine VM (VZ [0,0,0,0] rfl rfl WC) (fun _=>?_)
  refine Y2 ?_
  refine Zq (ZZ ?_)
  obtain rfl:=sj H
  exact SF (vs:=[_,_]) rfl ⟨(Wp [0,1,2,3] rfl rfl isAgg66 WC),rfl,trivial⟩
 refine ZN (Z7 (ZY ?_))
 have ⟨h1,H⟩:=Z4 H
 have ⟨h2,H⟩:=Z4 H
 have ⟨Zu,Yk,H⟩:=Z9 H
 refine U3 [] 11 rfl ?_
 refine PX 0 [] (.v 0 [] rfl rfl (ZO rfl) (.v 1 [] rfl rfl (ZO rfl) (.v 2 [1] rfl rfl (Uq (l:=0) (h:=12) rfl underlying9 OZ.none' (OZ.some' (i:=12) rfl (by decide)) (Nat.zero_le _) h1) (.v 3 [] rfl rfl (ZO rfl) (.v 4 [3] rfl rfl (Uq (l:=12) (h:=(s_).length) rfl underlying9 (OZ.some' (i:=12) rfl (by decide)) OZ.none' h2 (Nat.le_refl _)) (.e 5 [2,4,0] rfl rfl (Qg (xC Yk :) call119 .z) (.v 6 [5] rfl rfl (ZO rfl) (.v 7 [6] rfl rfl K5 (.v 8 [6] rfl rfl K5 (.v 9 [7] rfl rfl (XL rfl) (.v 10 [8] rfl rfl (XL rfl) .nil))))))))))) (fun γ=>?_)
 refine Qj [7,6,4] rfl rfl ?_
 refine Vi ?_
 refine Z7 (ZY (Z_ (YP ?_)))
 refine ZV (ZT SN) ?_
 refine Z6 (UK H (fun hc H=>?_) (fun hc H=>?_))
 ·refine Z_ (ZV (Y9 (pv:=[]) (pl:=[(0,1),(1,1),(2,1),(3,1)]) rfl rfl underlying66 WC Qy Ph (cs:=flat [(1,[vi 0]),(1,[vs ([]:Str)]),(1,[vi 0]),(1,[vi 0])]) (by kernel_rfl)) ?_)
  refine YP ?_
  refine ZV (JU rfl underlying36 rfl (r:=vE (Er.no Zu.2)) rfl) ?_
  refine ZV (Y9 (pv:=[(0,vi 2001),(1,vE (Er.no Zu.2))]) (pl:=[(0,1),(1,1)]) rfl rfl underlying179 AP IP A_ (cs:=flat [(1,[vi 2001]),(1,[vE (Er.no Zu.2)])]) (by kernel_rfl)) ?_
  refine ZV (JU rfl underlying179 rfl (r:=vE (Er.wr 2001 (Er.no Zu.2))) rfl) ?_
  refine VM (VZ [0,0,0,0] rfl rfl WC) (fun _=>?_)
  refine Y2 ?_
  have ⟨x1,TK,H⟩:=ZX H
  refine WN 5 (congrArg vE TK) ?_
  refine Zq (ZZ ?_)
  obtain rfl:=sj H
  exact SF (vs:=[_,_]) rfl ⟨(Wp [0,1,2,3] rfl rfl isAgg66 WC),rfl,trivial⟩
 refine ZN (Z7 (Z_ (YP ?_)))
 have ⟨YJ,X6,H⟩:=Z9 H
 refine YE (Y4 (wP X6 :) call120 .z) (fun UD=>?_)
 refine Zj 7 rfl ?_
 refine Z6 (Z_ (Zj 2 rfl ?_))
 have ⟨X7,Vt,H⟩:=Z9 H
 refine YE (Y4 (Ep Vt :) call121 .z) (fun Pm=>?_)
 refine Zj 7 rfl ?_
 refine Z6 (Z_ (Zj 2 rfl ?_))
 have ⟨Xu,UH,H⟩:=Z9 H
 refine YE (Y4 (Ep UH :) call121 .z) (fun JV=>?_)
 refine Zj 7 rfl ?_
 refine Z6 (Wz [4,6,7,8,9,11,13] [0,0,0,0] rfl rfl ?_)
 refine ZY (Z_ (YP ?_))
 refine ZV (ZT SN) ?_
 refine Z6 (UK H (fun hc H=>?_) (fun hc H=>?_))
 ·refine Z_ (ZV (Y9 (pv:=[]) (pl:=[(0,1),(1,1),(2,1),(3,1)]) rfl rfl underlying66 WC Qy Ph (cs:=flat [(1,[vi 0]),(1,[vs ([]:Str)]),(1,[vi 0]),(1,[vi 0])]) (by kernel_rfl)) ?_)
  refine YP ?_
  refine ZV (JU rfl underlying36 rfl (r:=vE (Er.no Xu.2.2)) rfl) ?_
  refine ZV (Y9 (pv:=[(0,vi 2001),(1,vE (Er.no Xu.2.2))]) (pl:=[(0,1),(1,1)]) rfl rfl underlying179 AP IP A_ (cs:=flat [(1,[vi 2001]),(1,[vE (Er.no Xu.2.2)])]) (by kernel_rfl)) ?_
  refine ZV (JU rfl underlying179 rfl (r:=vE (Er.wr 2001 (Er.no Xu.2.2))) rfl) ?_
  refine VM (VZ [0,0,0,0] rfl rfl WC) (fun _=>?_)
  refine Y2 ?_
  have ⟨x2,KO,H⟩:=ZX H
  refine WN 5 (congrArg vE KO) ?_
  refine Zq (ZZ ?_)
  obtain rfl:=sj H
  exact SF (vs:=[_,_]) rfl ⟨(Wp [0,1,2,3] rfl rfl isAgg66 WC),rfl,trivial⟩
 refine ZN (Z7 (Z_ (Zj 3 rfl ?_)))
 have ⟨h3,H⟩:=Z4 H
 have ⟨h4,H⟩:=Z4 H
 refine ZV (Uq (l:=(Xu.2.1).toNat) (h:=(Zu.1).length) rfl underlying9 (OZ.some' (i:=Xu.2.1) rfl h3) OZ.none' h4 (Nat.le_refl _)) ?_
 refine Zj 2 rfl ?_
 refine ZV (Y9 (pv:=[(0,vi YJ.1),(1,vs (sub Zu.1 ((Xu.2.1).toNat) ((Zu.1).length))),(2,vi X7.1),(3,vi Xu.1)]) (pl:=[(0,1),(1,1),(2,1),(3,1)]) rfl rfl underlying66 WC Qy Ph (cs:=flat [(1,[vi YJ.1]),(1,[vs (sub Zu.1 ((Xu.2.1).toNat) ((Zu.1).length))]),(1,[vi X7.1]),(1,[vi Xu.1])]) (by kernel_rfl)) ?_
 refine YE (SL WC Ph) (fun b2=>?_)
 refine VM (VZ [0,0,0,0] rfl rfl WC) (fun _=>?_)
 refine Z6 (ZY (Z_ (ZV (VY [0,1,2,3] rfl rfl isAgg66 WC) ?_)))
 have ⟨UC,Qi,H⟩:=Z9 H
 refine YE (Y4 (xB Qi :) call122 .z) (fun zM=>?_)
 refine Zj 5 rfl ?_
 refine Z6 (Z_ (YP ?_))
 refine ZV (Zg rfl rfl (fun w=>aaE w UC.2 underlying153)) ?_
 refine YP ?_
 have ⟨j1,Hj,H⟩:=Z9 H
 refine VH (Γ:=Unit) (fun Sc=>[(4,ptr (some (b1,0)) 0),(14,ptr (some (b2,0)) 0),(83,vb j1)]) (fun Sc=>[⟨some (b1,0),[vi 0]⟩,⟨some (b1,1),[vs ([]:Str)]⟩,⟨some (b1,2),[vi 0]⟩,⟨some (b1,3),[vi 0]⟩,⟨some (b2,0),[vi YJ.1]⟩,⟨some (b2,1),[vs (sub Zu.1 ((Xu.2.1).toNat) ((Zu.1).length))]⟩,⟨some (b2,2),[vi X7.1]⟩,⟨some (b2,3),[vi Xu.1]⟩]) ?_ ?_
 ·intro Sc
  refine Z7 (Sn H (fun hc H=>?_) (fun hc H=>?_))
  ·refine Z_ (ZV (Y9 (pv:=[]) (pl:=[(0,1),(1,1),(2,1),(3,1)]) rfl rfl underlying66 WC Qy Ph (cs:=flat [(1,[vi 0]),(1,[vs ([]:Str)]),(1,[vi 0]),(1,[vi 0])]) (by kernel_rfl)) ?_)
   refine ZV (JU rfl underlying36 rfl (r:=vE (Er.no 2001)) rfl) ?_
   refine VM (VZ [0,0,0,0] rfl rfl WC) (fun _=>?_)
   refine Y2 ?_
   refine Zq (ZZ ?_)
   obtain rfl:=sj H
   exact SF (vs:=[_,_]) rfl ⟨(Wp [0,1,2,3] rfl rfl isAgg66 WC),rfl,trivial⟩
  refine ZN (Z7 (Z_ (ZV (VY [4,5,6,7] rfl rfl isAgg66 WC) ?_)))
  refine VM (VZ [0,0,0,0] rfl rfl WC) (fun _=>?_)
  refine Y2 ?_
  refine Zq ?_
  obtain rfl:=sj H
  exact SF (vs:=[_,_]) rfl ⟨(Wp [0,1,2,3] rfl rfl isAgg66 WC),rfl,trivial⟩
 intro hJ
 replace H:=Hj
 refine Mg (d:=79) H (fun hc H=>?_) (fun hc H=>?_)
 ·refine Zj 4 rfl ?_
  refine ZK ?_
  obtain rfl:=sj H
  exact WW [4,4,4,4,0,0,0,0] (hJ ())
 refine Zj 2 rfl ?_
 refine Zc (ZT KX) ?_
 refine FE ?_
 refine ZK ?_
 obtain rfl:=sj H
 exact WW [4,4,4,4,0,0,0,0] (hJ ())
end Go.Proofs
end

section
namespace Go.Proofs.TryzA
open Go.RowKit Go.Extern.Stop Go.Stop Go.Extern Go
theorem nO (t:Addr) (w:World):(ReflectliteValue.unpack (.iface 184 (.pointer (some t)))).run Tryz.prog w
  = .ok (.agg #[.pointer (some ⟨1,184,none⟩), .pointer (some ⟨w.heap.size,0,none⟩), .int .u64 150]) (w.alloc (.cells #[.pointer (some t)] 184)):=by kernel_rfl
theorem abZ (a:Addr) (w:World):(ReflectliteValue.methodAny (ReflectliteValue.valueError "reflectlite.Value.Type" 0) (fun t _ _ _=>ReflectliteType.toType t) #[.agg #[.pointer (some ⟨1,184,none⟩), .pointer (some a), .int .u64 150]]).run Tryz.prog w
  = .ok (.iface 230 (.agg #[.pointer (some ⟨1,184,none⟩)])) w:=by kernel_rfl
theorem vV (h:Value) (w:World):(Go.method 379 230 (.agg #[h]) "Kind").run Tryz.prog w = .ok (170,h) w:=by kernel_rfl
theorem aci (w:World):((ReflectliteType.abiMethod fun t=>(fun a:Nat=>Value.int IntKind.u8 (a:Int)) <$> Rtype.kind t) #[.pointer (some ⟨1,184,none⟩)]).run Tryz.prog w = .ok (.int .u8 22) w:=by kernel_rfl
theorem abh (w:World):((ReflectliteType.abiMethod fun t=>(fun a:Nat=>Value.int IntKind.u8 (a:Int)) <$> Rtype.kind t) #[.pointer (some ⟨1,36,none⟩)]).run Tryz.prog w = .ok (.int .u8 2) w:=by kernel_rfl
theorem rlm (z:Sem Value) (f:TypeId → Addr → Nat → Nat → Sem Value) (v:Value) :
  ReflectliteValue.method z f #[v]=(do match ← ReflectliteValue.parts v with | none=>z | some (t,a,fl)=>f t a fl (fl % 32)):=rfl
theorem lI (a:Addr) (w:World):(ReflectliteValue.parts (.agg #[.pointer (some ⟨1,184,none⟩), .pointer (some a), .int .u64 150])).run Tryz.prog w = .ok (some (184,a,150)) w:=by kernel_rfl
theorem aa (a p:Addr) (W:World) (ha:W.cell? a=some (.pointer (some p))) :
  (ReflectliteValue.method (ReflectliteValue.valueError "reflectlite.Value.IsNil" 0) ReflectliteValue.isNil #[.agg #[.pointer (some ⟨1,184,none⟩), .pointer (some a), .int .u64 150]]).run Tryz.prog W = .ok (.bool false) W:=by
 rw [rlm]
 simp only [Sem.run_bind,lI,Result.andThen]
 simp [ReflectliteValue.isNil,loadVar,isAgg,underlying,Tryz.underlying184,ha,Result.andThen]
theorem wO (h:Value) (w:World):(Go.method 379 230 (.agg #[h]) "Elem").run Tryz.prog w = .ok (184, .agg #[h]) w:=by kernel_rfl
theorem F6 (h:Value) (w:World):(Go.method 379 230 (.agg #[h]) "Implements").run Tryz.prog w = .ok (185, .agg #[h]) w:=by kernel_rfl
theorem Mc (h:Value) (w:World):(Go.method 379 230 (.agg #[h]) "AssignableTo").run Tryz.prog w = .ok (182, .agg #[h]) w:=by kernel_rfl
theorem aaB (w:World):(ReflectliteType.method ReflectliteType.elem #[.agg #[.pointer (some ⟨1,184,none⟩)]]).run Tryz.prog w = .ok (.iface 230 (.agg #[.pointer (some ⟨1,36,none⟩)])) w:=by kernel_rfl
theorem yo (w:World):(ReflectliteType.relation "Implements" ReflectliteType.implements_ #[.agg #[.pointer (some ⟨1,36,none⟩)], .iface 230 (.agg #[.pointer (some ⟨1,153,none⟩)])]).run Tryz.prog w = .ok (.bool true) w:=by kernel_rfl
theorem jf (v:Value) (w:World):(ReflectliteType.typeOf #[.iface 36 v]).run Tryz.prog w = .ok (.iface 230 (.agg #[.pointer (some ⟨1,36,none⟩)])) w:=by kernel_rfl
theorem jI (v:Value) (w:World):(ReflectliteType.typeOf #[.iface 179 v]).run Tryz.prog w = .ok (.iface 230 (.agg #[.pointer (some ⟨1,179,none⟩)])) w:=by kernel_rfl
theorem yZ (w:World):(ReflectliteType.relation "AssignableTo" ReflectliteType.assignableTo #[.agg #[.pointer (some ⟨1,36,none⟩)], .iface 230 (.agg #[.pointer (some ⟨1,36,none⟩)])]).run Tryz.prog w = .ok (.bool true) w:=by kernel_rfl
theorem zn (w:World):(ReflectliteType.relation "AssignableTo" ReflectliteType.assignableTo #[.agg #[.pointer (some ⟨1,179,none⟩)], .iface 230 (.agg #[.pointer (some ⟨1,36,none⟩)])]).run Tryz.prog w = .ok (.bool false) w:=by kernel_rfl
theorem kY (n:Int) (w:World):(ReflectliteValue.unpack (.iface 36 (.int .i64 n))).run Tryz.prog w
  = .ok (.agg #[.pointer (some ⟨1,36,none⟩), .pointer (some ⟨w.heap.size,0,none⟩), .int .u64 130]) (w.alloc (.cells #[.int .i64 n] 36)):=by kernel_rfl
theorem jG (w:World):(Rtype.elem? 184).run Tryz.prog w = .ok (some 36) w:=by kernel_rfl
theorem mkE (p:Addr) (w:World):(ReflectliteValue.mk 36 p ReflectliteValue.flagAddr).run Tryz.prog w = .ok (.agg #[.pointer (some ⟨1,36,none⟩), .pointer (some p), .int .u64 386]) w:=by kernel_rfl
theorem dG (a p:Addr) (W:World) (ha:W.cell? a=some (.pointer (some p))) :
  (ReflectliteValue.method (ReflectliteValue.valueError "reflectlite.Value.Elem" 0) ReflectliteValue.elem #[.agg #[.pointer (some ⟨1,184,none⟩), .pointer (some a), .int .u64 150]]).run Tryz.prog W
   = .ok (.agg #[.pointer (some ⟨1,36,none⟩), .pointer (some p), .int .u64 386]) W:=by
 rw [rlm]
 simp only [Sem.run_bind,lI,Result.andThen]
 simp [ReflectliteValue.elem,loadVar,isAgg,underlying,Tryz.underlying184,ha,Result.andThen,jG,mkE]
theorem rls (v x:Value):ReflectliteValue.set #[v,x]=(do
  let (some (dst,a,fl),some (src,b,_)):=(← ReflectliteValue.parts v, ← ReflectliteValue.parts x)
   | unsupported (.noEntry "extern/(internal/reflectlite.Value).Set.zeroValue")
  if fl / ReflectliteValue.flagAddr % 2 == 0 then unsupported (.noEntry "extern/(internal/reflectlite.Value).Set.unaddressable")
  let val ← loadVar src b
  if ← Rtype.directlyAssignable dst src then storeVar dst a val
  else if ← Rtype.implements dst src then
   if (← Rtype.kind src) == 20 then
    match val with
    | .nilIface=>unsupported (.noEntry "extern/reflectlite: a nil value of one interface type handed on as a value of another")
    | _=>storeVar dst a val
   else storeVar dst a (.iface src val)
  else panicString ("reflectlite.Set: value of type " ++ (← Rtype.spelt src) ++ " is not assignable to type " ++ (← Rtype.spelt dst))
  pure (.tuple #[])):=rfl
theorem gy (a:Addr) (w:World):(ReflectliteValue.parts (.agg #[.pointer (some ⟨1,36,none⟩), .pointer (some a), .int .u64 386])).run Tryz.prog w = .ok (some (36,a,386)) w:=by kernel_rfl
theorem dP (a:Addr) (w:World):(ReflectliteValue.parts (.agg #[.pointer (some ⟨1,36,none⟩), .pointer (some a), .int .u64 130])).run Tryz.prog w = .ok (some (36,a,130)) w:=by kernel_rfl
theorem jF (w:World):(Rtype.directlyAssignable 36 36).run Tryz.prog w = .ok true w:=by kernel_rfl
theorem ada (ta b:Addr) (n:Int) (old:Value) (W:World) (hb:W.cell? b=some (.int .i64 n)) (ht:W.cell? ta=some old) (hf:W.frozen? ta=false) :
  (ReflectliteValue.set #[.agg #[.pointer (some ⟨1,36,none⟩), .pointer (some ta), .int .u64 386], .agg #[.pointer (some ⟨1,36,none⟩), .pointer (some b), .int .u64 130]]).run Tryz.prog W
   = .ok (.tuple #[]) (W.setCell ta (.int .i64 n)):=by
 rw [rls]
 simp only [Sem.run_bind,gy,dP,Result.andThen]
 simp [ReflectliteValue.flagAddr,loadVar,isAgg,underlying,Tryz.underlying36,hb,Result.andThen,jF,storeVar,Value.cells,storeCells,Addr.add]
 rw [run_store Tryz.prog W ta _ _ (by rfl)]
 simp [ht,hf]
end Go.Proofs.TryzA
end

section
namespace Go.Proofs.TryzA
open Go.RowKit Go.Extern.Stop Go.Stop Go.Extern Go
theorem lq (n:Int) (t a:Addr) (old:Value) (w:World) (ha:w.cell? a=some (.pointer (some t))) (ht0:w.cell? t=some old) (hf0:w.frozen? t=false) :
  Calls Tryz.prog 138 #[.iface 36 (.int .i64 n), .iface 184 (.pointer (some t)), .agg #[.pointer (some ⟨1,184,none⟩), .pointer (some a), .int .u64 150], .iface 230 (.agg #[.pointer (some ⟨1,36,none⟩)])] w
   fun ev w'=>ev = .returned (.bool true)∧w'=((w.alloc (.cells #[.pointer (some ⟨1,184,none⟩), .pointer (some a), .int .u64 150] 201)).alloc (.cells #[.int .i64 n] 36)).setCell t (.int .i64 n):=by
 have h52 := @run_callFunc_extern Tryz.prog 135 _ (fun args=>ReflectliteValue.unpack (args.getD 0 (.tuple #[]))) Tryz.func135 (by kernel_rfl) (by kernel_rfl) (by kernel_rfl) (by kernel_rfl)
 have h62 := @run_callFunc_extern Tryz.prog 149 _ ReflectliteType.typeOf Tryz.func149 (by kernel_rfl) (by kernel_rfl) (by kernel_rfl) (by kernel_rfl)
 have h90 := @run_callFunc_extern Tryz.prog 182 _ (ReflectliteType.relation "AssignableTo" ReflectliteType.assignableTo) Tryz.func182 (by kernel_rfl) (by kernel_rfl) (by kernel_rfl) (by kernel_rfl)
 have h63 := @run_callFunc_extern Tryz.prog 150 _ (ReflectliteValue.method (ReflectliteValue.valueError "reflectlite.Value.Elem" 0) ReflectliteValue.elem) Tryz.func150 (by kernel_rfl) (by kernel_rfl) (by kernel_rfl) (by kernel_rfl)
 have h64 := @run_callFunc_extern Tryz.prog 151 _ ReflectliteValue.set Tryz.func151 (by kernel_rfl) (by kernel_rfl) (by kernel_rfl) (by kernel_rfl)
 have tO:=jf
 have mA:=Mc
 have aE:=yZ
 have vE:=kY
 have hal:a.block<w.heap.size:=by
  rcases Nat.lt_or_ge a.block w.heap.size with h | h
  ·exact h
  ·simp [World.cell?,Array.getElem?_eq_none h] at ha
 have htl:t.block<w.heap.size:=by
  rcases Nat.lt_or_ge t.block w.heap.size with h | h
  ·exact h
  ·simp [World.cell?,Array.getElem?_eq_none h] at ht0
 have el:=dG a t (w.alloc (.cells #[.pointer (some ⟨1,184,none⟩), .pointer (some a), .int .u64 150] 201)) (by rw [World.cell?_alloc_lt _ _ a hal]; exact ha)
 have st:=ada t ⟨w.heap.size+1,0,none⟩ n old ((w.alloc (.cells #[.pointer (some ⟨1,184,none⟩), .pointer (some a), .int .u64 150] 201)).alloc (.cells #[.int .i64 n] 36))
  (by rw [World.cell?_alloc_at _ _ _ _ (by simp)]; rfl)
  (by rw [World.cell?_alloc_lt _ _ t (by simp; omega),World.cell?_alloc_lt _ _ t htl]; exact ht0)
  (by rw [World.frozen?_alloc_old _ _ t (by simp; omega),World.frozen?_alloc_old _ _ t (Nat.ne_of_lt htl)]; exact hf0)
 go_enter Tryz.func138,Tryz.ntmps138
 go_wp2
 refine wp_loop_rounds 1 ?_
 rw [rounds_succ]
 go_wp2
 go_ret
 exact ⟨rfl,rfl⟩
end Go.Proofs.TryzA
end

section
namespace Go.Proofs.TryzA
open Go.RowKit Go.Extern.Stop Go.Stop Go.Extern Go
theorem Ao (v:Value) (w:World):(Go.method 379 179 v "Unwrap").run Tryz.prog w = .ok (177,v) w:=by kernel_rfl
theorem adi (v:Value) (xT:TypeId) (w:World):(Instr.typeAssert (.iface 179 v) xT 235 true).run Tryz.prog w = .ok (.tuple #[.nilIface, .bool false]) w:=run_typeAssert_lacksB Tryz.underlying235 (by kernel_rfl) (by kernel_rfl) v xT w
theorem aca (v:Value) (xT:TypeId) (w:World):(Instr.typeAssert (.iface 179 v) xT 238 true).run Tryz.prog w = .ok (.tuple #[.nilIface, .bool false]) w:=run_typeAssert_lacksB Tryz.underlying238 (by kernel_rfl) (by kernel_rfl) v xT w
theorem aR (v:Value) (xT:TypeId) (w:World):(Instr.typeAssert (.iface 179 v) xT 240 true).run Tryz.prog w = .ok (.tuple #[.iface 179 v, .bool true]) w:=run_typeAssert_hasB Tryz.underlying240 (by kernel_rfl) v xT w
set_option maxRecDepth 10000 in
theorem ab6 (o:Int) (i:Value) (hi:i = .nilIface ∨ ∃ t v,i = .iface t v) (t a:Addr) (old:Value) (w:World) (ha:w.cell? a=some (.pointer (some t))) (ht0:w.cell? t=some old) (hf0:w.frozen? t=false) :
  Calls Tryz.prog 138 #[.iface 179 (.agg #[.int .i64 o,i]), .iface 184 (.pointer (some t)), .agg #[.pointer (some ⟨1,184,none⟩), .pointer (some a), .int .u64 150], .iface 230 (.agg #[.pointer (some ⟨1,36,none⟩)])] w
   fun ev w'=>ev = .returned (.bool true)∧w'=(((((w.alloc (.cells #[.pointer (some ⟨1,184,none⟩), .pointer (some a), .int .u64 150] 201)).alloc (.cells #[.int .i64 o,i] 179)).alloc (.cells #[.iface 36 (.int .i64 o),i] 153)).alloc (.cells #[.pointer (some ⟨1,184,none⟩), .pointer (some a), .int .u64 150] 201)).alloc (.cells #[.int .i64 o] 36)).setCell t (.int .i64 o):=by
 have h62 := @run_callFunc_extern Tryz.prog 149 _ ReflectliteType.typeOf Tryz.func149 (by kernel_rfl) (by kernel_rfl) (by kernel_rfl) (by kernel_rfl)
 have h90 := @run_callFunc_extern Tryz.prog 182 _ (ReflectliteType.relation "AssignableTo" ReflectliteType.assignableTo) Tryz.func182 (by kernel_rfl) (by kernel_rfl) (by kernel_rfl) (by kernel_rfl)
 have tO:=jI
 have mA:=Mc
 have mU:=Ao
 have aW:=zn
 have t1:=adi
 have t2:=aca
 have t3:=aR
 have hal:a.block<w.heap.size:=by
  rcases Nat.lt_or_ge a.block w.heap.size with h | h
  ·exact h
  ·simp [World.cell?,Array.getElem?_eq_none h] at ha
 have htl:t.block<w.heap.size:=by
  rcases Nat.lt_or_ge t.block w.heap.size with h | h
  ·exact h
  ·simp [World.cell?,Array.getElem?_eq_none h] at ht0
 have hA : ∀ i:Value,(((w.alloc (.cells #[.pointer (some ⟨1,184,none⟩), .pointer (some a), .int .u64 150] 201)).alloc (.cells #[.int .i64 o,i] 179)).alloc (.cells #[.iface 36 (.int .i64 o),i] 153)).cell? a=some (.pointer (some t)):=fun i=>by
  rw [World.cell?_alloc_lt _ _ a (by simp; omega),World.cell?_alloc_lt _ _ a (by simp; omega),World.cell?_alloc_lt _ _ a hal]; exact ha
 have hT : ∀ i:Value,(((w.alloc (.cells #[.pointer (some ⟨1,184,none⟩), .pointer (some a), .int .u64 150] 201)).alloc (.cells #[.int .i64 o,i] 179)).alloc (.cells #[.iface 36 (.int .i64 o),i] 153)).cell? t=some old:=fun i=>by
  rw [World.cell?_alloc_lt _ _ t (by simp; omega),World.cell?_alloc_lt _ _ t (by simp; omega),World.cell?_alloc_lt _ _ t htl]; exact ht0
 have hF : ∀ i:Value,(((w.alloc (.cells #[.pointer (some ⟨1,184,none⟩), .pointer (some a), .int .u64 150] 201)).alloc (.cells #[.int .i64 o,i] 179)).alloc (.cells #[.iface 36 (.int .i64 o),i] 153)).frozen? t=false:=fun i=>by
  rw [World.frozen?_alloc_old _ _ t (by simp; omega),World.frozen?_alloc_old _ _ t (by simp; omega),World.frozen?_alloc_old _ _ t (Nat.ne_of_lt htl)]; exact hf0
 go_enter Tryz.func138,Tryz.ntmps138
 go_wp2
 refine wp_loop_rounds 1 ?_
 rw [rounds_succ]
 rcases hi with rfl | ⟨ti,vi,rfl⟩
 ·go_wp2
  refine wp_loop_rounds 1 ?_
  rw [rounds_succ]
  go_wp2_with (go_at_call 138; refine (lq o t a old _ (hA (.nilIface)) (hT (.nilIface)) (hF (.nilIface))).mono ?_; rintro e w' ⟨rfl,rfl⟩)
  go_ret
  exact ⟨rfl,rfl⟩
 ·go_wp2
  refine wp_loop_rounds 1 ?_
  rw [rounds_succ]
  go_wp2_with (go_at_call 138; refine (lq o t a old _ (hA (.iface ti vi)) (hT (.iface ti vi)) (hF (.iface ti vi))).mono ?_; rintro e w' ⟨rfl,rfl⟩)
  go_ret
  exact ⟨rfl,rfl⟩
end Go.Proofs.TryzA
end

section
namespace Go.Proofs.TryzA
open Go.RowKit Go.Extern.Stop Go.Stop Go.Extern Go
theorem dK (t:Value) (w:World):Calls Tryz.prog 123 #[.nilIface,t] w fun e w'=>e = .returned (.bool false)∧w'=w:=by
 go_enter Tryz.func123,Tryz.ntmps123
 go_wp2
 go_ret
 exact ⟨rfl,rfl⟩
def W1 (w:World) (t:Addr):World:=(w.alloc (.cells #[.pointer (some t)] 184)).alloc (.cells #[.pointer (some ⟨1,184,none⟩), .pointer (some ⟨w.heap.size,0,none⟩), .int .u64 150] 201)
theorem kX (ty:TypeId) (v:Value) (t:Addr) (old:Value) (w:World) (R:Ending → World → Prop) (hg:w.cell? ⟨0,0,none⟩=some (.iface 230 (.agg #[.pointer (some ⟨1,153,none⟩)]))) (ht0:w.cell? t=some old) (hf0:w.frozen? t=false)
  (hR:Calls Tryz.prog 138 #[.iface ty v, .iface 184 (.pointer (some t)), .agg #[.pointer (some ⟨1,184,none⟩), .pointer (some ⟨w.heap.size,0,none⟩), .int .u64 150], .iface 230 (.agg #[.pointer (some ⟨1,36,none⟩)])] (W1 w t) fun ev w'=>ev = .returned (.bool true)∧R (.returned (.bool true)) w') :
  Calls Tryz.prog 123 #[.iface ty v, .iface 184 (.pointer (some t))] w R:=by
 have h52 := @run_callFunc_extern Tryz.prog 135 _ (fun args=>ReflectliteValue.unpack (args.getD 0 (.tuple #[]))) Tryz.func135 (by kernel_rfl) (by kernel_rfl) (by kernel_rfl) (by kernel_rfl)
 have h53 := @run_callFunc_extern Tryz.prog 136 _ (ReflectliteValue.methodAny (ReflectliteValue.valueError "reflectlite.Value.Type" 0) (fun t _ _ _=>ReflectliteType.toType t)) Tryz.func136 (by kernel_rfl) (by kernel_rfl) (by kernel_rfl) (by kernel_rfl)
 have h54 := @run_callFunc_extern Tryz.prog 137 _ (ReflectliteValue.method (ReflectliteValue.valueError "reflectlite.Value.IsNil" 0) ReflectliteValue.isNil) Tryz.func137 (by kernel_rfl) (by kernel_rfl) (by kernel_rfl) (by kernel_rfl)
 have h80 := @run_callFunc_extern Tryz.prog 170 _ (ReflectliteType.abiMethod fun t=>do pure (.int .u8 (← Rtype.kind t))) Tryz.func170 (by kernel_rfl) (by kernel_rfl) (by kernel_rfl) (by kernel_rfl)
 have h92 := @run_callFunc_extern Tryz.prog 184 _ (ReflectliteType.method ReflectliteType.elem) Tryz.func184 (by kernel_rfl) (by kernel_rfl) (by kernel_rfl) (by kernel_rfl)
 have h93 := @run_callFunc_extern Tryz.prog 185 _ (ReflectliteType.relation "Implements" ReflectliteType.implements_) Tryz.func185 (by kernel_rfl) (by kernel_rfl) (by kernel_rfl) (by kernel_rfl)
 have f6:=nO
 have f7:=abZ
 have mK:=vV
 have mE:=wO
 have mI:=F6
 have k27:=aci
 have k25:=abh
 have e27:=aaB
 have i25:=yo
 have n8:=aa ⟨w.heap.size,0,none⟩ t (W1 w t) (by simp [W1])
 have hlt:0<w.heap.size:=by
  rcases Nat.eq_zero_or_pos w.heap.size with h0 | h
  ·simp [World.cell?,h0] at hg
  ·exact h
 have hg2:(W1 w t).cell? ⟨0,0,none⟩=some (.iface 230 (.agg #[.pointer (some ⟨1,153,none⟩)])):=by
  unfold W1
  rw [World.cell?_alloc_lt _ _ ⟨0,0,none⟩ (by simp),World.cell?_alloc_lt _ _ ⟨0,0,none⟩ hlt]; exact hg
 unfold W1 at n8 hg2 hR
 go_enter Tryz.func123,Tryz.ntmps123
 go_wp2_with (go_at_call 138; refine hR.mono ?_; rintro e w' ⟨rfl,hr⟩)
 exact hr
end Go.Proofs.TryzA
end

section
namespace Go.Kx
open Go
theorem N9 {w0 w:World} {L0 L:Mem} (h:Step w0 L0 w L) (cs:Array Value) (t:TypeId):Step w0 L0 (w.alloc (.cells cs t)) L :=
 Step.left (B:=[⟨some (w.heap.size,0),cs.toList⟩]) (Step.perm (Step.frame (A:=[]) h (Step.alloc w cs t (0,0) (.inr rfl))) (by simpa using List.perm_append_comm (l₁:=[(⟨some (w.heap.size,0),cs.toList⟩:Ent)]) (l₂:=L)))
theorem Cz {w0 w:World} {L0:Mem} {A:Y6} {u:Value} (v:Value) (h:Step w0 L0 w [⟨A,[u]⟩]):Step w0 L0 (w.setCell (loc A 0) v) [⟨A,[v]⟩]:=by
 have h1:=Step.frame (A:=[⟨A,[u]⟩]) (R:=[]) (by simpa using h) (Step.set (i:=0) v h.ok (by simp))
 simpa using h1
theorem gZ (e:Er):vE e = .nilIface ∨ ∃ t v,vE e = .iface t v:=by
 cases e
 ·exact .inl rfl
 ·exact .inr ⟨_,_,rfl⟩
 ·exact .inr ⟨_,_,rfl⟩
end Go.Kx
namespace Go.Proofs
open Go Go.Kx
theorem ik (b o:Nat) (e:Er) (old:Int):Does Tryz.prog 123 [vE e,Value.iface 184 (ptr (some (b,o)) 0)] [⟨some (b,o),[vi old]⟩] [⟨some (0,0),[vo]⟩] (Γ:=Unit) (fun _=>vb (!(Er.isNil e))) (fun _=>[⟨some (b,o),[vi (Er.tell e old)]⟩]):=by
 intro w hmem hro hd
 have hg:w.cell? ⟨0,0,none⟩=some vo:=(hro ⟨some (0,0),[vo]⟩ (List.mem_singleton.2 rfl)).2 0 vo rfl
 have ht:=((hmem.1 _ (List.mem_singleton.2 rfl)).2 0 (vi old) rfl)
 have hlt:(loc (some (b,o)) 0).block<w.heap.size:=block_lt ht.1
 have hs:Step w [⟨some (b,o),[vi old]⟩] w [⟨some (b,o),[vi old]⟩]:=Step.refl hmem
 have ha1:(TryzA.W1 w (loc (some (b,o)) 0)).cell? ⟨w.heap.size,0,none⟩=some (.pointer (some (loc (some (b,o)) 0))):=by
  unfold TryzA.W1
  rw [World.cell?_alloc_lt _ _ ⟨w.heap.size,0,none⟩ (by simp)]; simp
 have ht1:(TryzA.W1 w (loc (some (b,o)) 0)).cell? (loc (some (b,o)) 0)=some (vi old):=by
  unfold TryzA.W1
  rw [World.cell?_alloc_lt _ _ _ (by simp; omega),World.cell?_alloc_lt _ _ _ hlt]; exact ht.1
 have hf1:(TryzA.W1 w (loc (some (b,o)) 0)).frozen? (loc (some (b,o)) 0)=false:=by
  unfold TryzA.W1
  rw [World.frozen?_alloc_old _ _ _ (by simp; omega),World.frozen?_alloc_old _ _ _ (Nat.ne_of_lt hlt)]; exact ht.2
 cases e with
 | nil=>exact (TryzA.dK _ w).mono fun e w' ⟨h1,h2⟩=>⟨(),h1,by subst h2; exact hs⟩
 | no n =>
  refine TryzA.kX _ _ (loc (some (b,o)) 0) (vi old) w _ hg ht.1 ht.2 ?_
  refine (TryzA.lq n (loc (some (b,o)) 0) ⟨w.heap.size,0,none⟩ (vi old) _ ha1 ht1 hf1).mono fun e w' ⟨h1,h2⟩=>⟨h1,(),rfl,?_⟩
  subst h2
  exact Cz _ (N9 (N9 (N9 (N9 hs _ _) _ _) _ _) _ _)
 | wr n i =>
  refine TryzA.kX _ _ (loc (some (b,o)) 0) (vi old) w _ hg ht.1 ht.2 ?_
  refine (TryzA.ab6 n (vE i) (gZ i) (loc (some (b,o)) 0) ⟨w.heap.size,0,none⟩ (vi old) _ ha1 ht1 hf1).mono fun e w' ⟨h1,h2⟩=>⟨h1,(),rfl,?_⟩
  subst h2
  exact Cz _ (N9 (N9 (N9 (N9 (N9 (N9 (N9 hs _ _) _ _) _ _) _ _) _ _) _ _) _ _)
open TryzI Tryz
def BF (err:Er) (old:Int):Option (Bool × Int) :=
 some (!(Er.isNil err),Er.tell err old)
theorem xn {bt:Nat} {ot:Nat} {err:Er} {old:Int} {r:Bool × Int} (H:BF err old=some r) :
  Does Tryz.prog 123 [vE err,Value.iface 184 (ptr (some (bt,ot)) 0)] [⟨some (bt,ot),[vi old]⟩] [⟨some (0,0),[vo]⟩] (Γ:=Unit) (fun g=>vb r.1) (fun g=>[⟨some (bt,ot),[vi r.2]⟩]):=by
 obtain rfl:=sj H
 exact ik bt ot err old
open TryzI Tryz
def LJ (err:Er):Option (Int) :=
 (if (!(Er.isNil err))=true then ((BF err 0).bind fun Zu=>(some (Zu.1,Zu.2))) else (some (false,0))).bind fun j1=>(if j1.1=true then (some j1.2) else (some 0))
theorem wz {err:Er} {r:Int} (H:LJ err=some r) :
  Does Tryz.prog 103 [vE err] [] [⟨some (0,0),[vo]⟩] (Γ:=Unit) (fun g=>vi r) (fun g=>[]):=by
 intro w hmem hro hd
 refine Zn func103 rfl ntmps103 rfl hmem hro hd ?_
 unfold LJ at H
 refine Z_ (Y2 ?_)
 refine Z6 (Z_ (YE (Wh [(1,[vi 0])] mg fG ⟨rfl,trivial⟩) (fun b1=>?_)))
 refine Z6 (ZY (Z_ (YP ?_)))
 refine ZV (Zg rfl rfl (fun w=>aaE w err underlying153)) ?_
 refine YP ?_
 have ⟨j1,Hj,H⟩:=Z9 H
 refine VH (Γ:=Unit) (fun Sc=>[(3,ptr (some (b1,0)) 0),(10,vb j1.1)]) (fun Sc=>[⟨some (b1,0),[vi j1.2]⟩]) ?_ ?_
 ·intro Sc
  refine Z7 (Sn H (fun hc H=>?_) (fun hc H=>?_))
  ·refine Z_ (ZV (Z8 rfl (.o 0) rfl isAgg36) ?_)
   refine Y2 ?_
   refine Zq (ZZ ?_)
   obtain rfl:=sj H
   exact Wj
  refine ZN (Z7 (Z_ (Y2 ?_)))
  refine Zq ?_
  obtain rfl:=sj H
  exact Wj
 intro hJ
 replace H:=Hj
 refine Mg (d:=6) H (fun hc H=>?_) (fun hc H=>?_)
 ·refine Zc (ZO rfl) ?_
  refine Zc (JU rfl underlying184 rfl rfl) ?_
  have ⟨Zu,Yk,H⟩:=Z9 H
  refine JQ (Wq (is:=[0]) rfl call123 (xn Yk :) rfl ⟨.r 0,trivial⟩) (fun Re=>?_)
  refine ak ?_
  refine ZK ?_
  obtain rfl:=sj H
  exact WW [0] (hJ ())
 refine Zj 4 rfl ?_
 refine ZK ?_
 obtain rfl:=sj H
 exact WW [0] (hJ ())
open TryzI Tryz
def Nk (key s_:Str):Option (Int × Str × Int × Int × Int) :=
 if ((key).length:Int) ≠ 32 then (some (0,([]:Str),0,0,2000)) else ((Nh key s_).bind fun Zu=>((LJ Zu.2.2.2.2).bind fun YJ=>(some (Zu.1,Zu.2.1,Zu.2.2.1,Zu.2.2.2.1,YJ))))
theorem qQ {key:Str} {s_:Str} {r:Int × Str × Int × Int × Int} (H:Nk key s_=some r) :
  Does Tryz.prog 84 [vs key,vs s_] [] [⟨some (0,0),[vo]⟩] (Γ:=Unit) (fun g=>Value.tuple [aG [(1,[vi r.1]),(1,[vs r.2.1]),(1,[vi r.2.2.1]),(1,[vi r.2.2.2.1])],vi r.2.2.2.2].toArray) (fun g=>[]):=by
 intro w hmem hro hd
 refine Zn func84 rfl ntmps84 rfl hmem hro hd ?_
 unfold Nk at H
 refine Z_ (YE (SL WC Ph) (fun b1=>?_))
 refine Y2 ?_
 refine Z6 (ZY (Z_ (YP ?_)))
 refine ZV (Zf rfl underlying9) ?_
 refine ZV (ZT SN) ?_
 refine Z6 (UK H (fun hc H=>?_) (fun hc H=>?_))
 ·refine Z_ (ZV (Y9 (pv:=[]) (pl:=[(0,1),(1,1),(2,1),(3,1)]) rfl rfl underlying66 WC Qy Ph (cs:=flat [(1,[vi 0]),(1,[vs ([]:Str)]),(1,[vi 0]),(1,[vi 0])]) (by kernel_rfl)) ?_)
  refine VM (VZ [0,0,0,0] rfl rfl WC) (fun _=>?_)
  refine Y2 ?_
  refine Zq (ZZ ?_)
  obtain rfl:=sj H
  exact SF (vs:=[_,_]) rfl ⟨(Wp [0,1,2,3] rfl rfl isAgg66 WC),rfl,trivial⟩
 refine ZN (Z7 (Z_ (Zj 2 rfl ?_)))
 have ⟨Zu,Yk,H⟩:=Z9 H
 refine YE (Y4 (wS Yk :) call102 .z) (fun Re=>?_)
 refine Zj 3 rfl ?_
 refine YE (SL WC Ph) (fun b2=>?_)
 refine VM (VZ [0,0,0,0] rfl rfl WC) (fun _=>?_)
 refine Y2 ?_
 refine Z6 (ZY ?_)
 have ⟨YJ,X6,H⟩:=Z9 H
 refine U3 [] 5 rfl ?_
 refine PX 2 [] (.v 0 [] rfl rfl (VY [0,1,2,3] rfl rfl isAgg66 WC) (.v 1 [] rfl rfl (ZO rfl) (.e 2 [1] rfl rfl (Qg (wz X6 :) call103 ⟨.r 0,trivial⟩) .nil))) (fun γ=>?_)
 refine Qj [20,18,5,4] rfl rfl ?_
 refine Qh 3 [] rfl (VZ [4,4,4,4] rfl rfl WC) (fun _=>rfl) (fun _=>?_)
 refine qc 4 [] rfl (XL rfl) rfl ?_
 refine Vi ?_
 refine Z7 (Y7 ?_)
 obtain rfl:=sj H
 exact SF (vs:=[_,_]) rfl ⟨(Wp [0,1,2,3] rfl rfl isAgg66 WC),rfl,trivial⟩
open TryzI Tryz
def Ry (Sj:Int):Option (Int × Int × Int) :=
 X5 (decide (Sj=4865)) fun x1=>(if x1=true then (some (16,256,0)) else (X5 (decide (Sj=4866)) fun x2=>(if x2=true then (some (32,384,0)) else (X5 (decide (Sj=4867)) fun x3=>(if x3=true then (some (32,256,0)) else (some (0,0,800)))))))
theorem qh {Sj:Int} {r:Int × Int × Int} (H:Ry Sj=some r) :
  Does Tryz.prog 69 [vi Sj] [] [] (Γ:=Unit) (fun g=>Value.tuple [vi r.1,vi r.2.1,vi r.2.2].toArray) (fun g=>[]):=by
 intro w hmem hro hd
 refine Zn func69 rfl ntmps69 rfl hmem hro hd ?_
 unfold Ry at H
 refine Z_ (Zj 3 rfl ?_)
 refine Z6 (ZY (Z_ (YP ?_)))
 refine Z6 (ZP (Z_ (ZV (ZT Xr) ?_)))
 refine Y2 ?_
 have ⟨x1,TK,H⟩:=ZX H
 refine WN 6 (congrArg vb TK) ?_
 refine Z6 (Sn H (fun hc H=>?_) (fun hc H=>?_))
 ·refine Z_ (Zj 3 rfl ?_)
  refine Zq (ZE (ZZ ?_))
  obtain rfl:=sj H
  exact SF (vs:=[_,_,_]) rfl ⟨rfl,rfl,rfl,trivial⟩
 refine Z_ (ZV (ZT Xr) ?_)
 refine Y2 ?_
 have ⟨x2,KO,H⟩:=ZX H
 refine WN 8 (congrArg vb KO) ?_
 refine Z6 (Sn H (fun hc H=>?_) (fun hc H=>?_))
 ·refine Z_ (Zj 3 rfl ?_)
  refine Zq (ZE (ZZ ?_))
  obtain rfl:=sj H
  exact SF (vs:=[_,_,_]) rfl ⟨rfl,rfl,rfl,trivial⟩
 refine Z_ (ZV (ZT Xr) ?_)
 refine Y2 ?_
 have ⟨x3,qx,H⟩:=ZX H
 refine WN 10 (congrArg vb qx) ?_
 refine Z6 (Sn H (fun hc H=>?_) (fun hc H=>?_))
 ·refine Z_ (Zj 3 rfl ?_)
  refine Zq (ZE (ZZ ?_))
  obtain rfl:=sj H
  exact SF (vs:=[_,_,_]) rfl ⟨rfl,rfl,rfl,trivial⟩
 refine ZN (ZW (Z7 (Z_ (Zj 3 rfl ?_))))
 refine Zq ?_
 obtain rfl:=sj H
 exact SF (vs:=[_,_,_]) rfl ⟨rfl,rfl,rfl,trivial⟩
open TryzI Tryz
def Ul (Sj:Int):Option (Int × Int) :=
 (Ry Sj).bind fun Zu=>(if Zu.2.2 ≠ 0 then (some (0,1900)) else (some (Zu.2.1,0)))
theorem Gl {Sj:Int} {r:Int × Int} (H:Ul Sj=some r) :
  Does Tryz.prog 42 [vi Sj] [] [] (Γ:=Unit) (fun g=>Value.tuple [vi r.1,vi r.2].toArray) (fun g=>[]):=by
 intro w hmem hro hd
 refine Zn func42 rfl ntmps42 rfl hmem hro hd ?_
 unfold Ul at H
 refine Z_ (Zj 2 rfl ?_)
 refine Z6 (Z_ (YP ?_))
 have ⟨Zu,Yk,H⟩:=Z9 H
 refine YE (Y4 (qh Yk :) call69 .z) (fun Re=>?_)
 refine Zj 7 rfl ?_
 refine Z6 (ZY (Z_ (YP ?_)))
 refine ZV (ZT SN) ?_
 refine Z6 (UK H (fun hc H=>?_) (fun hc H=>?_))
 ·refine Z_ (Zj 2 rfl ?_)
  refine Zq (ZZ ?_)
  obtain rfl:=sj H
  exact IA
 refine ZN (Z7 (Z_ (Zj 3 rfl ?_)))
 refine Zq ?_
 obtain rfl:=sj H
 exact IA
end Go.Proofs
end

/-
  Part 18 of the proof of what several laws share.
-/
import Derived.Test.YtkgeoekcnlgfnaaGreatDoorKh17
set_option maxHeartbeats 4000000
set_option maxRecDepth 20000
set_option linter.unusedVariables false
set_option linter.unusedSimpArgs false
section
namespace Go.Proofs
open Go Go.Kx
open TryzI Tryz
def Ux (key ZA:Str) (Ql:Int) (TH:Str) (Oa LQ:Int):Option (Str × Int) :=
 (Ul Ql).bind fun Zu=>((if Zu.2 ≠ 0 then (some true) else (if ((key).length:Int) ≠ 32 then (some true) else (if ((ZA).length:Int) ≠ 12 then (some true) else (if ((TH).length:Int) ≠ (ZJ (Zu.1.tdiv 8)) then (some true) else (if Oa<0 then (some true) else (if 4294967295<Oa then (some true) else (if LQ<0 then (some true) else (some (decide (4294967295<LQ)))))))))).bind fun j1=>(if j1=true then (some (([]:Str),2000)) else ((Wt Ql 2).bind fun YJ=>((Wt Oa 4).bind fun X7=>(if (YJ).length+(X7).length≤4611686018427387904 then ((Wt LQ 4).bind fun Xu=>(if (YJ++X7).length+(Xu).length≤4611686018427387904 then (if ((YJ++X7)++Xu).length+(TH).length≤4611686018427387904 then ((SX key ZA ([]:Str) (((YJ++X7)++Xu)++TH)).bind fun UC=>(if (ZA).length+(UC.1).length≤4611686018427387904 then (X5 (ZA++UC.1) fun x1=>(some (x1,0))) else none)) else none) else none)) else none)))))
theorem qa {key:Str} {ZA:Str} {Ql:Int} {TH:Str} {Oa:Int} {LQ:Int} {r:Str × Int} (H:Ux key ZA Ql TH Oa LQ=some r) :
  Does Tryz.prog 29 [vs key,vs ZA,aG [(1,[vi Ql]),(1,[vs TH]),(1,[vi Oa]),(1,[vi LQ])]] [] [] (Γ:=Unit) (fun g=>Value.tuple [vs r.1,vi r.2].toArray) (fun g=>[]):=by
 intro w hmem hro hd
 refine Zn func29 rfl ntmps29 rfl hmem hro hd ?_
 unfold Ux at H
 refine Z_ (YE PT (fun b1=>?_))
 refine Zj 2 rfl ?_
 refine Z6 (Z_ (ZV (ZQ 0 underlying66 YM) ?_))
 refine ZV (Z8 rfl (.o 0) rfl isAgg3) ?_
 have ⟨Zu,Yk,H⟩:=Z9 H
 refine YE (Y4 (Gl Yk :) call42 .z) (fun Re=>?_)
 refine Zj 5 rfl ?_
 refine Z6 (ZY (Z_ (YP ?_)))
 refine ZV (ZT SN) ?_
 refine YP ?_
 have ⟨j1,Hj,H⟩:=Z9 H
 refine VH (Γ:=Unit) (fun Sc=>[(0,vs key),(1,vs ZA),(5,ptr (some (b1,0)) 0),(57,vb j1)]) (fun Sc=>[⟨some (b1,0),[vi Ql]⟩,⟨some (b1,1),[vs TH]⟩,⟨some (b1,2),[vi Oa]⟩,⟨some (b1,3),[vi LQ]⟩]) ?_ ?_
 ·intro Sc
  refine Z7 (Sn H (fun hc H=>?_) (fun hc H=>?_))
  ·refine Z_ (Zj 2 rfl ?_)
   refine Zq (ZZ ?_)
   obtain rfl:=sj H
   exact IA
  refine ZN (Z7 (ZY ?_))
  have ⟨YJ,X6,H⟩:=Z9 H
  have ⟨X7,Vt,H⟩:=Z9 H
  have ⟨h1,H⟩:=Z4 H
  have ⟨Xu,UH,H⟩:=Z9 H
  have ⟨h2,H⟩:=Z4 H
  have ⟨h3,H⟩:=Z4 H
  have ⟨UC,Qi,H⟩:=Z9 H
  refine U3 [] 22 rfl ?_
  refine PX 0 [] (.v 0 [] rfl rfl (ZO rfl) (.v 1 [] rfl rfl (ZO rfl) (.v 2 [] rfl rfl (ZQ 0 underlying66 YM) (.v 3 [2] rfl rfl (Z8 rfl (.o 0) rfl isAgg3) (.e 4 [3] rfl rfl (Qg (ML X6 :) call60 .z) (.v 5 [] rfl rfl (ZQ 2 underlying66 YM) (.v 6 [5] rfl rfl (Z8 rfl (.o 2) rfl isAgg3) (.e 7 [6] rfl rfl (Qg (ML Vt :) call60 .z) (.v 8 [7,4] rfl rfl (Zg rfl rfl (fun w=>G9 w YJ X7 h1)) (.v 9 [] rfl rfl (ZQ 3 underlying66 YM) (.v 10 [9] rfl rfl (Z8 rfl (.o 3) rfl isAgg3) (.e 11 [10] rfl rfl (Qg (ML UH :) call60 .z) (.v 12 [8,11] rfl rfl (Zg rfl rfl (fun w=>G9 w (YJ++X7) Xu h2)) (.v 13 [] rfl rfl (ZQ 1 underlying66 Xe) (.v 14 [13] rfl rfl (Z8 rfl (.o 1) rfl isAgg9) (.v 15 [14,12] rfl rfl (Zg rfl rfl (fun w=>G9 w ((YJ++X7)++Xu) TH h3)) (.e 16 [15,0,1] rfl rfl (Qg (pJ Qi :) call59 .z) (.v 17 [16] rfl rfl (ZO rfl) (.v 18 [17] rfl rfl K5 (.v 19 [17] rfl rfl K5 (.v 20 [18] rfl rfl (XL rfl) (.v 21 [19] rfl rfl (XL rfl) .nil)))))))))))))))))))))) (fun γ=>?_)
  refine Qj [10,1] rfl rfl ?_
  refine Vi ?_
  refine Z7 (Z_ (Zj 2 rfl ?_))
  have ⟨h4,H⟩:=Z4 H
  refine ZV (Zg rfl rfl (fun w=>G9 w ZA UC.1 h4)) ?_
  refine Y2 ?_
  have ⟨x1,TK,H⟩:=ZX H
  refine WN 6 (congrArg vs TK) ?_
  refine Y2 ?_
  refine Zq ?_
  obtain rfl:=sj H
  exact IA
 intro hJ
 replace H:=Hj
 refine Td (d:=20) H (fun hc H=>?_) (fun hc H=>?_)
 ·refine Zj 37 rfl ?_
  refine ZK ?_
  obtain rfl:=sj H
  exact WW [0,0,0,0] (hJ ())
 refine Zc (ZO rfl) ?_
 refine Zc (Zf rfl underlying9) ?_
 refine Zc (ZT SN) ?_
 refine Zj 2 rfl ?_
 refine Td (d:=25) H (fun hc H=>?_) (fun hc H=>?_)
 ·refine Zj 32 rfl ?_
  refine ZK ?_
  obtain rfl:=sj H
  exact WW [0,0,0,0] (hJ ())
 refine Zc (ZO rfl) ?_
 refine Zc (Zf rfl underlying9) ?_
 refine Zc (ZT SN) ?_
 refine Zj 2 rfl ?_
 refine Td (d:=30) H (fun hc H=>?_) (fun hc H=>?_)
 ·refine Zj 27 rfl ?_
  refine ZK ?_
  obtain rfl:=sj H
  exact WW [0,0,0,0] (hJ ())
 refine Zc (ZQ 1 underlying66 Xe) ?_
 refine Zc (Z8 rfl (.o 1) rfl isAgg9) ?_
 refine Zc (Zf rfl underlying9) ?_
 refine Zc (ZO rfl) ?_
 refine Zc (Zg rfl rfl (fun w=>Lh w Zu.1 8 (by decide))) ?_
 refine Zc (ZT SN) ?_
 refine Zj 2 rfl ?_
 refine Td (d:=38) H (fun hc H=>?_) (fun hc H=>?_)
 ·refine Zj 19 rfl ?_
  refine ZK ?_
  obtain rfl:=sj H
  exact WW [0,0,0,0] (hJ ())
 refine Zc (ZQ 2 underlying66 YM) ?_
 refine Zc (Z8 rfl (.o 2) rfl isAgg3) ?_
 refine Zc (ZT WV) ?_
 refine Zj 2 rfl ?_
 refine Td (d:=43) H (fun hc H=>?_) (fun hc H=>?_)
 ·refine Zj 14 rfl ?_
  refine ZK ?_
  obtain rfl:=sj H
  exact WW [0,0,0,0] (hJ ())
 refine Zc (ZQ 2 underlying66 YM) ?_
 refine Zc (Z8 rfl (.o 2) rfl isAgg3) ?_
 refine Zc (ZT Sv) ?_
 refine Zj 2 rfl ?_
 refine Td (d:=48) H (fun hc H=>?_) (fun hc H=>?_)
 ·refine Zj 9 rfl ?_
  refine ZK ?_
  obtain rfl:=sj H
  exact WW [0,0,0,0] (hJ ())
 refine Zc (ZQ 3 underlying66 YM) ?_
 refine Zc (Z8 rfl (.o 3) rfl isAgg3) ?_
 refine Zc (ZT WV) ?_
 refine Zj 2 rfl ?_
 refine Td (d:=53) H (fun hc H=>?_) (fun hc H=>?_)
 ·refine Zj 4 rfl ?_
  refine ZK ?_
  obtain rfl:=sj H
  exact WW [0,0,0,0] (hJ ())
 refine Zc (ZQ 3 underlying66 YM) ?_
 refine Zc (Z8 rfl (.o 3) rfl isAgg3) ?_
 refine Zc (ZT Sv) ?_
 refine FE ?_
 refine ZK ?_
 obtain rfl:=sj H
 exact WW [0,0,0,0] (hJ ())
def WY.b0 (s_:Str) (at_ size:Int) (s0:Int × Int):Option ((Int × Int) ⊕ (Int)) :=
 if s0.2<size then (if 0≤ZJ (at_+s0.2)∧ZJ (at_+s0.2)<((s_).length:Int) then (X5 (HZ (· ||| ·) (EB s0.1 8) ((sg s_ (ZJ (at_+s0.2))).toNat:Int)) fun x1=>(X5 (ZJ (s0.2+1)) fun i1=>(some (.inl (x1,i1))))) else none) else (some (.inr s0.1))
def WY (s_:Str) (at_ size:Int):Option (Int × Int × Int) :=
 if at_<0 then (some (0,0,100)) else (if ((s_).length:Int)<at_ then (some (0,0,100)) else (if (ZJ (((s_).length:Int) - at_))<size then (some (0,0,100)) else ((loop (WY.b0 s_ at_ size) BIG (0,0)).bind fun Yw=>(X5 (ZJ (at_+size)) fun x2=>(some (Yw,x2,0))))))
theorem FT {s_:Str} {at_:Int} {size:Int} {r:Int × Int × Int} (H:WY s_ at_ size=some r) :
  Does Tryz.prog 86 [vs s_,vi at_,vi size] [] [] (Γ:=Unit) (fun g=>Value.tuple [vi r.1,vi r.2.1,vi r.2.2].toArray) (fun g=>[]):=by
 intro w hmem hro hd
 refine Zn func86 rfl ntmps86 rfl hmem hro hd ?_
 unfold WY at H
 refine Z_ (Zj 3 rfl ?_)
 refine Z6 (ZY (Z_ (YP ?_)))
 refine ZV (ZT WV) ?_
 refine YP ?_
 refine Td (d:=13) H (fun hc H=>?_) (fun hc H=>?_)
 ·refine Zj 13 rfl ?_
  refine Z6 (VI rfl ?_)
  refine Z_ (Zj 3 rfl ?_)
  refine Zq (ZZ ?_)
  obtain rfl:=sj H
  exact SF (vs:=[_,_,_]) rfl ⟨rfl,rfl,rfl,trivial⟩
 refine Zj 2 rfl ?_
 refine Zc (Zf rfl underlying9) ?_
 refine Zc (ZT Sv) ?_
 refine Zj 2 rfl ?_
 refine Td (d:=19) H (fun hc H=>?_) (fun hc H=>?_)
 ·refine Zj 7 rfl ?_
  refine Z6 (VI rfl ?_)
  refine Z_ (Zj 3 rfl ?_)
  refine Zq (ZZ ?_)
  obtain rfl:=sj H
  exact SF (vs:=[_,_,_]) rfl ⟨rfl,rfl,rfl,trivial⟩
 refine Zj 2 rfl ?_
 refine Zc (Zf rfl underlying9) ?_
 refine Zc (ZO rfl) ?_
 refine Zc (ZT OX) ?_
 refine Zc (ZT Sv) ?_
 refine FE ?_
 refine Z6 (UK H (fun hc H=>?_) (fun hc H=>?_))
 ·refine Z_ (Zj 3 rfl ?_)
  refine Zq (ZZ ?_)
  obtain rfl:=sj H
  exact SF (vs:=[_,_,_]) rfl ⟨rfl,rfl,rfl,trivial⟩
 refine ZN (Z7 (Z_ (Y2 ?_)))
 refine Z6 (ZY (Z_ (Y2 ?_)))
 refine Z6 (ZP ?_)
 have ⟨Yw,Hl,H⟩:=Z9 H
 refine Wz [0,1,2,9,10] [] rfl rfl ?_
 refine Yv (id:=0) (body:=(WY.b0 s_ at_ size)) (σ:=Int × Int) (Γ:=Unit) (Γx:=Unit) (fun s0 WG=>[(0,vs s_),(1,vi at_),(2,vi size),(9,vi s0.1),(10,vi s0.2)]) (fun s0 WG=>[]) (fun t g=>[(1,vi at_),(2,vi size),(9,vi t)]) (fun t g=>[]) ?_ BIG (0,0) () Yw Hl ?_
 ·intro s0 WG r1 H K hK hE
  unfold WY.b0 at H
  refine ZY (Z_ (Zj 2 rfl ?_))
  refine ZV (ZT WV) ?_
  refine Z6 (UK H (fun hc H=>?_) (fun hc H=>?_))
  ·refine ZN (Z7 (ZY (ZP (ZH (YP ?_)))))
   refine ZV (Zg rfl rfl (fun w=>abE w s0.1 .u64 8 (by decide))) ?_
   refine Zj 3 rfl ?_
   refine ZV (ZT XN) ?_
   have ⟨h1,H⟩:=Z4 H
   refine ZV (U2 rfl rfl (i:=ZJ (at_+s0.2)) underlying9 h1.1 h1.2) ?_
   refine ZV (Vu rfl (fun w=>nY w _ _ underlying3 (zh) (sg s_ (ZJ (at_+s0.2))))) ?_
   refine ZV (ZT orI) ?_
   refine Y2 ?_
   have ⟨x1,TK,H⟩:=ZX H
   refine WN 9 (congrArg vi TK) ?_
   refine ZK (ZW (Z7 (ZH (YP ?_))))
   refine ZV (ZT XN) ?_
   refine Y2 ?_
   have ⟨i1,Ll,H⟩:=ZX H
   refine WN 10 (congrArg vi Ll) ?_
   refine ZK ?_
   obtain rfl:=sj H
   exact Ri [] (hK (x1,i1) rfl ())
  refine YW (Z0 (Z0 ?_))
  obtain rfl:=sj H
  exact WW [] (hE s0.1 rfl ())
 intro g
 refine ZL (Z7 (Z_ (Zj 3 rfl ?_)))
 refine ZV (ZT XN) ?_
 refine Zj 2 rfl ?_
 have ⟨x2,KO,H⟩:=ZX H
 refine WN 7 (congrArg vi KO) ?_
 refine Y2 ?_
 refine Zq ?_
 obtain rfl:=sj H
 exact SF (vs:=[_,_,_]) rfl ⟨rfl,rfl,rfl,trivial⟩
def Uv (key s_:Str):Option (Int × Str × Int × Int × Int) :=
 if ((key).length:Int) ≠ 32 then (some (0,([]:Str),0,0,2000)) else (if ((s_).length:Int)<12 then (some (0,([]:Str),0,0,2001)) else (if 12≤(s_).length then (if 12≤(s_).length then ((S9 key (sub s_ 0 12) ([]:Str) (sub s_ 12 ((s_).length))).bind fun Zu=>((if Zu.2 ≠ 0 then (some true) else (some (decide (((Zu.1).length:Int)<10)))).bind fun j1=>(if j1=true then (some (0,([]:Str),0,0,2001)) else ((WY Zu.1 0 2).bind fun YJ=>((WY Zu.1 2 4).bind fun X7=>((WY Zu.1 6 4).bind fun Xu=>(if 10≤(Zu.1).length then (if 12≤(s_).length then ((Ux key (sub s_ 0 12) YJ.1 (sub Zu.1 10 ((Zu.1).length)) X7.1 Xu.1).bind fun UC=>((if UC.2 ≠ 0 then (some true) else (some (decide (UC.1 ≠ s_)))).bind fun j2=>(if j2=true then (some (0,([]:Str),0,0,2001)) else (some (YJ.1,sub Zu.1 10 ((Zu.1).length),X7.1,Xu.1,0))))) else none) else none))))))) else none) else none))
theorem p_ {key:Str} {s_:Str} {r:Int × Str × Int × Int × Int} (H:Uv key s_=some r) :
  Does Tryz.prog 68 [vs key,vs s_] [] [] (Γ:=Unit) (fun g=>Value.tuple [aG [(1,[vi r.1]),(1,[vs r.2.1]),(1,[vi r.2.2.1]),(1,[vi r.2.2.2.1])],vi r.2.2.2.2].toArray) (fun g=>[]):=by
 intro w hmem hro hd
 refine Zn func68 rfl ntmps68 rfl hmem hro hd ?_
 unfold Uv at H
 refine Z_ (YE (SL WC Ph) (fun b1=>?_))
 refine Y2 ?_
 refine Z6 (ZY (Z_ (YP ?_)))
 refine ZV (Zf rfl underlying9) ?_
 refine ZV (ZT SN) ?_
 refine Z6 (UK H (fun hc H=>?_) (fun hc H=>?_))
 ·refine Z_ (ZV (Y9 (pv:=[]) (pl:=[(0,1),(1,1),(2,1),(3,1)]) rfl rfl underlying66 WC Qy Ph (cs:=flat [(1,[vi 0]),(1,[vs ([]:Str)]),(1,[vi 0]),(1,[vi 0])]) (by kernel_rfl)) ?_)
  refine VM (VZ [0,0,0,0] rfl rfl WC) (fun _=>?_)
  refine Y2 ?_
  refine Zq (ZZ ?_)
  obtain rfl:=sj H
  exact SF (vs:=[_,_]) rfl ⟨(Wp [0,1,2,3] rfl rfl isAgg66 WC),rfl,trivial⟩
 refine ZN (Z7 (ZY (Z_ (YP ?_))))
 refine ZV (Zf rfl underlying9) ?_
 refine ZV (ZT WV) ?_
 refine Z6 (UK H (fun hc H=>?_) (fun hc H=>?_))
 ·refine Z_ (ZV (Y9 (pv:=[]) (pl:=[(0,1),(1,1),(2,1),(3,1)]) rfl rfl underlying66 WC Qy Ph (cs:=flat [(1,[vi 0]),(1,[vs ([]:Str)]),(1,[vi 0]),(1,[vi 0])]) (by kernel_rfl)) ?_)
  refine VM (VZ [0,0,0,0] rfl rfl WC) (fun _=>?_)
  refine Y2 ?_
  refine Zq (ZZ ?_)
  obtain rfl:=sj H
  exact SF (vs:=[_,_]) rfl ⟨(Wp [0,1,2,3] rfl rfl isAgg66 WC),rfl,trivial⟩
 refine ZN (Z7 (ZY ?_))
 have ⟨h1,H⟩:=Z4 H
 have ⟨h2,H⟩:=Z4 H
 have ⟨Zu,Yk,H⟩:=Z9 H
 refine U3 [] 11 rfl ?_
 refine PX 0 [] (.v 0 [] rfl rfl (ZO rfl) (.v 1 [] rfl rfl (ZO rfl) (.v 2 [1] rfl rfl (Uq (l:=0) (h:=12) rfl underlying9 OZ.none' (OZ.some' (i:=12) rfl (by decide)) (Nat.zero_le _) h1) (.v 3 [] rfl rfl (ZO rfl) (.v 4 [3] rfl rfl (Uq (l:=12) (h:=(s_).length) rfl underlying9 (OZ.some' (i:=12) rfl (by decide)) OZ.none' h2 (Nat.le_refl _)) (.e 5 [4,0,2] rfl rfl (Qg (qJ Yk :) call85 .z) (.v 6 [5] rfl rfl (ZO rfl) (.v 7 [6] rfl rfl K5 (.v 8 [6] rfl rfl K5 (.v 9 [7] rfl rfl (XL rfl) (.v 10 [8] rfl rfl (XL rfl) .nil))))))))))) (fun γ=>?_)
 refine Qj [7,6,4,0,1] rfl rfl ?_
 refine Vi ?_
 refine Z7 (ZY (Z_ (YP ?_)))
 refine ZV (ZT SN) ?_
 refine YP ?_
 have ⟨j1,Hj,H⟩:=Z9 H
 refine VH (Γ:=Unit) (fun Sc=>[(0,vs key),(1,vs s_),(4,ptr (some (b1,0)) 0),(6,vs Zu.1),(43,vb j1)]) (fun Sc=>[⟨some (b1,0),[vi 0]⟩,⟨some (b1,1),[vs ([]:Str)]⟩,⟨some (b1,2),[vi 0]⟩,⟨some (b1,3),[vi 0]⟩]) ?_ ?_
 ·intro Sc
  refine Z7 (Sn H (fun hc H=>?_) (fun hc H=>?_))
  ·refine Z_ (ZV (Y9 (pv:=[]) (pl:=[(0,1),(1,1),(2,1),(3,1)]) rfl rfl underlying66 WC Qy Ph (cs:=flat [(1,[vi 0]),(1,[vs ([]:Str)]),(1,[vi 0]),(1,[vi 0])]) (by kernel_rfl)) ?_)
   refine VM (VZ [0,0,0,0] rfl rfl WC) (fun _=>?_)
   refine Y2 ?_
   refine Zq (ZZ ?_)
   obtain rfl:=sj H
   exact SF (vs:=[_,_]) rfl ⟨(Wp [0,1,2,3] rfl rfl isAgg66 WC),rfl,trivial⟩
  refine ZN (Z7 (Z_ (YP ?_)))
  have ⟨YJ,X6,H⟩:=Z9 H
  refine YE (Y4 (FT X6 :) call86 .z) (fun UD=>?_)
  refine Zj 7 rfl ?_
  refine Z6 (Z_ (YP ?_))
  have ⟨X7,Vt,H⟩:=Z9 H
  refine YE (Y4 (FT Vt :) call86 .z) (fun Pm=>?_)
  refine Zj 7 rfl ?_
  refine Z6 (Z_ (YP ?_))
  have ⟨Xu,UH,H⟩:=Z9 H
  refine YE (Y4 (FT UH :) call86 .z) (fun JV=>?_)
  refine Zj 7 rfl ?_
  refine Z6 (Wz [0,1,4,6,8,11,14] [0,0,0,0] rfl rfl ?_)
  refine Z_ (Zj 4 rfl ?_)
  have ⟨h3,H⟩:=Z4 H
  refine ZV (Uq (l:=10) (h:=(Zu.1).length) rfl underlying9 (OZ.some' (i:=10) rfl (by decide)) OZ.none' h3 (Nat.le_refl _)) ?_
  refine ZV (Y9 (pv:=[(0,vi YJ.1),(2,vi X7.1),(3,vi Xu.1),(1,vs (sub Zu.1 10 ((Zu.1).length)))]) (pl:=[(0,1),(1,1),(2,1),(3,1)]) rfl rfl underlying66 WC Qy Ph (cs:=flat [(1,[vi YJ.1]),(1,[vs (sub Zu.1 10 ((Zu.1).length))]),(1,[vi X7.1]),(1,[vi Xu.1])]) (by kernel_rfl)) ?_
  refine YE (SL WC Ph) (fun b2=>?_)
  refine VM (VZ [0,0,0,0] rfl rfl WC) (fun _=>?_)
  refine Z6 (ZY ?_)
  have ⟨h4,H⟩:=Z4 H
  have ⟨UC,Qi,H⟩:=Z9 H
  refine U3 [] 10 rfl ?_
  refine PX 0 [] (.v 0 [] rfl rfl (ZO rfl) (.v 1 [] rfl rfl (ZO rfl) (.v 2 [1] rfl rfl (Uq (l:=0) (h:=12) rfl underlying9 OZ.none' (OZ.some' (i:=12) rfl (by decide)) (Nat.zero_le _) h4) (.v 3 [] rfl rfl (VY [0,1,2,3] rfl rfl isAgg66 WC) (.e 4 [2,3,0] rfl rfl (Qg (qa Qi :) call29 .z) (.v 5 [4] rfl rfl (ZO rfl) (.v 6 [5] rfl rfl K5 (.v 7 [5] rfl rfl K5 (.v 8 [6] rfl rfl (XL rfl) (.v 9 [7] rfl rfl (XL rfl) .nil)))))))))) (fun γ=>?_)
  refine Qj [19,18,17,1,4] rfl rfl ?_
  refine Vi ?_
  refine Z7 (ZY (Z_ (YP ?_)))
  refine ZV (ZT SN) ?_
  refine YP ?_
  have ⟨j2,Hj,H⟩:=Z9 H
  refine VH (Γ:=Unit) (fun sQ=>[(4,ptr (some (b1,0)) 0),(17,ptr (some (b2,0)) 0),(83,vb j2)]) (fun sQ=>[⟨some (b1,0),[vi 0]⟩,⟨some (b1,1),[vs ([]:Str)]⟩,⟨some (b1,2),[vi 0]⟩,⟨some (b1,3),[vi 0]⟩,⟨some (b2,0),[vi YJ.1]⟩,⟨some (b2,1),[vs (sub Zu.1 10 ((Zu.1).length))]⟩,⟨some (b2,2),[vi X7.1]⟩,⟨some (b2,3),[vi Xu.1]⟩]) ?_ ?_
  ·intro sQ
   refine Z7 (Sn H (fun hc H=>?_) (fun hc H=>?_))
   ·refine Z_ (ZV (Y9 (pv:=[]) (pl:=[(0,1),(1,1),(2,1),(3,1)]) rfl rfl underlying66 WC Qy Ph (cs:=flat [(1,[vi 0]),(1,[vs ([]:Str)]),(1,[vi 0]),(1,[vi 0])]) (by kernel_rfl)) ?_)
    refine VM (VZ [0,0,0,0] rfl rfl WC) (fun _=>?_)
    refine Y2 ?_
    refine Zq (ZZ ?_)
    obtain rfl:=sj H
    exact SF (vs:=[_,_]) rfl ⟨(Wp [0,1,2,3] rfl rfl isAgg66 WC),rfl,trivial⟩
   refine ZN (Z7 (Z_ (ZV (VY [4,5,6,7] rfl rfl isAgg66 WC) ?_)))
   refine VM (VZ [0,0,0,0] rfl rfl WC) (fun _=>?_)
   refine Y2 ?_
   refine Zq ?_
   obtain rfl:=sj H
   exact SF (vs:=[_,_]) rfl ⟨(Wp [0,1,2,3] rfl rfl isAgg66 WC),rfl,trivial⟩
  intro hJ
  replace H:=Hj
  refine Td (d:=79) H (fun hc H=>?_) (fun hc H=>?_)
  ·refine Zj 4 rfl ?_
   refine ZK ?_
   obtain rfl:=sj H
   exact WW [4,4,4,4,0,0,0,0] (hJ ())
  refine Zj 2 rfl ?_
  refine Zc (ZT KX) ?_
  refine FE ?_
  refine ZK ?_
  obtain rfl:=sj H
  exact WW [4,4,4,4,0,0,0,0] (hJ ())
 intro hJ
 replace H:=Hj
 refine Td (d:=39) H (fun hc H=>?_) (fun hc H=>?_)
 ·refine Zj 4 rfl ?_
  refine ZK ?_
  obtain rfl:=sj H
  exact WW [0,0,0,0] (hJ ())
 refine Zc (ZO rfl) ?_
 refine Zc (Zf rfl underlying9) ?_
 refine Zc (ZT WV) ?_
 refine FE ?_
 refine ZK ?_
 obtain rfl:=sj H
 exact WW [0,0,0,0] (hJ ())
theorem iF (a b:Nat) (ha:a<4294967296) (hb:b<256):HZ (· ||| ·) (EB (a:Int) 8) (b:Int)=((a * 256+b:Nat):Int):=by
 unfold HZ EB
 have e1:ZJ ((a:Int) * 2 ^ (min (8:Int).toNat 64))=((a * 256:Nat):Int):=by
  rw [show min (8:Int).toNat 64=8 from rfl,Yr (by omega) (by omega)]; omega
 rw [e1]
 have e2:(BitVec.ofInt 64 ((a * 256:Nat):Int) ||| BitVec.ofInt 64 (b:Int)).toNat=a * 256+b:=by
  rw [BitVec.ofInt_natCast,BitVec.ofInt_natCast,BitVec.toNat_or,BitVec.toNat_ofNat,BitVec.toNat_ofNat,Nat.mod_eq_of_lt (by omega),Nat.mod_eq_of_lt (by omega)]
  rw [show a * 256=a <<< 8 from by rw [Nat.shiftLeft_eq]]
  rw [← Nat.shiftLeft_add_eq_or_of_lt (by omega:b<2 ^ 8)]
 rw [e2]
 exact Nq (by omega)
def Qt (s:Str) (a:Nat):Nat → Nat
 | 0=>0
 | n+1=>Qt s a n * 256+(s.getD (a+n) 0#8).toNat
theorem si (s:Str) (a:Nat) : ∀ n,Qt s a n<256 ^ n
 | 0=>by simp [Qt]
 | n+1=>by
  have:=si s a n
  have h2:=(s.getD (a+n) 0#8).isLt
  rw [Nat.pow_succ]
  show Qt s a n * 256+_<_
  omega
def ll (s:Str) (a n:Nat):Int × Int × Int:=if a+n≤s.length then ((Qt s a n:Nat),((a+n:Nat):Int),0) else (0,0,100)
theorem uK (s:Str) (a n k:Nat) (hk:k<n) (hn:n≤4) (h:a+n≤s.length):HZ (· ||| ·) (EB (Qt s a k:Int) 8) ((sg s ((a+k:Nat):Int)).toNat:Int)=((Qt s a (k+1):Nat):Int):=by
 have h1:=si s a k
 have h2:(256:Nat) ^ k≤256 ^ 3:=Nat.pow_le_pow_right (by decide) (by omega)
 unfold sg
 rw [Int.toNat_natCast]
 exact iF _ _ (by omega) (s.getD (a+k) 0#8).isLt
theorem number_eq (s:Str) (a n:Nat) (hn:n≤4) (hs:s.length<1152921504606846976) (ha:a<1152921504606846976):TN s (a:Int) (n:Int)=some (ll s a n):=by
 have e1:ZJ ((s.length:Int) - (a:Int))=(s.length:Int) - (a:Int):=Yr (by omega) (by omega)
 have e2:ZJ ((a:Int)+(n:Int))=((a+n:Nat):Int):=by rw [Yr (by omega) (by omega)]; omega
 unfold TN ll
 rw [e1,e2]
 clear e1 e2
 by_cases c:a+n≤s.length
 ·rw [if_pos c]
  refine Zi (by omega) (Zi (by omega) (Zi (by omega) (Z5 (v:=((Qt s a n:Nat):Int)) (Vw (fun k=>(((Qt s a k:Nat):Int),(k:Int))) n _ (by omega) rfl (fun k hk=>?_) ?_) rfl)))
  ·have e3:ZJ ((a:Int)+(k:Int))=((a+k:Nat):Int):=by rw [Yr (by omega) (by omega)]; omega
   have e4:ZJ ((k:Int)+1)=((k+1:Nat):Int):=by rw [Yr (by omega) (by omega)]; omega
   unfold TN.b0
   simp only [e3,e4]
   clear e3 e4
   refine ZM (by omega) (ZM (by omega) (Ze fun x hx=>?_))
   rw [hx,uK s a n k hk hn c]
  ·unfold TN.b0
   exact Zi (by dsimp only; omega) rfl
 ·rw [if_neg c]
  refine Zi (by omega) ?_
  by_cases c2:s.length<a
  ·exact ZM (by omega) rfl
  ·exact Zi (by omega) (ZM (by omega) rfl)
theorem wF (s:Str) (a n:Nat) (hn:n≤4) (hs:s.length<1152921504606846976) (ha:a<1152921504606846976):WY s (a:Int) (n:Int)=some (ll s a n):=by
 have e1:ZJ ((s.length:Int) - (a:Int))=(s.length:Int) - (a:Int):=Yr (by omega) (by omega)
 have e2:ZJ ((a:Int)+(n:Int))=((a+n:Nat):Int):=by rw [Yr (by omega) (by omega)]; omega
 unfold WY ll
 rw [e1,e2]
 clear e1 e2
 by_cases c:a+n≤s.length
 ·rw [if_pos c]
  refine Zi (by omega) (Zi (by omega) (Zi (by omega) (Z5 (v:=((Qt s a n:Nat):Int)) (Vw (fun k=>(((Qt s a k:Nat):Int),(k:Int))) n _ (by omega) rfl (fun k hk=>?_) ?_) rfl)))
  ·have e3:ZJ ((a:Int)+(k:Int))=((a+k:Nat):Int):=by rw [Yr (by omega) (by omega)]; omega
   have e4:ZJ ((k:Int)+1)=((k+1:Nat):Int):=by rw [Yr (by omega) (by omega)]; omega
   unfold WY.b0
   simp only [e3,e4]
   clear e3 e4
   refine ZM (by omega) (ZM (by omega) (Ze fun x hx=>Ze fun i hi=>?_))
   rw [hx,hi,uK s a n k hk hn c]
  ·unfold WY.b0
   exact Zi (by dsimp only; omega) rfl
 ·rw [if_neg c]
  refine Zi (by omega) ?_
  by_cases c2:s.length<a
  ·exact ZM (by omega) rfl
  ·exact Zi (by omega) (ZM (by omega) rfl)
theorem yn (x:Int) (n i:Nat) (h:i<n):(TJ x n).getD i 0#8=BitVec.ofInt 8 (x / 256 ^ (n - 1 - i)):=by
 simp [TJ,List.getD,h]
theorem Am (x:Int):((BitVec.ofInt 8 x).toNat:Int)=x % 256:=by
 rw [BitVec.toNat_ofInt]
 have:0≤x % ((2 ^ 8:Nat):Int):=Int.emod_nonneg _ (by decide)
 rw [Int.toNat_of_nonneg this]; rfl
theorem zK (s:Str) (a k:Nat) : ∀ j,Qt s a (k+j) / 256 ^ j=Qt s a k
 | 0=>by simp
 | j+1=>by
  have h2:=(s.getD (a+(k+j)) 0#8).isLt
  show (Qt s a (k+j) * 256+(s.getD (a+(k+j)) 0#8).toNat) / 256 ^ (j+1)=_
  rw [Nat.pow_succ,Nat.mul_comm (256 ^ j) 256, ← Nat.div_div_eq_div_mul]
  rw [show (Qt s a (k+j) * 256+(s.getD (a+(k+j)) 0#8).toNat) / 256=Qt s a (k+j) from by omega]
  exact zK s a k j
theorem xe (x j:Nat):(BitVec.ofInt 8 ((x:Int) / 256 ^ j)).toNat=x / 256 ^ j % 256:=by
 have h:=Am ((x:Int) / 256 ^ j)
 have e:(x:Int) / 256 ^ j=((x / 256 ^ j:Nat):Int):=by rw [Int.natCast_ediv]; simp
 rw [e] at h ⊢
 omega
theorem Aj (s:Str) (a n:Nat) (h:a+n≤s.length):TJ ((Qt s a n:Nat):Int) n=sub s a (a+n):=by
 refine List.ext_getElem (by rw [Vv,WA h]; omega) fun i h1 h2=>?_
 have hi:i<n:=by rw [Vv] at h1; exact h1
 have e1:(TJ ((Qt s a n:Nat):Int) n).getD i 0#8=(sub s a (a+n)).getD i 0#8:=by
  rw [yn _ _ _ hi,G6 _ _ _ _ (by omega)]
  apply BitVec.eq_of_toNat_eq
  rw [xe]
  have hd:=zK s a (i+1) (n - 1 - i)
  rw [show i+1+(n - 1 - i)=n from by omega] at hd
  rw [hd]
  have h2:=(s.getD (a+i) 0#8).isLt
  show (Qt s a i * 256+(s.getD (a+i) 0#8).toNat) % 256=_
  omega
 simpa [List.getD,h1,h2] using e1
def hl (s:Int):Nat:=if s=4866 then 48 else 32
def Bq (s:Int):Prop:=s=4865 ∨ s=4866 ∨ s=4867
def sz (s:Int):Int × Int × Int:=if s=4865 then (16,256,0) else if s=4866 then (32,384,0) else if s=4867 then (32,256,0) else (0,0,800)
theorem K6 (s:Int):OU s=some (sz s):=by
 unfold OU sz
 by_cases c1:s=4865
 ·simp [X5,c1]
 ·by_cases c2:s=4866
  ·simp [X5,c2]
  ·by_cases c3:s=4867
   ·simp [X5,c3]
   ·simp [X5,c1,c2,c3]
theorem u6 (s:Int):Ry s=some (sz s):=by
 unfold Ry sz
 by_cases c1:s=4865
 ·simp [X5,c1]
 ·by_cases c2:s=4866
  ·simp [X5,c2]
  ·by_cases c3:s=4867
   ·simp [X5,c3]
   ·simp [X5,c1,c2,c3]
theorem FI {s:Int} (h:Bq s):(sz s).2.2=0∧ZJ ((sz s).2.1.tdiv 8)=(hl s:Int):=by
 rcases h with rfl | rfl | rfl <;> exact ⟨by decide,by decide⟩
theorem tL {s:Int} (h : ¬ Bq s):(sz s).2.2=800:=by
 unfold Bq at h
 unfold sz
 rw [if_neg (by omega),if_neg (by omega),if_neg (by omega)]
theorem yg (x:Int):TJ x 4=[BitVec.ofInt 8 (VO x 24),BitVec.ofInt 8 (VO x 16),BitVec.ofInt 8 (VO x 8),BitVec.ofInt 8 x]:=by
 have hr:List.range 4=[0,1,2,3]:=rfl
 have h1:VO x 8=x / 256:=rfl
 have h2:VO x 16=x / 65536:=rfl
 have h3:VO x 24=x / 16777216:=rfl
 unfold TJ
 rw [hr,h1,h2,h3]
 simp
theorem xR (x:Int):TJ x 2=[BitVec.ofInt 8 (VO x 8),BitVec.ofInt 8 x]:=by
 have hr:List.range 2=[0,1]:=rfl
 have hs:VO x 8=x / 256:=rfl
 unfold TJ
 rw [hr,hs]
 simp
theorem acP (x:Int):P9 x 2=some (TJ x 2):=by
 unfold P9
 refine Ze fun x1 TK=>Zi (by rw [TK]; decide) (Ze fun x2 KO=>Zi (by rw [KO]; decide) (Ze fun x3 qx=>ZM (by rw [qx]; decide) (ZM (by simp) (Ze fun l hl=>ZM (by rw [hl]; simp) (Ze fun l2 Cw=>?_)))))
 rw [Cw,hl,xR]; rfl
theorem adV (x:Int):P9 x 4=some (TJ x 4):=by
 unfold P9
 refine Ze fun x1 TK=>ZM (by rw [TK]; decide) (ZM (by simp) (Ze fun l1 h1=>ZM (by rw [h1]; simp) (Ze fun l2 h2=>ZM (by rw [h2,h1]; simp) (Ze fun l3 h3=>ZM (by rw [h3,h2,h1]; simp) (Ze fun l4 h4=>?_)))))
 rw [h4,h3,h2,h1,yg]; rfl
def ok32 (x:Int):Prop:=0≤x∧x<4294967296
instance (x:Int):Decidable (ok32 x):=by unfold ok32; infer_instance
theorem pF (x:Int):KV x 4=some (if ok32 x then (TJ x 4,0) else ([],101)):=by
 have e1:ZJ (8 * 4)=32:=by decide
 have hs:VO x 32=x / 4294967296:=rfl
 unfold KV
 rw [e1,hs]
 refine Zi (by decide) (Zi (by decide) ?_)
 by_cases c:ok32 x
 ·rw [if_pos c]
  unfold ok32 at c
  exact Zi (by omega) (ZM (by decide) (Zi (by omega) (Z5 (adV x) rfl)))
 ·rw [if_neg c]
  unfold ok32 at c
  by_cases c2:x<0
  ·exact ZM c2 rfl
  ·exact Zi c2 (ZM (by decide) (ZM (by omega) rfl))
theorem wT (r2 r3:Str × Int):loop (Wn.b0 r2 r3) BIG 0=some (if r2.2=0∧r3.2=0 then .inl () else .inr (([]:Str),Er.wr 2000 (Er.no (if r2.2 ≠ 0 then r2.2 else r3.2)))):=by
 have e0:ZJ (((0:Nat):Int)+1)=((0+1:Nat):Int):=by decide
 have e1:ZJ (((1:Nat):Int)+1)=((1+1:Nat):Int):=by decide
 by_cases c2:r2.2=0
 ·by_cases c3:r3.2=0
  ·rw [if_pos ⟨c2,c3⟩]
   refine Vw (fun k=>(k:Int)) 2 _ (by decide) rfl (fun k hk=>?_) ?_
   ·unfold Wn.b0
    rcases (show k=0 ∨ k=1 by omega) with rfl | rfl
    ·exact ZM (by decide) (ZM (by decide) (ZM (by simp) (Ze fun x hx=>Zi (by rw [hx]; exact fun h=>h c2) (by rw [e0]))))
    ·exact ZM (by decide) (ZM (by decide) (ZM (by simp) (Ze fun x hx=>Zi (by rw [hx]; exact fun h=>h c3) (by rw [e1]))))
   ·unfold Wn.b0
    exact Zi (by decide) rfl
  ·rw [if_neg (fun h=>c3 h.2),if_neg (fun h=>h c2)]
   refine Vw (fun k=>(k:Int)) 1 _ (by decide) rfl (fun k hk=>?_) ?_
   ·unfold Wn.b0
    obtain rfl:k=0:=by omega
    exact ZM (by decide) (ZM (by decide) (ZM (by simp) (Ze fun x hx=>Zi (by rw [hx]; exact fun h=>h c2) (by rw [e0]))))
   ·unfold Wn.b0
    exact ZM (by decide) (ZM (by decide) (ZM (by simp) (Ze fun x hx=>ZM (by rw [hx]; exact c3) (Ze fun y hy=>by rw [hy,hx]; rfl))))
 ·rw [if_neg (fun h=>c2 h.1),if_pos c2]
  refine Vw (fun k=>(k:Int)) 0 _ (by decide) rfl (fun k hk=>by omega) ?_
  unfold Wn.b0
  exact ZM (by decide) (ZM (by decide) (ZM (by simp) (Ze fun x hx=>ZM (by rw [hx]; exact c2) (Ze fun y hy=>by rw [hy,hx]; rfl))))
def oH (su:Int) (Le:Str) (mk ad:Int):Prop:=Bq su∧Le.length=hl su∧ok32 mk∧ok32 ad
instance (su:Int) (Le:Str) (mk ad:Int):Decidable (oH su Le mk ad):=by unfold oH Bq; infer_instance
def Bf (su:Int) (Le:Str) (mk ad:Int):Str:=TJ su 2++TJ mk 4++TJ ad 4++Le
theorem zG (su:Int) (Le:Str) (mk ad:Int):(Bf su Le mk ad).length=10+Le.length:=by
 unfold Bf; simp only [List.length_append,Vv]
theorem nE (s:Int):hl s≤48:=by unfold hl; split <;> omega
theorem mi {su:Int} {Le:Str} {mk ad:Int} (h:oH su Le mk ad):Wn su Le mk ad=some (Bf su Le mk ad,Er.nil):=by
 obtain ⟨h1,h2,h3,h4⟩:=h
 have hs:=FI h1
 have hle:=nE su
 unfold Wn
 refine Z5 (K6 su) (Zi (by rw [hs.1]; decide) (Z5 (pF mk) (Z5 (pF ad) (Z5 (wT _ _) ?_))))
 rw [if_pos h3,if_pos h4,if_pos ⟨rfl,rfl⟩]
 refine Zi (by rw [hs.2,h2]; exact fun h=>h rfl) (Z5 (acP su) (ZM (by simp only [Vv]; decide) (ZM (by simp only [List.length_append,Vv]; decide) (ZM (by simp only [List.length_append,Vv]; omega) (Ze fun x hx=>?_)))))
 rw [hx]; rfl
theorem yK {su:Int} {Le:Str} {mk ad:Int} (h : ¬ oH su Le mk ad) : ∃ e,Wn su Le mk ad=some ([],e)∧Er.isNil e=false:=by
 unfold Wn
 by_cases h1:Bq su
 ·have hs:=FI h1
  by_cases h3:ok32 mk∧ok32 ad
  ·refine ⟨Er.no 2000,?_,rfl⟩
   refine Z5 (K6 su) (Zi (by rw [hs.1]; decide) (Z5 (pF mk) (Z5 (pF ad) (Z5 (wT _ _) ?_))))
   rw [if_pos h3.1,if_pos h3.2,if_pos ⟨rfl,rfl⟩]
   exact ZM (by rw [hs.2]; intro h2; exact h ⟨h1,by omega,h3.1,h3.2⟩) rfl
  ·refine ⟨Er.wr 2000 (Er.no 101),?_,rfl⟩
   refine Z5 (K6 su) (Zi (by rw [hs.1]; decide) (Z5 (pF mk) (Z5 (pF ad) (Z5 (wT _ _) ?_))))
   by_cases c:ok32 mk
   ·rw [if_pos c,if_neg (fun h=>h3 ⟨c,h⟩),if_neg (fun h=>absurd (show (101:Int)=0 from h.2) (by decide))]; rfl
   ·rw [if_neg c,if_neg (fun h=>absurd (show (101:Int)=0 from h.1) (by decide))]; rfl
 ·refine ⟨Er.wr 2000 (Er.no 800),?_,rfl⟩
  refine Z5 (K6 su) (ZM (by rw [tL h1]; decide) (Ze fun x hx=>?_))
  rw [hx,tL h1]
def mq (key ZA:Str) (su:Int) (Le:Str) (mk ad:Int):Str × Int:=if oH su Le mk ad∧key.length=32∧ZA.length=12 then (ZA++(Gz key ZA [] (Bf su Le mk ad)).1,0) else ([],2000)
theorem yV {key ZA:Str} {s:Str} (hk:key.length=32) (hn:ZA.length=12) (hs:s.length≤65536):Gz key ZA [] s=(xo key ZA 2 s++EC key ZA [] (xo key ZA 2 s),0):=by
 unfold Gz
 rw [if_pos ⟨.inr hk,hn,by simp,hs⟩]
theorem oO {key ZA:Str} {s:Str} (hk:key.length=32) (hn:ZA.length=12) (hs:s.length≤65536):(Gz key ZA [] s).1.length=s.length+16:=by
 rw [yV hk hn hs,List.length_append,NA,Fj]
theorem BV {key ZA:Str} {su:Int} {Le:Str} {mk ad:Int} (h:oH su Le mk ad∧key.length=32∧ZA.length=12):mq key ZA su Le mk ad=(ZA++(Gz key ZA [] (Bf su Le mk ad)).1,0):=if_pos h
theorem Gg {key ZA:Str} {su:Int} {Le:Str} {mk ad:Int} (h : ¬ (oH su Le mk ad∧key.length=32∧ZA.length=12)):mq key ZA su Le mk ad=([],2000):=if_neg h
instance (s:Int):Decidable (Bq s):=by unfold Bq; infer_instance
theorem Ar (s:Int):Ul s=some (if Bq s then ((sz s).2.1,0) else (0,1900)):=by
 unfold Ul
 by_cases h:Bq s
 ·rw [if_pos h]
  exact Z5 (u6 s) (Zi (by rw [(FI h).1]; decide) rfl)
 ·rw [if_neg h]
  exact Z5 (u6 s) (ZM (by rw [tL h]; decide) rfl)
theorem o9 (key ZA:Str) (su:Int) (Le:Str) (mk ad:Int):Ux key ZA su Le mk ad=some (mq key ZA su Le mk ad):=by
 unfold Ux
 refine Z5 (Ar su) ?_
 by_cases h1:Bq su
 ·have hs:=(FI h1).2
  have hle:=nE su
  rw [if_pos h1]
  dsimp only
  rw [hs]
  by_cases h:(oH su Le mk ad∧key.length=32∧ZA.length=12)
  ·obtain ⟨⟨_,h2,h3,h4⟩,c1,c2⟩:=id h
   unfold ok32 at h3 h4
   have hl:=zG su Le mk ad
   have hsl:=oO c1 c2 (s:=Bf su Le mk ad) (by omega)
   rw [BV h]
   refine Z5 (v:=false) (Zi (by decide) (Zi (by omega) (Zi (by omega) (Zi (by omega) (Zi (by omega) (Zi (by omega) (Zi (by omega) (by rw [decide_eq_false (by omega)])))))))) ?_
   refine Zi (by decide) (Z5 (Br su 2 (by decide)) (Z5 (Br mk 4 (by decide)) (ZM (by simp only [Vv]; decide) (Z5 (Br ad 4 (by decide)) (ZM (by simp only [List.length_append,Vv]; decide) (ZM (by simp only [List.length_append,Vv]; omega) (Z5 (mr _ _ _ _) (ZM ?_ (Ze fun x hx=>by rw [hx]; rfl)))))))))
   show ZA.length+(Gz key ZA [] (Bf su Le mk ad)).1.length≤_
   omega
  ·rw [Gg h]
   refine Z5 (v:=true) (Zi (by decide) ?_) (ZM rfl rfl)
   by_cases c1:key.length=32
   ·refine Zi (by omega) ?_
    by_cases c2:ZA.length=12
    ·refine Zi (by omega) ?_
     by_cases c3:Le.length=hl su
     ·refine Zi (by omega) ?_
      by_cases c4:mk<0
      ·exact ZM c4 rfl
      ·refine Zi c4 ?_
       by_cases c5:4294967295<mk
       ·exact ZM c5 rfl
       ·refine Zi c5 ?_
        by_cases c6:ad<0
        ·exact ZM c6 rfl
        ·refine Zi c6 ?_
         have:4294967295<ad:=by
          by_cases c7:4294967295<ad
          ·exact c7
          ·exact absurd ⟨⟨h1,c3,⟨by omega,by omega⟩,⟨by omega,by omega⟩⟩,c1,c2⟩ h
         rw [decide_eq_true this]
     ·exact ZM (by omega) rfl
    ·exact ZM (by omega) rfl
   ·exact ZM (by omega) rfl
 ·rw [Gg (fun x=>h1 x.1.1),if_neg h1]
  exact Z5 (v:=true) (ZM (by decide) rfl) (ZM rfl rfl)
theorem jR (e:Er):LJ e=some (Er.tell e 0):=by
 cases e <;> rfl
theorem GX (s:Str) (a b c:Nat) (h:a≤b) (h2:b≤c):sub s a b++sub s b c=sub s a c:=by
 unfold sub
 have:s.drop b=(s.drop a).drop (b - a):=by rw [List.drop_drop]; congr 1; omega
 rw [this,show c - a=(b - a)+(c - b) from by omega,List.take_add]
theorem CB (key ZA Ur s:Str):(Rh key ZA Ur s).1.length≤65536:=by
 unfold Rh
 split
 ·rename_i h
  have:=h.2.2.2
  split
  ·exact Nat.zero_le _
  ·split
   ·exact Nat.zero_le _
   ·dsimp only; rw [NA,WA (by omega)]; omega
 ·exact Nat.zero_le _
theorem aX {key ZA c p:Str} (hk:key.length=32) (hn:ZA.length=12) (h:Rh key ZA [] c=(p,0)):Gz key ZA [] p=(c,0):=by
 unfold Rh at h
 by_cases h1:j_ key ZA [] c.length 65552
 ·rw [if_pos h1] at h
  by_cases h2:c.length<16
  ·rw [if_pos h2] at h; cases h
  ·rw [if_neg h2] at h
   by_cases h3:EC key ZA [] (sub c 0 (c.length - 16)) ≠ sub c (c.length - 16) c.length
   ·rw [if_pos h3] at h; cases h
   ·rw [if_neg h3] at h
    have h3:=Classical.not_not.1 h3
    have hc:=h1.2.2.2
    obtain rfl:xo key ZA 2 (sub c 0 (c.length - 16))=p:=congrArg Prod.fst h
    rw [yV hk hn (by rw [NA,WA (by omega)]; omega),aam,h3,GX _ _ _ _ (by omega) (by omega),AU]
 ·rw [if_neg h1] at h; cases h
theorem yz (p:Str) (h:10≤p.length):Bf ((Qt p 0 2:Nat):Int) (sub p 10 p.length) ((Qt p 2 4:Nat):Int) ((Qt p 6 4:Nat):Int)=p:=by
 unfold Bf
 rw [Aj p 0 2 (by omega),Aj p 2 4 (by omega),Aj p 6 4 (by omega),GX _ _ _ _ (by omega) (by omega),GX _ _ _ _ (by omega) (by omega),GX _ _ _ _ (by omega) (by omega),AU]
abbrev noT (e:Int):Int × Str × Int × Int × Int:=(0,[],0,0,e)
def Dr (p:Str):Prop:=10≤p.length∧oH ((Qt p 0 2:Nat):Int) (sub p 10 p.length) ((Qt p 2 4:Nat):Int) ((Qt p 6 4:Nat):Int)
instance (p:Str):Decidable (Dr p):=by unfold Dr; infer_instance
def j6 (p:Str):Int × Str × Int × Int × Int:=(((Qt p 0 2:Nat):Int),sub p 10 p.length,((Qt p 2 4:Nat):Int),((Qt p 6 4:Nat):Int),0)
def DU (key s:Str):Int × Str × Int × Int × Int :=
 if key.length ≠ 32 then noT 2000 else if s.length<12 then noT 2001 else if (Rh key (sub s 0 12) [] (sub s 12 s.length)).2=0∧Dr (Rh key (sub s 0 12) [] (sub s 12 s.length)).1 then j6 (Rh key (sub s 0 12) [] (sub s 12 s.length)).1 else noT 2001
theorem Ej (s:Str) (a:Nat) (hs:s.length<1152921504606846976) (ha:a<1152921504606846976):K4 s (a:Int)=some (ll s a 2):=by
 unfold K4; exact Z5 (number_eq s a 2 (by decide) hs ha) rfl
theorem Li (s:Str) (a:Nat) (hs:s.length<1152921504606846976) (ha:a<1152921504606846976):Ni s (a:Int)=some (ll s a 4):=by
 unfold Ni; exact Z5 (number_eq s a 4 (by decide) hs ha) rfl
theorem KF {s:Str} {a n:Nat} (h:a+n≤s.length):ll s a n=(((Qt s a n:Nat):Int),((a+n:Nat):Int),0):=if_pos h
theorem Hw {s:Str} {a n:Nat} (h : ¬ a+n≤s.length):ll s a n=(0,0,100):=if_neg h
theorem mF (p:Str) (hp:p.length≤65536) : ∃ e:Er,((K4 p 0).bind fun (YJ:Int × Int × Int)=>((Ni p YJ.2.1).bind fun (X7:Int × Int × Int)=>((Ni p X7.2.1).bind fun (Xu:Int × Int × Int)=>(if Xu.2.2 ≠ 0 then (X5 (Er.wr 2001 (Er.no Xu.2.2)) fun (x2:Er)=>(some ((0:Int),([]:Str),(0:Int),(0:Int),x2))) else (if 0≤Xu.2.1 then (if (Xu.2.1).toNat≤p.length then ((Wn YJ.1 (sub p ((Xu.2.1).toNat) (p.length)) X7.1 Xu.1).bind fun (UC:Str × Er)=>((if (!(Er.isNil UC.2))=true then (some true) else (some (decide (UC.1 ≠ p)))).bind fun (j1:Bool)=>(if j1=true then (some (0,([]:Str),0,0,Er.no 2001)) else (some (YJ.1,sub p ((Xu.2.1).toNat) (p.length),X7.1,Xu.1,Er.nil))))) else none) else none)))))
   = some (if Dr p then ((j6 p).1,(j6 p).2.1,(j6 p).2.2.1,(j6 p).2.2.2.1,Er.nil) else (0,[],0,0,e))∧Er.tell e 0=2001:=by
 have bad : ∀ r2 r3 r4:Int × Int × Int,r4.2.2=100 → (if r4.2.2 ≠ 0 then (X5 (Er.wr 2001 (Er.no r4.2.2)) fun (x2:Er)=>(some ((0:Int),([]:Str),(0:Int),(0:Int),x2))) else (if 0≤r4.2.1 then (if (r4.2.1).toNat≤p.length then ((Wn r2.1 (sub p ((r4.2.1).toNat) (p.length)) r3.1 r4.1).bind fun (UC:Str × Er)=>((if (!(Er.isNil UC.2))=true then (some true) else (some (decide (UC.1 ≠ p)))).bind fun (j1:Bool)=>(if j1=true then (some (0,([]:Str),0,0,Er.no 2001)) else (some (r2.1,sub p ((r4.2.1).toNat) (p.length),r3.1,r4.1,Er.nil))))) else none) else none))=some (0,[],0,0,Er.wr 2001 (Er.no 100)):=fun r2 r3 r4 h=>by
  rw [h]; exact ZM (by decide) (Ze fun x hx=>by rw [hx])
 by_cases c10:10≤p.length
 ·refine ⟨Er.no 2001,?_,rfl⟩
  refine Z5 (Ej p 0 (by omega) (by decide)) ?_
  rw [KF (show 0+2≤p.length by omega)]
  refine Z5 (Li p (0+2) (by omega) (by decide)) ?_
  rw [KF (show 0+2+4≤p.length by omega)]
  refine Z5 (Li p (0+2+4) (by omega) (by decide)) ?_
  rw [KF (show 0+2+4+4≤p.length by omega)]
  refine Zi (by dsimp only; decide) (ZM (by dsimp only; omega) ?_)
  have e:(((0+2+4+4:Nat):Int)).toNat=10:=rfl
  dsimp only
  rw [e]
  refine ZM c10 ?_
  by_cases h:oH ((Qt p 0 2:Nat):Int) (sub p 10 p.length) ((Qt p 2 4:Nat):Int) ((Qt p 6 4:Nat):Int)
  ·have hP:Dr p:=⟨c10,h⟩
   rw [if_pos hP]
   exact Z5 (mi h) (Z5 (v:=false) (Zi (by simp [Er.isNil]) (by rw [yz p c10]; simp)) rfl)
  ·have hP : ¬ Dr p:=fun x=>h x.2
   rw [if_neg hP]
   obtain ⟨e,he,hn⟩:=yK h
   exact Z5 he (Z5 (v:=true) (ZM (by rw [hn]; rfl) rfl) rfl)
 ·have hP : ¬ Dr p:=fun x=>c10 x.1
  simp only [if_neg hP]
  by_cases c2:2≤p.length
  ·by_cases c6:6≤p.length
   ·refine ⟨Er.wr 2001 (Er.no 100),?_,rfl⟩
    refine Z5 (Ej p 0 (by omega) (by decide)) ?_
    rw [KF (show 0+2≤p.length by omega)]
    refine Z5 (Li p (0+2) (by omega) (by decide)) ?_
    rw [KF (show 0+2+4≤p.length by omega)]
    refine Z5 (Li p (0+2+4) (by omega) (by decide)) ?_
    rw [Hw (show ¬ 0+2+4+4≤p.length by omega)]
    exact bad _ _ _ rfl
   ·by_cases c4:4≤p.length
    ·refine ⟨Er.no 2001,?_,rfl⟩
     refine Z5 (Ej p 0 (by omega) (by decide)) ?_
     rw [KF (show 0+2≤p.length by omega)]
     refine Z5 (Li p (0+2) (by omega) (by decide)) ?_
     rw [Hw (show ¬ 0+2+4≤p.length by omega)]
     refine Z5 (Li p 0 (by omega) (by decide)) ?_
     rw [KF (show 0+4≤p.length by omega)]
     refine Zi (by dsimp only; decide) (ZM (by dsimp only; omega) ?_)
     have e:(((0+4:Nat):Int)).toNat=4:=rfl
     dsimp only
     rw [e]
     refine ZM c4 ?_
     have hn : ¬ oH ((Qt p 0 2:Nat):Int) (sub p 4 p.length) 0 ((Qt p 0 4:Nat):Int):=by
      intro h
      have h2:=h.2.1
      rw [WA (Nat.le_refl _)] at h2
      unfold hl at h2
      split at h2 <;> omega
     obtain ⟨e,he,hi⟩:=yK hn
     exact Z5 he (Z5 (v:=true) (ZM (by rw [hi]; rfl) rfl) rfl)
    ·refine ⟨Er.wr 2001 (Er.no 100),?_,rfl⟩
     refine Z5 (Ej p 0 (by omega) (by decide)) ?_
     rw [KF (show 0+2≤p.length by omega)]
     refine Z5 (Li p (0+2) (by omega) (by decide)) ?_
     rw [Hw (show ¬ 0+2+4≤p.length by omega)]
     refine Z5 (Li p 0 (by omega) (by decide)) ?_
     rw [Hw (show ¬ 0+4≤p.length by omega)]
     exact bad _ _ _ rfl
  ·refine ⟨Er.wr 2001 (Er.no 100),?_,rfl⟩
   refine Z5 (Ej p 0 (by omega) (by decide)) ?_
   rw [Hw (show ¬ 0+2≤p.length by omega)]
   refine Z5 (Li p 0 (by omega) (by decide)) ?_
   rw [Hw (show ¬ 0+4≤p.length by omega)]
   refine Z5 (Li p 0 (by omega) (by decide)) ?_
   rw [Hw (show ¬ 0+4≤p.length by omega)]
   exact bad _ _ _ rfl
theorem zF (key s:Str):Nk key s=some (DU key s):=by
 unfold Nk DU
 by_cases hk:key.length=32
 ·rw [if_neg (show ¬ key.length ≠ 32 by omega)]
  refine Zi (by omega) ?_
  have main : ∃ e:Er,Nh key s=some ((if s.length<12 then noT 0 else if (Rh key (sub s 0 12) [] (sub s 12 s.length)).2=0∧Dr (Rh key (sub s 0 12) [] (sub s 12 s.length)).1 then j6 (Rh key (sub s 0 12) [] (sub s 12 s.length)).1 else noT 0).1,(if s.length<12 then noT 0 else if (Rh key (sub s 0 12) [] (sub s 12 s.length)).2=0∧Dr (Rh key (sub s 0 12) [] (sub s 12 s.length)).1 then j6 (Rh key (sub s 0 12) [] (sub s 12 s.length)).1 else noT 0).2.1,(if s.length<12 then noT 0 else if (Rh key (sub s 0 12) [] (sub s 12 s.length)).2=0∧Dr (Rh key (sub s 0 12) [] (sub s 12 s.length)).1 then j6 (Rh key (sub s 0 12) [] (sub s 12 s.length)).1 else noT 0).2.2.1,(if s.length<12 then noT 0 else if (Rh key (sub s 0 12) [] (sub s 12 s.length)).2=0∧Dr (Rh key (sub s 0 12) [] (sub s 12 s.length)).1 then j6 (Rh key (sub s 0 12) [] (sub s 12 s.length)).1 else noT 0).2.2.2.1,e) ∧
    Er.tell e 0=(if s.length<12 then noT 2001 else if (Rh key (sub s 0 12) [] (sub s 12 s.length)).2=0∧Dr (Rh key (sub s 0 12) [] (sub s 12 s.length)).1 then j6 (Rh key (sub s 0 12) [] (sub s 12 s.length)).1 else noT 2001).2.2.2.2:=by
   unfold Nh
   by_cases c:s.length<12
   ·rw [if_pos c,if_pos c]
    exact ⟨Er.no 2001,ZM (by omega) rfl,rfl⟩
   ·rw [if_neg c,if_neg c]
    obtain ⟨o,ho⟩ : ∃ o,Rh key (sub s 0 12) [] (sub s 12 s.length)=o:=⟨_,rfl⟩
    have hlen:=CB key (sub s 0 12) [] (sub s 12 s.length)
    rw [ho] at hlen ⊢
    by_cases c2:o.2=0
    ·obtain ⟨e,he,ht⟩:=mF o.1 hlen
     by_cases c3:Dr o.1
     ·refine ⟨Er.nil,Zi (by omega) (ZM (by omega) (ZM (by omega) (Z5 ((Ba _ _ _ _).trans (congrArg some ho)) (Zi (by rw [c2]; decide) (he.trans ?_))))),?_⟩
      ·rw [if_pos c3,if_pos (show o.2=0∧Dr o.1 from ⟨c2,c3⟩)]
      ·rw [if_pos (show o.2=0∧Dr o.1 from ⟨c2,c3⟩)]; rfl
     ·refine ⟨e,Zi (by omega) (ZM (by omega) (ZM (by omega) (Z5 ((Ba _ _ _ _).trans (congrArg some ho)) (Zi (by rw [c2]; decide) (he.trans ?_))))),?_⟩
      ·rw [if_neg c3,if_neg (show ¬ (o.2=0∧Dr o.1) from fun h=>c3 h.2)]
      ·rw [if_neg (show ¬ (o.2=0∧Dr o.1) from fun h=>c3 h.2)]; exact ht
    ·refine ⟨Er.wr 2001 (Er.no o.2),Zi (by omega) (ZM (by omega) (ZM (by omega) (Z5 ((Ba _ _ _ _).trans (congrArg some ho)) (ZM c2 (Ze fun x hx=>?_))))),?_⟩
     ·rw [hx,if_neg (show ¬ (o.2=0∧Dr o.1) from fun h=>c2 h.1)]
     ·rw [if_neg (show ¬ (o.2=0∧Dr o.1) from fun h=>c2 h.1)]; rfl
  obtain ⟨e,he,ht⟩:=main
  refine Z5 he (Z5 (jR e) ?_)
  rw [ht]
  by_cases c:s.length<12
  ·rw [if_pos c,if_pos c]
  ·rw [if_neg c,if_neg c]
   split <;> rfl
 ·rw [if_pos hk]
  exact ZM (by omega) rfl
theorem qF (key s:Str):Uv key s=some (DU key s):=by
 unfold Uv DU
 by_cases hk:key.length=32
 ·rw [if_neg (show ¬ key.length ≠ 32 by omega)]
  refine Zi (by omega) ?_
  by_cases c:s.length<12
  ·rw [if_pos c]; exact ZM (by omega) rfl
  ·rw [if_neg c]
   refine Zi (by omega) (ZM (by omega) (ZM (by omega) (Z5 (ni _ _ _ _) ?_)))
   obtain ⟨o,ho⟩ : ∃ o,Rh key (sub s 0 12) [] (sub s 12 s.length)=o:=⟨_,rfl⟩
   have hlen:=CB key (sub s 0 12) [] (sub s 12 s.length)
   rw [ho] at hlen ⊢
   by_cases c2:o.2=0
   ·by_cases c10:10≤o.1.length
    ·refine Z5 (v:=false) (Zi (by rw [c2]; decide) (by rw [decide_eq_false (by omega)])) (Zi (by decide) ?_)
     have g2:WY o.1 0 2=some (ll o.1 0 2):=wF o.1 0 2 (by decide) (by omega) (by decide)
     have g4:WY o.1 2 4=some (ll o.1 2 4):=wF o.1 2 4 (by decide) (by omega) (by decide)
     have g6:WY o.1 6 4=some (ll o.1 6 4):=wF o.1 6 4 (by decide) (by omega) (by decide)
     rw [KF (by omega)] at g2 g4 g6
     refine Z5 g2 (Z5 g4 (Z5 g6 (ZM c10 (ZM (by omega) (Z5 (o9 _ _ _ _ _ _) ?_)))))
     have hn:(sub s 0 12).length=12:=by rw [WA (by omega)]
     by_cases h:oH ((Qt o.1 0 2:Nat):Int) (sub o.1 10 o.1.length) ((Qt o.1 2 4:Nat):Int) ((Qt o.1 6 4:Nat):Int)
     ·rw [BV ⟨h,hk,hn⟩,yz o.1 c10,aX hk hn (p:=o.1) (c:=sub s 12 s.length) (by rw [ho]; exact Prod.ext rfl c2)]
      rw [if_pos (show o.2=0∧Dr o.1 from ⟨c2,c10,h⟩)]
      have adr:sub s 0 12++sub s 12 s.length=s:=by rw [GX _ _ _ _ (by omega) (by omega),AU]
      exact Z5 (v:=false) (Zi (fun h=>h rfl) (by rw [adr]; simp)) rfl
     ·rw [Gg (fun x=>h x.1),if_neg (show ¬ (o.2=0∧Dr o.1) from fun x=>h x.2.2)]
      exact Z5 (v:=true) (ZM (by decide) rfl) rfl
    ·rw [if_neg (show ¬ (o.2=0∧Dr o.1) from fun x=>c10 x.2.1)]
     exact Z5 (v:=true) (Zi (by rw [c2]; decide) (by rw [decide_eq_true (by omega)])) rfl
   ·rw [if_neg (show ¬ (o.2=0∧Dr o.1) from fun x=>c2 x.1)]
    exact Z5 (v:=true) (ZM c2 rfl) rfl
 ·rw [if_pos hk]
  exact ZM (by omega) rfl
end Go.Proofs
end

/-
  Part 29 of the proof of what several laws share.
-/
import Derived.Test.YtkgeoekcnlgfnaaGreatDoorKh18
import Derived.Test.YtkgeoekcnlgfnaaGreatDoorKh19
set_option maxHeartbeats 4000000
set_option maxRecDepth 20000
set_option linter.unusedVariables false
set_option linter.unusedSimpArgs false
section
namespace Go.Proofs
open Go Go.Kx
open TryzI Tryz
def X0.b0 (of jW:List (Int)) (s0:Int):Option ((Int) ⊕ ((Unit) ⊕ (Int))) :=
 if s0<((of).length:Int) then (if 0≤s0∧s0<((of).length:Int) then ((Yh jW (lg of ((s0).toNat))).bind fun Zu=>(if Zu=true then (if 0≤s0∧s0<((of).length:Int) then (X5 (lg of ((s0).toNat)) fun x1=>(some (.inr (.inr x1)))) else none) else (some (.inl (ZJ (s0+1)))))) else none) else (some (.inr (.inl ())))
def X0 (of jW:List (Int)):Option (Int) :=
 (loop (X0.b0 of jW) BIG 0).bind fun Yw=>(match Yw with | .inl Yw=>(some (-1)) | .inr rv=>some rv)
theorem Cu {Aof:Y6} {cof:Nat} {Ain_:Y6} {cin_:Nat} {of:List (Int)} {jW:List (Int)} (dB:(of).length≤cof) (aav:(jW).length≤cin_) {r:Int} (H:X0 of jW=some r) :
  Does Tryz.prog 33 [sl Aof ((of).length) cof,sl Ain_ ((jW).length) cin_] [] [⟨Aof,eI of⟩,⟨Ain_,eI jW⟩] (Γ:=Unit) (fun g=>vi r) (fun g=>[]):=by
 intro w hmem hro hd
 refine Zn func33 rfl ntmps33 rfl hmem hro hd ?_
 unfold X0 at H
 refine Z_ (Y2 ?_)
 refine Z6 (ZY (Z_ (Y2 ?_)))
 refine Z6 (ZP ?_)
 have ⟨Yw,Hl,H⟩:=Z9 H
 refine Wz [0,1,5] [] rfl rfl ?_
 refine U0 (id:=0) (body:=(X0.b0 of jW)) (σ:=Int) (Γ:=Unit) (Γx:=Unit) (fun s0 WG=>[(0,sl Aof ((of).length) cof),(1,sl Ain_ ((jW).length) cin_),(5,vi s0)]) (fun s0 WG=>[]) (fun t g=>[]) (fun t g=>[]) r ?_ BIG 0 () Yw Hl ?_
 ·intro s0 WG r1 H K hK hE MK
  unfold X0.b0 at H
  refine ZY (Z_ (Zj 2 rfl ?_))
  refine ZV (ZG rfl underlying22) ?_
  refine ZV (ZT WV) ?_
  refine Z6 (UK H (fun hc H=>?_) (fun hc H=>?_))
  ·refine ZN (Z7 (ZY (ZP (Z_ (Zj 3 rfl ?_)))))
   have ⟨h1,H⟩:=Z4 H
   refine ZV (YK (i:=s0) rfl rfl underlying22 YM rfl (.r 0) (Uf (tl h1)) h1.1 h1.2 (k:=(s0).toNat) (JZ _)) ?_
   refine ZV (Z8 rfl (.r 0) (UL (f:=vi) (l:=of) (tl h1)) isAgg3) ?_
   have ⟨Zu,Yk,H⟩:=Z9 H
   refine YE (Y4 (PI aav Yk :) call35 ⟨.r 1,trivial⟩) (fun Re=>?_)
   refine Z6 (Sn H (fun hc H=>?_) (fun hc H=>?_))
   ·refine Z_ (Zj 2 rfl ?_)
    have ⟨h2,H⟩:=Z4 H
    refine ZV (YK (i:=s0) rfl rfl underlying22 YM rfl (.r 0) (Uf (tl h2)) h2.1 h2.2 (k:=(s0).toNat) (JZ _)) ?_
    refine ZV (Z8 rfl (.r 0) (UL (f:=vi) (l:=of) (tl h2)) isAgg3) ?_
    refine Y2 ?_
    have ⟨x1,TK,H⟩:=ZX H
    refine WN 4 (congrArg vi TK) ?_
    refine Zq (ZE (ZZ (ZZ (ZE (ZZ ?_)))))
    have M3:=(MK _ (Option.some.inj H).symm)
    subst M3
    exact Wj
   refine ZN (ZW (Z7 (ZH (YP ?_))))
   refine ZV (ZT XN) ?_
   refine Y2 ?_
   refine ZK ?_
   obtain rfl:=sj H
   exact Ri [] (hK (ZJ (s0+1)) rfl ())
  refine YW (Z0 (Z0 ?_))
  obtain rfl:=sj H
  exact WW [] (hE () rfl ())
 rcases Yw with Yw | rv
 ·intro Fe
  dsimp only at H
  refine ZL (Z7 (Z_ (Y2 ?_)))
  refine Zq ?_
  obtain rfl:=sj H
  exact Wj
 exact (Option.some.inj H)
def XQ (Cf:Int):Option (Int) :=
 some Cf
theorem PG {Cf:Int} {r:Int} (H:XQ Cf=some r) :
  Does Tryz.prog 34 [vi Cf] [] [] (Γ:=Unit) (fun g=>aG [(1,[vi 0]),(1,[vi 0]),(1,[vs ([]:Str)]),(1,[vb false]),(1,[vb false]),(1,[vi r])]) (fun g=>[]):=by
 intro w hmem hro hd
 refine Zn func34 rfl ntmps34 rfl hmem hro hd ?_
 unfold XQ at H
 refine Z_ (YE (SL XE LZ) (fun b1=>?_))
 refine Z6 (Z_ (YP ?_))
 refine ZV (Y9 (pv:=[(5,vi Cf)]) (pl:=[(0,1),(1,1),(2,1),(3,1),(4,1),(5,1)]) rfl rfl underlying34 XE Mr LZ (cs:=flat [(1,[vi 0]),(1,[vi 0]),(1,[vs ([]:Str)]),(1,[vb false]),(1,[vb false]),(1,[vi Cf])]) (by kernel_rfl)) ?_
 refine VM (VZ [0,0,0,0,0,0] rfl rfl XE) (fun _=>?_)
 refine Zq ?_
 obtain rfl:=sj H
 exact SF (vs:=[_]) rfl ⟨(Wp [0,1,2,3,4,5] rfl rfl isAgg34 XE),trivial⟩
def Xh.b0 (Y_:List (Int × Str)) (group:Int) (s0:Str × Int × Int):Option ((Str × Int × Int) ⊕ (Str × Int)) :=
 if s0.2.2<((Y_).length:Int) then (if 0≤s0.2.2∧s0.2.2<((Y_).length:Int) then (if ((lg Y_ ((s0.2.2).toNat)).1)=group then (if 0≤s0.2.2∧s0.2.2<((Y_).length:Int) then (X5 ((lg Y_ ((s0.2.2).toNat)).2) fun JW=>(X5 (ZJ (s0.2.1+1)) fun Qe=>(X5 (ZJ (s0.2.2+1)) fun i1=>(some (.inl (JW,Qe,i1)))))) else none) else (X5 (ZJ (s0.2.2+1)) fun i2=>(some (.inl (s0.1,s0.2.1,i2))))) else none) else (some (.inr (s0.1,s0.2.1)))
def Xh (WF:Int) (X9 Yu:Str) (Yz:List (Int)) (Wx:Str) (Za YI:List (Int)) (YX Yj:List (Int)) (Y_:List (Int × Str)) (Zv:List (Str × Int)) (YS:List (Str)) (Vl:Int) (Yy:List (Int)) (Yf:List (Str)) (X8:Int) (Wv:Str) (Ww Vm:Int) (XD:Str) (X_ group:Int):Option (Str × Int) :=
 (loop (Xh.b0 Y_ group) BIG (([]:Str),0,0)).bind fun Yw=>(some (Yw.1,Yw.2))
theorem Bv {WP:Y6} {WO:Nat} {XV:Y6} {XU:Nat} {WS:Y6} {WQ:Nat} {Xy:Y6} {Xx:Nat} {VU:Y6} {VW:Nat} {WT:Y6} {WR:Nat} {Yl:Y6} {Ym:Nat} {Xw:Y6} {Xz:Nat} {WU:Y6} {WM:Nat} {VV:Y6} {VX:Nat} {WF:Int} {X9:Str} {Yu:Str} {Yz:List (Int)} {Wx:Str} {Za:List (Int)} {YI:List (Int)} {YX:List (Int)} {Yj:List (Int)} {Y_:List (Int × Str)} {Zv:List (Str × Int)} {YS:List (Str)} {Vl:Int} {Yy:List (Int)} {Yf:List (Str)} {X8:Int} {Wv:Str} {Ww:Int} {Vm:Int} {XD:Str} {X_:Int} {group:Int} (W9:(Yz).length≤WO) (XW:(Za).length≤XU) (Xd:(YI).length≤WQ) (XA:(YX).length≤Xx) (Ws:(Yj).length≤VW) (WJ:(Y_).length≤WR) (Yd:(Zv).length≤Ym) (Xq:(YS).length≤Xz) (WL:(Yy).length≤WM) (V6:(Yf).length≤VX) {r:Str × Int} (H:Xh WF X9 Yu Yz Wx Za YI YX Yj Y_ Zv YS Vl Yy Yf X8 Wv Ww Vm XD X_ group=some r) :
  Does Tryz.prog 37 [aG [(1,[vi WF]),(1,[vs X9]),(1,[vs Yu]),(1,[sl WP ((Yz).length) WO]),(1,[vs Wx]),(1,[sl XV ((Za).length) XU]),(1,[sl WS ((YI).length) WQ]),(1,[sl Xy ((YX).length) Xx]),(1,[sl VU ((Yj).length) VW]),(1,[sl WT ((Y_).length) WR]),(1,[sl Yl ((Zv).length) Ym]),(1,[sl Xw ((YS).length) Xz]),(1,[vi Vl]),(1,[sl WU ((Yy).length) WM]),(1,[sl VV ((Yf).length) VX]),(1,[vi X8]),(1,[vs Wv]),(1,[vi Ww]),(1,[vi Vm]),(1,[vs XD]),(1,[vi X_])],vi group] [] [⟨WP,eI Yz⟩,⟨XV,eI Za⟩,⟨WS,eI YI⟩,⟨Xy,eI YX⟩,⟨VU,eI Yj⟩,⟨WT,eF (fun p:Int × Str=>[vi p.1,vs p.2]) Y_⟩,⟨Yl,eF (fun p:Str × Int=>[vs p.1,vi p.2]) Zv⟩,⟨Xw,eS YS⟩,⟨WU,eI Yy⟩,⟨VV,eS Yf⟩] (Γ:=Unit) (fun g=>Value.tuple [vs r.1,vi r.2].toArray) (fun g=>[]):=by
 intro w hmem hro hd
 refine Zn func37 rfl ntmps37 rfl hmem hro hd ?_
 unfold Xh at H
 refine Z_ (YE PT (fun b1=>?_))
 refine Zj 2 rfl ?_
 refine Z6 (Z_ (Zj 2 rfl ?_))
 refine Z6 (ZY (Z_ (Y2 ?_)))
 refine Z6 (ZP ?_)
 have ⟨Yw,Hl,H⟩:=Z9 H
 refine Wz [1,2,6,7,8] (rp 21 0) rfl rfl ?_
 refine Yv (id:=0) (body:=(Xh.b0 Y_ group)) (σ:=Str × Int × Int) (Γ:=Unit) (Γx:=Unit) (fun s0 WG=>[(1,vi group),(2,ptr (some (b1,0)) 0),(6,vs s0.1),(7,vi s0.2.1),(8,vi s0.2.2)]) (fun s0 WG=>[⟨some (b1,0),[vi WF]⟩,⟨some (b1,1),[vs X9]⟩,⟨some (b1,2),[vs Yu]⟩,⟨some (b1,3),[sl WP ((Yz).length) WO]⟩,⟨some (b1,4),[vs Wx]⟩,⟨some (b1,5),[sl XV ((Za).length) XU]⟩,⟨some (b1,6),[sl WS ((YI).length) WQ]⟩,⟨some (b1,7),[sl Xy ((YX).length) Xx]⟩,⟨some (b1,8),[sl VU ((Yj).length) VW]⟩,⟨some (b1,9),[sl WT ((Y_).length) WR]⟩,⟨some (b1,10),[sl Yl ((Zv).length) Ym]⟩,⟨some (b1,11),[sl Xw ((YS).length) Xz]⟩,⟨some (b1,12),[vi Vl]⟩,⟨some (b1,13),[sl WU ((Yy).length) WM]⟩,⟨some (b1,14),[sl VV ((Yf).length) VX]⟩,⟨some (b1,15),[vi X8]⟩,⟨some (b1,16),[vs Wv]⟩,⟨some (b1,17),[vi Ww]⟩,⟨some (b1,18),[vi Vm]⟩,⟨some (b1,19),[vs XD]⟩,⟨some (b1,20),[vi X_]⟩]) (fun t g=>[(6,vs t.1),(7,vi t.2)]) (fun t g=>[]) ?_ BIG (([]:Str),0,0) () Yw Hl ?_
 ·intro s0 WG r1 H K hK hE
  unfold Xh.b0 at H
  refine ZY (Z_ (YP ?_))
  refine ZV (ZQ 9 underlying30 QR) ?_
  refine ZV (Z8 rfl (.o 9) rfl isAgg27) ?_
  refine ZV (ZG rfl underlying27) ?_
  refine ZV (ZT WV) ?_
  refine Z6 (UK H (fun hc H=>?_) (fun hc H=>?_))
  ·refine ZN (Z7 (ZY (ZP (Z_ (ZV (ZQ 9 underlying30 QR) ?_)))))
   refine ZV (Z8 rfl (.o 9) rfl isAgg27) ?_
   refine YP ?_
   have ⟨h1,H⟩:=Z4 H
   refine ZV (YK (i:=s0.2.2) rfl rfl underlying27 Rv rfl (.r 5) (VC (s:=2) (fun _=>rfl) rfl (tl h1)) h1.1 h1.2 (k:=((s0.2.2).toNat) * 2) rfl) ?_
   refine ZV (Vk rfl underlying50 rfl (k:=0) rfl YM rfl) ?_
   refine ZV (Z8 rfl (.r 5) ((UM (g:=fun p:Int × Str=>[vi p.1,vs p.2]) (s:=2) (fun _=>rfl) Y_ ((s0.2.2).toNat) 0 (tl h1) (by decide:0<2)).trans rfl) isAgg3) ?_
   refine YP ?_
   refine ZV (ZT Xr) ?_
   refine Z6 (UK H (fun hc H=>?_) (fun hc H=>?_))
   ·refine Z_ (ZV (ZQ 9 underlying30 QR) ?_)
    refine ZV (Z8 rfl (.o 9) rfl isAgg27) ?_
    refine YP ?_
    have ⟨h2,H⟩:=Z4 H
    refine ZV (YK (i:=s0.2.2) rfl rfl underlying27 Rv rfl (.r 5) (VC (s:=2) (fun _=>rfl) rfl (tl h2)) h2.1 h2.2 (k:=((s0.2.2).toNat) * 2) rfl) ?_
    refine ZV (Vk rfl underlying50 rfl (k:=1) rfl Xe rfl) ?_
    refine ZV (Z8 rfl (.r 5) ((UM (g:=fun p:Int × Str=>[vi p.1,vs p.2]) (s:=2) (fun _=>rfl) Y_ ((s0.2.2).toNat) 1 (tl h2) (by decide:1<2)).trans rfl) isAgg9) ?_
    refine Y2 ?_
    have ⟨JW,hs_1,H⟩:=ZX H
    refine WN 6 (congrArg vs hs_1) ?_
    refine Z6 (ZH (YP ?_))
    refine ZV (ZT XN) ?_
    refine Y2 ?_
    have ⟨Qe,hk_1,H⟩:=ZX H
    refine WN 7 (congrArg vi hk_1) ?_
    refine ZK (ZW (Z7 (ZH (YP ?_))))
    refine ZV (ZT XN) ?_
    refine Y2 ?_
    have ⟨i1,Ll,H⟩:=ZX H
    refine WN 8 (congrArg vi Ll) ?_
    refine ZK ?_
    obtain rfl:=sj H
    exact Ri (rp 21 0) (hK (JW,Qe,i1) rfl ())
   refine ZN (ZW (Z7 (ZH (YP ?_))))
   refine ZV (ZT XN) ?_
   refine Y2 ?_
   have ⟨i2,Ca,H⟩:=ZX H
   refine WN 8 (congrArg vi Ca) ?_
   refine ZK ?_
   obtain rfl:=sj H
   exact Ri (rp 21 0) (hK (s0.1,s0.2.1,i2) rfl ())
  refine YW (Z0 (Z0 ?_))
  obtain rfl:=sj H
  exact WW [] (hE (s0.1,s0.2.1) rfl ())
 intro g
 refine ZL (Z7 (Z_ (Zj 4 rfl ?_)))
 refine Zq ?_
 obtain rfl:=sj H
 exact IA
def XG.b0 (WF:Int) (X9 Yu:Str) (Yz:List (Int)) (Wx:Str) (Za YI:List (Int)) (YX Yj:List (Int)) (Y_:List (Int × Str)) (Zv:List (Str × Int)) (YS:List (Str)) (Vl:Int) (Yy:List (Int)) (Yf:List (Str)) (X8:Int) (Wv:Str) (Ww Vm:Int) (XD:Str) (X_ s0:Int):Option ((Int) ⊕ ((Unit) ⊕ (Bool))) :=
 if s0<((Y_).length:Int) then (if 0≤s0∧s0<((Y_).length:Int) then ((Xh WF X9 Yu Yz Wx Za YI YX Yj Y_ Zv YS Vl Yy Yf X8 Wv Ww Vm XD X_ ((lg Y_ ((s0).toNat)).1)).bind fun Zu=>(if 1<Zu.2 then (some (.inr (.inr true))) else (if 0≤s0∧s0<((Y_).length:Int) then ((Yh YI ((lg Y_ ((s0).toNat)).1)).bind fun YJ=>(if (!YJ)=true then (some (.inr (.inr true))) else (some (.inl (ZJ (s0+1)))))) else none))) else none) else (some (.inr (.inl ())))
def XG (WF:Int) (X9 Yu:Str) (Yz:List (Int)) (Wx:Str) (Za YI:List (Int)) (YX Yj:List (Int)) (Y_:List (Int × Str)) (Zv:List (Str × Int)) (YS:List (Str)) (Vl:Int) (Yy:List (Int)) (Yf:List (Str)) (X8:Int) (Wv:Str) (Ww Vm:Int) (XD:Str) (X_:Int):Option (Bool) :=
 (loop (XG.b0 WF X9 Yu Yz Wx Za YI YX Yj Y_ Zv YS Vl Yy Yf X8 Wv Ww Vm XD X_) BIG 0).bind fun Yw=>(match Yw with | .inl Yw=>(some false) | .inr rv=>some rv)
theorem qO {WP:Y6} {WO:Nat} {XV:Y6} {XU:Nat} {WS:Y6} {WQ:Nat} {Xy:Y6} {Xx:Nat} {VU:Y6} {VW:Nat} {WT:Y6} {WR:Nat} {Yl:Y6} {Ym:Nat} {Xw:Y6} {Xz:Nat} {WU:Y6} {WM:Nat} {VV:Y6} {VX:Nat} {WF:Int} {X9:Str} {Yu:Str} {Yz:List (Int)} {Wx:Str} {Za:List (Int)} {YI:List (Int)} {YX:List (Int)} {Yj:List (Int)} {Y_:List (Int × Str)} {Zv:List (Str × Int)} {YS:List (Str)} {Vl:Int} {Yy:List (Int)} {Yf:List (Str)} {X8:Int} {Wv:Str} {Ww:Int} {Vm:Int} {XD:Str} {X_:Int} (W9:(Yz).length≤WO) (XW:(Za).length≤XU) (Xd:(YI).length≤WQ) (XA:(YX).length≤Xx) (Ws:(Yj).length≤VW) (WJ:(Y_).length≤WR) (Yd:(Zv).length≤Ym) (Xq:(YS).length≤Xz) (WL:(Yy).length≤WM) (V6:(Yf).length≤VX) {r:Bool} (H:XG WF X9 Yu Yz Wx Za YI YX Yj Y_ Zv YS Vl Yy Yf X8 Wv Ww Vm XD X_=some r) :
  Does Tryz.prog 36 [aG [(1,[vi WF]),(1,[vs X9]),(1,[vs Yu]),(1,[sl WP ((Yz).length) WO]),(1,[vs Wx]),(1,[sl XV ((Za).length) XU]),(1,[sl WS ((YI).length) WQ]),(1,[sl Xy ((YX).length) Xx]),(1,[sl VU ((Yj).length) VW]),(1,[sl WT ((Y_).length) WR]),(1,[sl Yl ((Zv).length) Ym]),(1,[sl Xw ((YS).length) Xz]),(1,[vi Vl]),(1,[sl WU ((Yy).length) WM]),(1,[sl VV ((Yf).length) VX]),(1,[vi X8]),(1,[vs Wv]),(1,[vi Ww]),(1,[vi Vm]),(1,[vs XD]),(1,[vi X_])]] [] [⟨WP,eI Yz⟩,⟨XV,eI Za⟩,⟨WS,eI YI⟩,⟨Xy,eI YX⟩,⟨VU,eI Yj⟩,⟨WT,eF (fun p:Int × Str=>[vi p.1,vs p.2]) Y_⟩,⟨Yl,eF (fun p:Str × Int=>[vs p.1,vi p.2]) Zv⟩,⟨Xw,eS YS⟩,⟨WU,eI Yy⟩,⟨VV,eS Yf⟩] (Γ:=Unit) (fun g=>vb r) (fun g=>[]):=by
 intro w hmem hro hd
 refine Zn func36 rfl ntmps36 rfl hmem hro hd ?_
 unfold XG at H
 refine Z_ (YE PT (fun b1=>?_))
 refine Y2 ?_
 refine Z6 (ZY (Z_ (Y2 ?_)))
 refine Z6 (ZP ?_)
 have ⟨Yw,Hl,H⟩:=Z9 H
 refine Wz [1,3] (rp 21 0) rfl rfl ?_
 refine U0 (id:=0) (body:=(XG.b0 WF X9 Yu Yz Wx Za YI YX Yj Y_ Zv YS Vl Yy Yf X8 Wv Ww Vm XD X_)) (σ:=Int) (Γ:=Unit) (Γx:=Unit) (fun s0 WG=>[(1,ptr (some (b1,0)) 0),(3,vi s0)]) (fun s0 WG=>[⟨some (b1,0),[vi WF]⟩,⟨some (b1,1),[vs X9]⟩,⟨some (b1,2),[vs Yu]⟩,⟨some (b1,3),[sl WP ((Yz).length) WO]⟩,⟨some (b1,4),[vs Wx]⟩,⟨some (b1,5),[sl XV ((Za).length) XU]⟩,⟨some (b1,6),[sl WS ((YI).length) WQ]⟩,⟨some (b1,7),[sl Xy ((YX).length) Xx]⟩,⟨some (b1,8),[sl VU ((Yj).length) VW]⟩,⟨some (b1,9),[sl WT ((Y_).length) WR]⟩,⟨some (b1,10),[sl Yl ((Zv).length) Ym]⟩,⟨some (b1,11),[sl Xw ((YS).length) Xz]⟩,⟨some (b1,12),[vi Vl]⟩,⟨some (b1,13),[sl WU ((Yy).length) WM]⟩,⟨some (b1,14),[sl VV ((Yf).length) VX]⟩,⟨some (b1,15),[vi X8]⟩,⟨some (b1,16),[vs Wv]⟩,⟨some (b1,17),[vi Ww]⟩,⟨some (b1,18),[vi Vm]⟩,⟨some (b1,19),[vs XD]⟩,⟨some (b1,20),[vi X_]⟩]) (fun t g=>[]) (fun t g=>[]) r ?_ BIG 0 () Yw Hl ?_
 ·intro s0 WG r1 H K hK hE MK
  unfold XG.b0 at H
  refine ZY (Z_ (YP ?_))
  refine ZV (ZQ 9 underlying30 QR) ?_
  refine ZV (Z8 rfl (.o 9) rfl isAgg27) ?_
  refine ZV (ZG rfl underlying27) ?_
  refine ZV (ZT WV) ?_
  refine Z6 (UK H (fun hc H=>?_) (fun hc H=>?_))
  ·refine ZN (Z7 (ZY (ZP (ZY ?_))))
   have ⟨h1,H⟩:=Z4 H
   have ⟨Zu,Yk,H⟩:=Z9 H
   refine U3 [] 13 rfl ?_
   refine PX 0 [] (.v 0 [] rfl rfl (VY [0,1,2,3,4,5,6,7,8,9,10,11,12,13,14,15,16,17,18,19,20] rfl rfl isAgg30 Xg) (.v 1 [] rfl rfl (ZQ 9 underlying30 QR) (.v 2 [1] rfl rfl (Z8 rfl (.o 9) rfl isAgg27) (.v 3 [] rfl rfl (ZO rfl) (.v 4 [2,3] rfl rfl (YK (i:=s0) rfl rfl underlying27 Rv rfl (.r 5) (VC (s:=2) (fun _=>rfl) rfl (tl h1)) h1.1 h1.2 (k:=((s0).toNat) * 2) rfl) (.v 5 [4] rfl rfl (Vk rfl underlying50 rfl (k:=0) rfl YM rfl) (.v 6 [5] rfl rfl (Z8 rfl (.r 5) ((UM (g:=fun p:Int × Str=>[vi p.1,vs p.2]) (s:=2) (fun _=>rfl) Y_ ((s0).toNat) 0 (tl h1) (by decide:0<2)).trans rfl) isAgg3) (.e 7 [6,0] rfl rfl (Qg (Bv W9 XW Xd XA Ws WJ Yd Xq WL V6 Yk :) call37 ⟨.r 0, .r 1, .r 2, .r 3, .r 4, .r 5, .r 6, .r 7, .r 8, .r 9,trivial⟩) (.v 8 [7] rfl rfl (ZO rfl) (.v 9 [8] rfl rfl K5 (.v 10 [8] rfl rfl K5 (.v 11 [9] rfl rfl (XL rfl) (.v 12 [10] rfl rfl (XL rfl) .nil))))))))))))) (fun γ=>?_)
   refine Qj [5,1,3] rfl rfl ?_
   refine Vi ?_
   refine Z7 (ZY (UI (decide (1<Zu.2)) (fun zu=>?_) (fun zu=>?_)))
   ·replace H:=U8 (of_decide_eq_true zu) H
    refine U3 (rp 21 0) 14 rfl ?_
    refine YA 0 0 rfl ?_
    refine Zz 1 rfl (ZT Sv) ?_
    refine YA 0 2 rfl ?_
    refine Xb 26 (congrArg vb zu) ?_
    refine YA 10 3 rfl ?_
    refine Vi ?_
    refine Z7 (VI rfl ?_)
    refine Z_ (Y2 ?_)
    refine Zq (ZE (ZZ (ZZ (ZE (ZZ ?_)))))
    have M3:=(MK _ (Option.some.inj H).symm)
    subst M3
    exact Wj
   replace H:=U7 (of_decide_eq_false zu) H
   have ⟨h2,H⟩:=Z4 H
   have ⟨YJ,X6,H⟩:=Z9 H
   refine U3 (rp 21 0) 14 rfl ?_
   refine YA 0 0 rfl ?_
   refine Zz 1 rfl (ZT Sv) ?_
   refine YA 0 2 rfl ?_
   refine Xb 26 (congrArg vb zu) ?_
   refine Zz 3 rfl (ZQ 6 underlying30 XO) ?_
   refine Zz 4 rfl (Z8 rfl (.o 6) rfl isAgg22) ?_
   refine Zz 5 rfl (ZQ 9 underlying30 QR) ?_
   refine Zz 6 rfl (Z8 rfl (.o 9) rfl isAgg27) ?_
   refine YA 0 7 rfl ?_
   refine Zz 8 rfl (YK (i:=s0) rfl rfl underlying27 Rv rfl (.r 5) (VC (s:=2) (fun _=>rfl) rfl (tl h2)) h2.1 h2.2 (k:=((s0).toNat) * 2) rfl) ?_
   refine Zz 9 rfl (Vk rfl underlying50 rfl (k:=0) rfl YM rfl) ?_
   refine Zz 10 rfl (Z8 rfl (.r 5) ((UM (g:=fun p:Int × Str=>[vi p.1,vs p.2]) (s:=2) (fun _=>rfl) Y_ ((s0).toNat) 0 (tl h2) (by decide:0<2)).trans rfl) isAgg3) ?_
   refine Tm 11 (rp 21 0) rfl (Y4 (PI Xd X6 :) call35 ⟨.r 2,trivial⟩) (fun _=>rfl) (fun UD=>?_)
   refine Zz 12 rfl (UF T_) ?_
   refine YA 0 13 rfl ?_
   refine Vi ?_
   refine Z7 (Sn H (fun hc H=>?_) (fun hc H=>?_))
   ·refine Z_ (Y2 ?_)
    refine Zq (ZE (ZZ (ZZ (ZE (ZZ ?_)))))
    have M3:=(MK _ (Option.some.inj H).symm)
    subst M3
    exact Wj
   refine ZN (ZW (Z7 (ZH (YP ?_))))
   refine ZV (ZT XN) ?_
   refine Y2 ?_
   refine ZK ?_
   obtain rfl:=sj H
   exact Ri (rp 21 0) (hK (ZJ (s0+1)) rfl ())
  refine YW (Z0 (Z0 ?_))
  obtain rfl:=sj H
  exact WW [] (hE () rfl ())
 rcases Yw with Yw | rv
 ·intro Fe
  dsimp only at H
  refine ZL (Z7 (Z_ (Y2 ?_)))
  refine Zq ?_
  obtain rfl:=sj H
  exact Wj
 exact (Option.some.inj H)
def Uw (Zm:Bool) (ZI ZR:List (Int)) (Zx:List (Str)) (Yp:Str) (Zr:List (Str)) (Zb:Str) (ZC:Int) (Y5:Str) (ZB:List (Str × Str × Int × Int × Int × Int)) (YN:Str) (Zk Ye:Int) (Zd YO WF:Int) (X9 Yu:Str) (Yz:List (Int)) (Wx:Str) (Za YI:List (Int)) (YX Yj:List (Int)) (Y_:List (Int × Str)) (Zv:List (Str × Int)) (YS:List (Str)) (Vl:Int) (Yy:List (Int)) (Yf:List (Str)) (X8:Int) (Wv:Str) (Ww Vm:Int) (XD:Str) (X_ Sj:Int):Option (Bool) :=
 (if ((Zv).length:Int)=0 then (some true) else ((Yh Yj 1).bind fun YJ=>(if (!YJ)=true then (some true) else (some (decide (((Y5).length:Int) ≠ 32)))))).bind fun j1=>(if j1=true then (some false) else (if 0≤(0:Int)∧(0:Int)<((Zv).length:Int) then ((Uv Y5 ((lg Zv 0).1)).bind fun Zu=>(if Zu.2.2.2.2=0 then (if Zu.1=Sj then (if Zu.2.2.1≤Zk then (X5 (decide ((ZJ (Zk - Zu.2.2.1))≤604800)) fun x1=>(some x1)) else (some false)) else (some false)) else (some false))) else none))
theorem rM {YZ:Y6} {Y0:Nat} {Y1:Y6} {YY:Nat} {YC:Y6} {YH:Nat} {YG:Y6} {YF:Nat} {XR:Y6} {XP:Nat} {WP:Y6} {WO:Nat} {XV:Y6} {XU:Nat} {WS:Y6} {WQ:Nat} {Xy:Y6} {Xx:Nat} {VU:Y6} {VW:Nat} {WT:Y6} {WR:Nat} {Yl:Y6} {Ym:Nat} {Xw:Y6} {Xz:Nat} {WU:Y6} {WM:Nat} {VV:Y6} {VX:Nat} {Zm:Bool} {ZI:List (Int)} {ZR:List (Int)} {Zx:List (Str)} {Yp:Str} {Zr:List (Str)} {Zb:Str} {ZC:Int} {Y5:Str} {ZB:List (Str × Str × Int × Int × Int × Int)} {YN:Str} {Zk:Int} {Ye:Int} {Zd:Int} {YO:Int} {WF:Int} {X9:Str} {Yu:Str} {Yz:List (Int)} {Wx:Str} {Za:List (Int)} {YI:List (Int)} {YX:List (Int)} {Yj:List (Int)} {Y_:List (Int × Str)} {Zv:List (Str × Int)} {YS:List (Str)} {Vl:Int} {Yy:List (Int)} {Yf:List (Str)} {X8:Int} {Wv:Str} {Ww:Int} {Vm:Int} {XD:Str} {X_:Int} {Sj:Int} (YV:(ZI).length≤Y0) (YD:(ZR).length≤YY) (Y8:(Zx).length≤YH) (Yq:(Zr).length≤YF) (Xk:(ZB).length≤XP) (W9:(Yz).length≤WO) (XW:(Za).length≤XU) (Xd:(YI).length≤WQ) (XA:(YX).length≤Xx) (Ws:(Yj).length≤VW) (WJ:(Y_).length≤WR) (Yd:(Zv).length≤Ym) (Xq:(YS).length≤Xz) (WL:(Yy).length≤WM) (V6:(Yf).length≤VX) {r:Bool} (H:Uw Zm ZI ZR Zx Yp Zr Zb ZC Y5 ZB YN Zk Ye Zd YO WF X9 Yu Yz Wx Za YI YX Yj Y_ Zv YS Vl Yy Yf X8 Wv Ww Vm XD X_ Sj=some r) :
  Does Tryz.prog 38 [aG [(1,[vb Zm]),(1,[sl YZ ((ZI).length) Y0]),(1,[sl Y1 ((ZR).length) YY]),(1,[sl YC ((Zx).length) YH]),(1,[vs Yp]),(1,[sl YG ((Zr).length) YF]),(1,[vs Zb]),(1,[vi ZC]),(1,[vs Y5]),(1,[sl XR ((ZB).length) XP]),(1,[vs YN]),(1,[vi Zk]),(1,[vi Ye]),(1,[vi Zd]),(1,[vi YO])],aG [(1,[vi WF]),(1,[vs X9]),(1,[vs Yu]),(1,[sl WP ((Yz).length) WO]),(1,[vs Wx]),(1,[sl XV ((Za).length) XU]),(1,[sl WS ((YI).length) WQ]),(1,[sl Xy ((YX).length) Xx]),(1,[sl VU ((Yj).length) VW]),(1,[sl WT ((Y_).length) WR]),(1,[sl Yl ((Zv).length) Ym]),(1,[sl Xw ((YS).length) Xz]),(1,[vi Vl]),(1,[sl WU ((Yy).length) WM]),(1,[sl VV ((Yf).length) VX]),(1,[vi X8]),(1,[vs Wv]),(1,[vi Ww]),(1,[vi Vm]),(1,[vs XD]),(1,[vi X_])],vi Sj] [] [⟨YZ,eI ZI⟩,⟨Y1,eI ZR⟩,⟨YC,eS Zx⟩,⟨YG,eS Zr⟩,⟨XR,eF (fun p:Str × Str × Int × Int × Int × Int=>[vs p.1,vs p.2.1,vi p.2.2.1,vi p.2.2.2.1,vi p.2.2.2.2.1,vi p.2.2.2.2.2]) ZB⟩,⟨WP,eI Yz⟩,⟨XV,eI Za⟩,⟨WS,eI YI⟩,⟨Xy,eI YX⟩,⟨VU,eI Yj⟩,⟨WT,eF (fun p:Int × Str=>[vi p.1,vs p.2]) Y_⟩,⟨Yl,eF (fun p:Str × Int=>[vs p.1,vi p.2]) Zv⟩,⟨Xw,eS YS⟩,⟨WU,eI Yy⟩,⟨VV,eS Yf⟩] (Γ:=Unit) (fun g=>vb r) (fun g=>[]):=by
 intro w hmem hro hd
 refine Zn func38 rfl ntmps38 rfl hmem hro hd ?_
 unfold Uw at H
 refine Z_ (YE PT (fun b1=>?_))
 refine YE PT (fun b2=>?_)
 refine Y2 ?_
 refine Z6 (Wz [2,3,4] (rp 15 21++rp 21 0) rfl rfl ?_)
 refine ZY (Z_ (ZV (ZQ 10 underlying30 MX) ?_))
 refine ZV (Z8 rfl (.o 25) rfl isAgg28) ?_
 refine ZV (ZG rfl underlying28) ?_
 refine ZV (ZT Xr) ?_
 refine YP ?_
 have ⟨j1,Hj,H⟩:=Z9 H
 refine VH (Γ:=Unit) (fun Sc=>[(2,vi Sj),(3,ptr (some (b1,0)) 0),(4,ptr (some (b2,0)) 0),(24,vb j1)]) (fun Sc=>[⟨some (b1,0),[vb Zm]⟩,⟨some (b1,1),[sl YZ ((ZI).length) Y0]⟩,⟨some (b1,2),[sl Y1 ((ZR).length) YY]⟩,⟨some (b1,3),[sl YC ((Zx).length) YH]⟩,⟨some (b1,4),[vs Yp]⟩,⟨some (b1,5),[sl YG ((Zr).length) YF]⟩,⟨some (b1,6),[vs Zb]⟩,⟨some (b1,7),[vi ZC]⟩,⟨some (b1,8),[vs Y5]⟩,⟨some (b1,9),[sl XR ((ZB).length) XP]⟩,⟨some (b1,10),[vs YN]⟩,⟨some (b1,11),[vi Zk]⟩,⟨some (b1,12),[vi Ye]⟩,⟨some (b1,13),[vi Zd]⟩,⟨some (b1,14),[vi YO]⟩,⟨some (b2,0),[vi WF]⟩,⟨some (b2,1),[vs X9]⟩,⟨some (b2,2),[vs Yu]⟩,⟨some (b2,3),[sl WP ((Yz).length) WO]⟩,⟨some (b2,4),[vs Wx]⟩,⟨some (b2,5),[sl XV ((Za).length) XU]⟩,⟨some (b2,6),[sl WS ((YI).length) WQ]⟩,⟨some (b2,7),[sl Xy ((YX).length) Xx]⟩,⟨some (b2,8),[sl VU ((Yj).length) VW]⟩,⟨some (b2,9),[sl WT ((Y_).length) WR]⟩,⟨some (b2,10),[sl Yl ((Zv).length) Ym]⟩,⟨some (b2,11),[sl Xw ((YS).length) Xz]⟩,⟨some (b2,12),[vi Vl]⟩,⟨some (b2,13),[sl WU ((Yy).length) WM]⟩,⟨some (b2,14),[sl VV ((Yf).length) VX]⟩,⟨some (b2,15),[vi X8]⟩,⟨some (b2,16),[vs Wv]⟩,⟨some (b2,17),[vi Ww]⟩,⟨some (b2,18),[vi Vm]⟩,⟨some (b2,19),[vs XD]⟩,⟨some (b2,20),[vi X_]⟩]) ?_ ?_
 ·intro Sc
  refine Z7 (Sn H (fun hc H=>?_) (fun hc H=>?_))
  ·refine Z_ (Y2 ?_)
   refine Zq (ZZ ?_)
   obtain rfl:=sj H
   exact Wj
  refine ZN (Z7 (ZY ?_))
  have ⟨h1,H⟩:=Z4 H
  have ⟨Zu,Yk,H⟩:=Z9 H
  refine U3 (rp 36 0) 13 rfl ?_
  refine Zz 0 rfl (ZQ 8 underlying26 Xe) ?_
  refine Zz 1 rfl (Z8 rfl (.o 8) rfl isAgg9) ?_
  refine Zz 2 rfl (ZQ 10 underlying30 MX) ?_
  refine Zz 3 rfl (Z8 rfl (.o 25) rfl isAgg28) ?_
  refine Zz 4 rfl (YK (i:=0) rfl rfl underlying28 LH rfl (.r 11) (VC (s:=2) (fun _=>rfl) rfl (tl h1)) h1.1 h1.2 (k:=0 * 2) rfl) ?_
  refine Zz 5 rfl (Vk rfl underlying60 rfl (k:=0) rfl Xe rfl) ?_
  refine Zz 6 rfl (Z8 rfl (.r 11) ((UM (g:=fun p:Str × Int=>[vs p.1,vi p.2]) (s:=2) (fun _=>rfl) Zv 0 0 (tl h1) (by decide:0<2)).trans rfl) isAgg9) ?_
  refine TBP [ED 7 33 (Value.tuple [aG [(1,[vi Zu.1]),(1,[vs Zu.2.1]),(1,[vi Zu.2.2.1]),(1,[vi Zu.2.2.2.1])],vi Zu.2.2.2.2].toArray) [],ED 8 25 (Value.tuple [aG [(1,[vi Zu.1]),(1,[vs Zu.2.1]),(1,[vi Zu.2.2.1]),(1,[vi Zu.2.2.2.1])],vi Zu.2.2.2.2].toArray) [7],ED 9 34 (aG [(1,[vi Zu.1]),(1,[vs Zu.2.1]),(1,[vi Zu.2.2.1]),(1,[vi Zu.2.2.2.1])]) [8],⟨11,7,fun _ b3=>ptr (some (b3,0)) 0,fun b3=>[⟨some (b3,0),[vi 0]⟩,⟨some (b3,1),[vs ([]:Str)]⟩,⟨some (b3,2),[vi 0]⟩,⟨some (b3,3),[vi 0]⟩],[],none⟩] [ED 10 35 (vi Zu.2.2.2.2) [8]] 2 (rp 36 4) (.e rfl (Qg (p_ Yk :) call68 .z) (.v rfl (ZO rfl) (.v rfl K5 (.c rfl (fun _ _=>(SL WC Ph)) .nil)))) (.c rfl (fun _=>K5) .nil) (fun γ=>?_)
  refine Qj [35,7,34,2,3] rfl rfl ?_
  generalize γ 11=b3
  refine Qh 12 (rp 36 4) rfl (VZ [0,0,0,0] rfl rfl WC) (fun _=>rfl) (fun _=>?_)
  refine xH 13 rfl (XL rfl) ?_
  refine Vi ?_
  refine Z7 (Z_ (YP ?_))
  refine ZV (ZT Xr) ?_
  refine YP ?_
  refine Td (d:=38) H (fun hc H=>?_) (fun hc H=>?_)
  ·refine Zc (ZQ 0 underlying66 YM) ?_
   refine Zc (Z8 rfl (.o 0) rfl isAgg3) ?_
   refine Zc (ZO rfl) ?_
   refine Zc (ZT Xr) ?_
   refine Zj 2 rfl ?_
   refine Td (d:=44) H (fun hc H=>?_) (fun hc H=>?_)
   ·refine Zc (ZQ 2 underlying66 YM) ?_
    refine Zc (Z8 rfl (.o 2) rfl isAgg3) ?_
    refine Zc (ZQ 11 underlying26 YM) ?_
    refine Zc (Z8 rfl (.o 15) rfl isAgg3) ?_
    refine Zc (ZT RH) ?_
    refine Zj 2 rfl ?_
    refine Td (d:=51) H (fun hc H=>?_) (fun hc H=>?_)
    ·refine Zc (ZQ 11 underlying26 YM) ?_
     refine Zc (Z8 rfl (.o 15) rfl isAgg3) ?_
     refine Zc (ZQ 2 underlying66 YM) ?_
     refine Zc (Z8 rfl (.o 2) rfl isAgg3) ?_
     refine Zc (ZT OX) ?_
     refine Zc (ZT RH) ?_
     refine Zj 2 rfl ?_
     have ⟨x1,TK,H⟩:=ZX H
     refine WN 6 (congrArg vb TK) ?_
     refine Z6 (Wz [6] [] rfl rfl ?_)
     refine Y7 ?_
     obtain rfl:=sj H
     exact Wj
    refine Zj 8 rfl ?_
    refine Z6 (Wz [6] [] rfl rfl ?_)
    refine Y7 ?_
    obtain rfl:=sj H
    exact Wj
   refine Zj 15 rfl ?_
   refine Z6 (Wz [6] [] rfl rfl ?_)
   refine Y7 ?_
   obtain rfl:=sj H
   exact Wj
  refine Zj 21 rfl ?_
  refine Z6 (Wz [6] [] rfl rfl ?_)
  refine Y7 ?_
  obtain rfl:=sj H
  exact Wj
 intro hJ
 replace H:=Hj
 refine Td (d:=13) H (fun hc H=>?_) (fun hc H=>?_)
 ·refine Zj 11 rfl ?_
  refine ZK ?_
  obtain rfl:=sj H
  exact WW (rp 36 0) (hJ ())
 refine Zc (ZQ 8 underlying30 XO) ?_
 refine Zc (Z8 rfl (.o 23) rfl isAgg22) ?_
 have ⟨YJ,X6,H⟩:=Z9 H
 refine JQ (Y4 (PI Ws X6 :) call35 ⟨.r 9,trivial⟩) (fun UD=>?_)
 refine Zc (UF T_) ?_
 refine Zj 2 rfl ?_
 refine Mg (d:=19) H (fun hc H=>?_) (fun hc H=>?_)
 ·refine Zj 5 rfl ?_
  refine ZK ?_
  obtain rfl:=sj H
  exact WW (rp 36 0) (hJ ())
 refine Zc (ZQ 8 underlying26 Xe) ?_
 refine Zc (Z8 rfl (.o 8) rfl isAgg9) ?_
 refine Zc (Zf rfl underlying9) ?_
 refine Zc (ZT SN) ?_
 refine FE ?_
 refine ZK ?_
 obtain rfl:=sj H
 exact WW (rp 36 0) (hJ ())
end Go.Proofs
end

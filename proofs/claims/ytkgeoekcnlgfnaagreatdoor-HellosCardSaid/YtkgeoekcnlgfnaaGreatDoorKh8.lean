/-
  Part 8 of the proof of what several laws share.
-/
import Derived.Test.YtkgeoekcnlgfnaaGreatDoorKh7
set_option maxHeartbeats 4000000
set_option maxRecDepth 20000
set_option linter.unusedVariables false
set_option linter.unusedSimpArgs false
section
namespace Go.Proofs
open Go Go.Kx
open Vector (replicate)
open TryzI Tryz
def Xm.b1 (s0:Int × (Vector (BitVec 64 × BitVec 64) 16) × BitVec 64 × BitVec 64) (s1:Int × (Vector (BitVec 64 × BitVec 64) 16)):Option ((Int × (Vector (BitVec 64 × BitVec 64) 16)) ⊕ ((Vector (BitVec 64 × BitVec 64) 16))) :=
 if s1.1<16 then (if (HZ (· &&& ·) s1.1 s0.1) ≠ 0 then (if 0≤s1.1∧s1.1<(16:Int) then (if 0≤s1.1∧s1.1<(16:Int) then (X5 (vp s1.2 ((s1.1).toNat) ((((vg s1.2 ((s1.1).toNat)).1) ^^^ s0.2.2.1),(vg s1.2 ((s1.1).toNat)).2)) fun Xi=>(if 0≤s1.1∧s1.1<(16:Int) then (if 0≤s1.1∧s1.1<(16:Int) then (X5 (vp Xi ((s1.1).toNat) ((vg Xi ((s1.1).toNat)).1,(((vg Xi ((s1.1).toNat)).2) ^^^ s0.2.2.2))) fun SV=>(some (.inl (ZJ (s1.1+1),SV)))) else none) else none)) else none) else none) else (some (.inl (ZJ (s1.1+1),s1.2)))) else (some (.inr s1.2))
def Xm.b0  (s0:Int × (Vector (BitVec 64 × BitVec 64) 16) × BitVec 64 × BitVec 64):Option ((Int × (Vector (BitVec 64 × BitVec 64) 16) × BitVec 64 × BitVec 64) ⊕ ((Vector (BitVec 64 × BitVec 64) 16))) :=
 if 0<s0.1 then ((loop (Xm.b1 s0) BIG (0,s0.2.1)).bind fun M7=>((Q_ s0.2.2.1 s0.2.2.2).bind fun Zu=>(X5 (ZJ (s0.1.tdiv 2)) fun qg=>(some (.inl (qg,M7,Zu.1,Zu.2)))))) else (some (.inr s0.2.1))
def Xm.b3  (s3:Int × BitVec 64 × BitVec 64):Option ((Int × BitVec 64 × BitVec 64) ⊕ (BitVec 64 × BitVec 64)) :=
 if s3.1<4 then ((Q_ s3.2.1 s3.2.2).bind fun YJ=>(some (.inl (ZJ (s3.1+1),YJ.1,YJ.2)))) else (some (.inr (s3.2.1,s3.2.2)))
def Xm.b2  (s2:Int × Vx 64 16):Option ((Int × Vx 64 16) ⊕ (Vx 64 16)) :=
 if s2.1<16 then ((loop (Xm.b3) BIG (0,0#64,BitVec.ofInt 64 s2.1)).bind fun Gu=>(if 0≤s2.1∧s2.1<(16:Int) then (X5 (vp s2.2 ((s2.1).toNat) Gu.1) fun IV=>(some (.inl (ZJ (s2.1+1),IV)))) else none)) else (some (.inr s2.2))
def Xm (DK zD:BitVec 64):Option ((Vector (BitVec 64 × BitVec 64) 16) × Vx 64 16) :=
 (loop (Xm.b0) BIG (8,replicate 16 (0#64,0#64),DK,zD)).bind fun Yw=>((loop (Xm.b2) BIG (0,replicate 16 0#64)).bind fun KI=>(some (Yw,KI)))
theorem vP {DK:BitVec 64} {zD:BitVec 64} {r:(Vector (BitVec 64 × BitVec 64) 16) × Vx 64 16} (H:Xm DK zD=some r) :
  Does Tryz.prog 144 [aG [(1,[v64 DK]),(1,[v64 zD])]] [] [] (Γ:=Nat) (fun g=>ptr (some (g,0)) 0) (fun g=>[⟨some (g,0),eF (fun p:BitVec 64 × BitVec 64=>[v64 p.1,v64 p.2]) r.1.toList⟩,⟨some (g,32),e64 r.2.toList⟩,⟨some (g,48),[v64 0#64]⟩,⟨some (g,49),[v64 0#64]⟩]):=by
 intro w hmem hro hd
 refine Zn func144 rfl ntmps144 rfl hmem hro hd ?_
 unfold Xm at H
 refine Z_ (YE PT (fun b1=>?_))
 refine Y2 ?_
 refine Z6 (Z_ (ZV (Y9 (pv:=[]) (pl:=[(0,32),(32,16),(48,2)]) rfl rfl underlying227 aU qL ag (cs:=flat [(32,eF (fun p:BitVec 64 × BitVec 64=>[v64 p.1,v64 p.2]) ((replicate 16 (0#64,0#64)).toList)),(16,e64 ((replicate 16 0#64).toList)),(1,[v64 0#64]),(1,[v64 0#64])]) KN) ?_))
 refine YE (UN [(32,eF (fun p:BitVec 64 × BitVec 64=>[v64 p.1,v64 p.2]) ((replicate 16 (0#64,0#64)).toList)),(16,e64 ((replicate 16 0#64).toList)),(1,[v64 0#64]),(1,[v64 0#64])] rfl rfl ⟨(abL (g:=fun p:BitVec 64 × BitVec 64=>[v64 p.1,v64 p.2]) (s:=2) (fun _=>rfl) (replicate 16 (0#64,0#64))),(Wl (f:=v64) (replicate 16 0#64)),rfl,rfl,trivial⟩) (fun b2=>?_)
 refine Y2 ?_
 refine Z6 (ZY (ZY (U3 [] 4 rfl ?_)))
 refine PX 1 [] (.v 0 [] rfl rfl (VY [4,5] rfl rfl isAgg216 V3) (.c ⟨1,5,fun _ b3=>ptr (some (b3,0)) 0,fun b3=>[⟨some (b3,0),[v64 0#64]⟩,⟨some (b3,1),[v64 0#64]⟩],[],none⟩ rfl (fun _ _=>(Wh [(1,[v64 0#64]),(1,[v64 0#64])] V3 NK ⟨rfl,rfl,trivial⟩)) (.v 2 [] rfl rfl (XL rfl) .nil))) (fun γ=>?_)
 refine Qj [4,5,11,3] rfl rfl ?_
 generalize γ 1=b3
 refine Qh 3 [] rfl (VZ [0,0] rfl rfl V3) (fun _=>rfl) (fun _=>?_)
 refine Vi ?_
 refine Z7 (ZP ?_)
 have ⟨Yw,Hl,H⟩:=Z9 H
 refine Wz [3,4,5] [2,2,2,2,0,0] rfl rfl ?_
 refine Yv (id:=0) (body:=(Xm.b0)) (σ:=Int × (Vector (BitVec 64 × BitVec 64) 16) × BitVec 64 × BitVec 64) (Γ:=Nat) (Γx:=Unit) (fun s0 WG=>[(3,ptr (some (b2,0)) 0),(4,vi s0.1),(5,ptr (some (WG,0)) 0)]) (fun s0 WG=>[⟨some (b2,0),eF (fun p:BitVec 64 × BitVec 64=>[v64 p.1,v64 p.2]) s0.2.1.toList⟩,⟨some (b2,32),e64 ((replicate 16 0#64).toList)⟩,⟨some (b2,48),[v64 0#64]⟩,⟨some (b2,49),[v64 0#64]⟩,⟨some (WG,0),[v64 s0.2.2.1]⟩,⟨some (WG,1),[v64 s0.2.2.2]⟩]) (fun t g=>[(3,ptr (some (b2,0)) 0)]) (fun t g=>[⟨some (b2,0),eF (fun p:BitVec 64 × BitVec 64=>[v64 p.1,v64 p.2]) t.toList⟩,⟨some (b2,32),e64 ((replicate 16 0#64).toList)⟩,⟨some (b2,48),[v64 0#64]⟩,⟨some (b2,49),[v64 0#64]⟩]) ?_ BIG (8,replicate 16 (0#64,0#64),DK,zD) b3 Yw Hl ?_
 ·intro s0 WG r1 H K hK hE
  unfold Xm.b0 at H
  refine ZY (Z_ (YP ?_))
  refine ZV (ZT Sv) ?_
  refine Z6 (UK H (fun hc H=>?_) (fun hc H=>?_))
  ·refine ZN (Z7 (ZY (ZP (Z_ (YP ?_)))))
   refine Z6 (ZP ?_)
   have ⟨M7,Hl,H⟩:=Z9 H
   refine Wz [3,4,5,18] [0,0,0,0,0,0] rfl rfl ?_
   refine Yv (id:=2) (body:=(Xm.b1 s0)) (σ:=Int × (Vector (BitVec 64 × BitVec 64) 16)) (Γ:=Unit) (Γx:=Unit) (fun s1 ME=>[(3,ptr (some (b2,0)) 0),(4,vi s0.1),(5,ptr (some (WG,0)) 0),(18,vi s1.1)]) (fun s1 ME=>[⟨some (b2,0),eF (fun p:BitVec 64 × BitVec 64=>[v64 p.1,v64 p.2]) s1.2.toList⟩,⟨some (b2,32),e64 ((replicate 16 0#64).toList)⟩,⟨some (b2,48),[v64 0#64]⟩,⟨some (b2,49),[v64 0#64]⟩,⟨some (WG,0),[v64 s0.2.2.1]⟩,⟨some (WG,1),[v64 s0.2.2.2]⟩]) (fun t g=>[(3,ptr (some (b2,0)) 0),(4,vi s0.1),(5,ptr (some (WG,0)) 0)]) (fun t g=>[⟨some (b2,0),eF (fun p:BitVec 64 × BitVec 64=>[v64 p.1,v64 p.2]) t.toList⟩,⟨some (b2,32),e64 ((replicate 16 0#64).toList)⟩,⟨some (b2,48),[v64 0#64]⟩,⟨some (b2,49),[v64 0#64]⟩,⟨some (WG,0),[v64 s0.2.2.1]⟩,⟨some (WG,1),[v64 s0.2.2.2]⟩]) ?_ BIG (0,s0.2.1) () M7 Hl ?_
   ·intro s1 ME r1 H K hK hE
    unfold Xm.b1 at H
    refine Z_ (ZV (ZT WV) ?_)
    refine Z6 (ZY (UK H (fun hc H=>?_) (fun hc H=>?_)))
    ·refine ZN (Z7 (ZY (ZP (Z_ (Zj 2 rfl ?_)))))
     refine Z6 (Z_ (Zj 2 rfl ?_))
     refine ZV (ZT az) ?_
     refine ZV (ZT SN) ?_
     refine Z6 (UK H (fun hc H=>?_) (fun hc H=>?_))
     ·refine ZY ?_
      have ⟨h1,H⟩:=Z4 H
      have ⟨h2,H⟩:=Z4 H
      have ⟨Xi,hm_1,H⟩:=ZX H
      refine U3 [] 15 rfl ?_
      refine PX 1 [] (.v 0 [] rfl rfl (ZO rfl) (.v 1 [] rfl rfl (ZO rfl) (.v 2 [0] rfl rfl (Zh rfl) (.v 3 [2] rfl rfl (ZQ 0 underlying227 Gd) (.v 4 [1,3] rfl rfl (Zw (i:=s1.1) rfl rfl underlying224 V3 rfl h1.1 h1.2 (k:=((s1.1).toNat) * 2) (k0 _ _)) (.v 5 [4] rfl rfl (Vk rfl underlying216 rfl (k:=0) rfl Yx rfl) (.v 6 [5] rfl rfl (Z8 rfl (.o 0) ((UM (g:=fun p:BitVec 64 × BitVec 64=>[v64 p.1,v64 p.2]) (s:=2) (fun _=>rfl) s1.2.toList ((s1.1).toNat) 0 (Ke (tl h1)) (by decide:0<2)).trans rfl) isAgg115) (.v 7 [] rfl rfl (ZQ 0 underlying216 Yx) (.v 8 [7] rfl rfl (Z8 rfl (.o 4) rfl isAgg115) (.v 9 [8,6] rfl rfl (V9 K3 rfl rfl) (.v 10 [0] rfl rfl (Zh rfl) (.v 11 [10] rfl rfl (ZQ 0 underlying227 Gd) (.v 12 [1,11] rfl rfl (Zw (i:=s1.1) rfl rfl underlying224 V3 rfl h2.1 h2.2 (k:=((s1.1).toNat) * 2) (k0 _ _)) (.v 13 [12] rfl rfl (Vk rfl underlying216 rfl (k:=0) rfl Yx rfl) .nil)))))))))))))) (fun γ=>?_)
      refine Qj [38,34,6,3,4,5,18] rfl rfl ?_
      refine Qh 14 [] rfl (YR (j:=0) rfl rfl Yx rfl rfl rfl (xZ (g:=fun p:BitVec 64 × BitVec 64=>[v64 p.1,v64 p.2]) (s:=2) (fun _=>rfl) (Ke (tl h2)) (by decide:0<2)) (cs':=eF (fun p:BitVec 64 × BitVec 64=>[v64 p.1,v64 p.2]) ((vp s1.2 ((s1.1).toNat) ((((vg s1.2 ((s1.1).toNat)).1) ^^^ s0.2.2.1),(vg s1.2 ((s1.1).toNat)).2)).toList)) (lV (g:=fun p:BitVec 64 × BitVec 64=>[v64 p.1,v64 p.2]) (s:=2) (fun _=>rfl) s1.2 ((s1.1).toNat) 0 _ _ (tl h2) (by decide:0<2) rfl)) (fun _=>rfl) (fun _=>?_)
      refine Iy 0 (congrArg (fun z:Vector (BitVec 64 × BitVec 64) 16=>eF (fun p:BitVec 64 × BitVec 64=>[v64 p.1,v64 p.2]) (Vector.toList z)) hm_1) ?_
      refine Vi ?_
      refine Z7 ?_
      have ⟨h3,H⟩:=Z4 H
      have ⟨h4,H⟩:=Z4 H
      have ⟨SV,hm_2,H⟩:=ZX H
      refine U3 [] 15 rfl ?_
      refine PX 1 [] (.v 0 [] rfl rfl (ZO rfl) (.v 1 [] rfl rfl (ZO rfl) (.v 2 [0] rfl rfl (Zh rfl) (.v 3 [2] rfl rfl (ZQ 0 underlying227 Gd) (.v 4 [1,3] rfl rfl (Zw (i:=s1.1) rfl rfl underlying224 V3 rfl h3.1 h3.2 (k:=((s1.1).toNat) * 2) (k0 _ _)) (.v 5 [4] rfl rfl (Vk rfl underlying216 rfl (k:=1) rfl Yx rfl) (.v 6 [5] rfl rfl (Z8 rfl (.o 0) ((UM (g:=fun p:BitVec 64 × BitVec 64=>[v64 p.1,v64 p.2]) (s:=2) (fun _=>rfl) Xi.toList ((s1.1).toNat) 1 (Ke (tl h3)) (by decide:1<2)).trans rfl) isAgg115) (.v 7 [] rfl rfl (ZQ 1 underlying216 Yx) (.v 8 [7] rfl rfl (Z8 rfl (.o 5) rfl isAgg115) (.v 9 [6,8] rfl rfl (V9 K3 rfl rfl) (.v 10 [0] rfl rfl (Zh rfl) (.v 11 [10] rfl rfl (ZQ 0 underlying227 Gd) (.v 12 [1,11] rfl rfl (Zw (i:=s1.1) rfl rfl underlying224 V3 rfl h4.1 h4.2 (k:=((s1.1).toNat) * 2) (k0 _ _)) (.v 13 [12] rfl rfl (Vk rfl underlying216 rfl (k:=1) rfl Yx rfl) .nil)))))))))))))) (fun γ=>?_)
      refine Qj [52,48,3,4,5,18] rfl rfl ?_
      refine Qh 14 [] rfl (YR (j:=0) rfl rfl Yx rfl rfl rfl (xZ (g:=fun p:BitVec 64 × BitVec 64=>[v64 p.1,v64 p.2]) (s:=2) (fun _=>rfl) (Ke (tl h4)) (by decide:1<2)) (cs':=eF (fun p:BitVec 64 × BitVec 64=>[v64 p.1,v64 p.2]) ((vp Xi ((s1.1).toNat) ((vg Xi ((s1.1).toNat)).1,(((vg Xi ((s1.1).toNat)).2) ^^^ s0.2.2.2))).toList)) (lV (g:=fun p:BitVec 64 × BitVec 64=>[v64 p.1,v64 p.2]) (s:=2) (fun _=>rfl) Xi ((s1.1).toNat) 1 _ _ (tl h4) (by decide:1<2) rfl)) (fun _=>rfl) (fun _=>?_)
      refine Iy 0 (congrArg (fun z:Vector (BitVec 64 × BitVec 64) 16=>eF (fun p:BitVec 64 × BitVec 64=>[v64 p.1,v64 p.2]) (Vector.toList z)) hm_2) ?_
      refine Vi ?_
      refine ZW (Z7 (ZH (ZV (ZT XN) ?_)))
      refine YP ?_
      refine ZK ?_
      obtain rfl:=sj H
      exact Ri [0,0,0,0,0,0] (hK (ZJ (s1.1+1),SV) rfl ())
     refine ZN (ZW (Z7 (ZH (ZV (ZT XN) ?_))))
     refine YP ?_
     refine ZK ?_
     obtain rfl:=sj H
     exact Ri [0,0,0,0,0,0] (hK (ZJ (s1.1+1),s1.2) rfl ())
    refine YW (Z0 (Z0 ?_))
    obtain rfl:=sj H
    exact WW [0,0,0,0,0,0] (hE s1.2 rfl ())
   intro g
   refine ZL (ZW (Z7 (ZY (Z_ (ZV (VY [4,5] rfl rfl isAgg216 V3) ?_)))))
   refine Z6 (ZH (YE (Wh [(1,[v64 0#64]),(1,[v64 0#64])] V3 NK ⟨rfl,rfl,trivial⟩) (fun b4=>?_)))
   refine VM (VZ [0,0] rfl rfl V3) (fun _=>?_)
   refine Z6 (ZH (YP ?_))
   refine ZV (Zg rfl rfl (fun w=>Lh w s0.1 2 (by decide))) ?_
   refine ZV (VY [0,1] rfl rfl isAgg216 V3) ?_
   have ⟨Zu,Yk,H⟩:=Z9 H
   refine YE (Y4 (Ey Yk :) call154 .z) (fun Re=>?_)
   refine Y2 ?_
   have ⟨qg,hbit1,H⟩:=ZX H
   refine WN 4 (congrArg vi hbit1) ?_
   refine VM (VZ [0,0] rfl rfl V3) (fun _=>?_)
   refine ZK ?_
   obtain rfl:=sj H
   exact Ri [2,2,2,2,0,0] (hK (qg,M7,Zu.1,Zu.2) rfl b4)
  refine YW (Z0 (Z0 ?_))
  obtain rfl:=sj H
  exact WW [0,0,0,0] (hE s0.2.1 rfl ())
 intro g
 refine ZL (Z7 (ZY (Z_ (YP ?_))))
 refine Z6 (ZP ?_)
 have ⟨KI,Hl,H⟩:=Z9 H
 refine Wz [3,55] [0,0,0,0] rfl rfl ?_
 refine Yv (id:=4) (body:=(Xm.b2)) (σ:=Int × Vx 64 16) (Γ:=Unit) (Γx:=Unit) (fun s2 y_=>[(3,ptr (some (b2,0)) 0),(55,vi s2.1)]) (fun s2 y_=>[⟨some (b2,0),eF (fun p:BitVec 64 × BitVec 64=>[v64 p.1,v64 p.2]) Yw.toList⟩,⟨some (b2,32),e64 s2.2.toList⟩,⟨some (b2,48),[v64 0#64]⟩,⟨some (b2,49),[v64 0#64]⟩]) (fun t g=>[(3,ptr (some (b2,0)) 0)]) (fun t g=>[⟨some (b2,0),eF (fun p:BitVec 64 × BitVec 64=>[v64 p.1,v64 p.2]) Yw.toList⟩,⟨some (b2,32),e64 t.toList⟩,⟨some (b2,48),[v64 0#64]⟩,⟨some (b2,49),[v64 0#64]⟩]) ?_ BIG (0,replicate 16 0#64) () KI Hl ?_
 ·intro s2 y_ r1 H K hK hE
  unfold Xm.b2 at H
  refine Z_ (ZV (ZT WV) ?_)
  refine Z6 (ZY (UK H (fun hc H=>?_) (fun hc H=>?_)))
  ·refine ZN (Z7 (ZY (ZP (Z_ (Zj 2 rfl ?_)))))
   refine Z6 (Z_ (YP ?_))
   refine ZV (Vu rfl (fun w=>Ct w _ _ underlying115 (HY) .i64 s2.1)) ?_
   refine ZV (Y9 (pv:=[(0,v64 0#64),(1,v64 (BitVec.ofInt 64 s2.1))]) (pl:=[(0,1),(1,1)]) rfl rfl underlying216 V3 IK NK (cs:=flat [(1,[v64 0#64]),(1,[v64 (BitVec.ofInt 64 s2.1)])]) (by kernel_rfl)) ?_
   refine YE (Wh [(1,[v64 0#64]),(1,[v64 0#64])] V3 NK ⟨rfl,rfl,trivial⟩) (fun b5=>?_)
   refine VM (VZ [0,0] rfl rfl V3) (fun _=>?_)
   refine Z6 (ZY (Z_ (YP ?_)))
   refine Z6 (ZP ?_)
   have ⟨Gu,Hl,H⟩:=Z9 H
   refine Wz [3,7,8,55,61] [2,2,2,2,0,0] rfl rfl ?_
   refine Yv (id:=6) (body:=(Xm.b3)) (σ:=Int × BitVec 64 × BitVec 64) (Γ:=Unit) (Γx:=Unit) (fun s3 uz=>[(3,ptr (some (b2,0)) 0),(7,vi s2.1),(8,ptr (some (b5,0)) 0),(55,vi s2.1),(61,vi s3.1)]) (fun s3 uz=>[⟨some (b2,0),eF (fun p:BitVec 64 × BitVec 64=>[v64 p.1,v64 p.2]) Yw.toList⟩,⟨some (b2,32),e64 s2.2.toList⟩,⟨some (b2,48),[v64 0#64]⟩,⟨some (b2,49),[v64 0#64]⟩,⟨some (b5,0),[v64 s3.2.1]⟩,⟨some (b5,1),[v64 s3.2.2]⟩]) (fun t g=>[(3,ptr (some (b2,0)) 0),(7,vi s2.1),(8,ptr (some (b5,0)) 0),(55,vi s2.1)]) (fun t g=>[⟨some (b2,0),eF (fun p:BitVec 64 × BitVec 64=>[v64 p.1,v64 p.2]) Yw.toList⟩,⟨some (b2,32),e64 s2.2.toList⟩,⟨some (b2,48),[v64 0#64]⟩,⟨some (b2,49),[v64 0#64]⟩,⟨some (b5,0),[v64 t.1]⟩,⟨some (b5,1),[v64 t.2]⟩]) ?_ BIG (0,0#64,BitVec.ofInt 64 s2.1) () Gu Hl ?_
   ·intro s3 uz r1 H K hK hE
    unfold Xm.b3 at H
    refine Z_ (ZV (ZT WV) ?_)
    refine Z6 (ZY (UK H (fun hc H=>?_) (fun hc H=>?_)))
    ·refine ZN (Z7 (ZY (ZP (ZH (ZV (VY [4,5] rfl rfl isAgg216 V3) ?_)))))
     have ⟨YJ,X6,H⟩:=Z9 H
     refine YE (Y4 (Ey X6 :) call154 .z) (fun UD=>?_)
     refine VM (VZ [4,4] rfl rfl V3) (fun _=>?_)
     refine ZK (ZW (Z7 (ZH (ZV (ZT XN) ?_))))
     refine YP ?_
     refine ZK ?_
     obtain rfl:=sj H
     exact Ri [2,2,2,2,0,0] (hK (ZJ (s3.1+1),YJ.1,YJ.2) rfl ())
    refine YW (Z0 (Z0 ?_))
    obtain rfl:=sj H
    exact WW [0,0,0,0,0,0] (hE (s3.2.1,s3.2.2) rfl ())
   intro g
   refine ZL (Z7 ?_)
   have ⟨h5,H⟩:=Z4 H
   have ⟨IV,hm_3,H⟩:=ZX H
   refine U3 [] 8 rfl ?_
   refine PX 1 [] (.v 0 [] rfl rfl (ZO rfl) (.v 1 [] rfl rfl (ZO rfl) (.v 2 [] rfl rfl (ZQ 0 underlying216 Yx) (.v 3 [2] rfl rfl (Z8 rfl (.o 4) rfl isAgg115) (.v 4 [0] rfl rfl (Zh rfl) (.v 5 [4] rfl rfl (ZQ 32 underlying227 lG) (.v 6 [1,5] rfl rfl (Zw (i:=s2.1) rfl rfl underlying225 Yx rfl h5.1 h5.2 (k:=(s2.1).toNat) (Tz _)) .nil))))))) (fun γ=>?_)
   refine Qj [72,69,3,55] rfl rfl ?_
   refine Qh 7 [] rfl (YR (j:=1) rfl rfl Yx rfl rfl rfl (by simpa using (tl h5)) (cs':=e64 ((vp s2.2 ((s2.1).toNat) Gu.1).toList)) VR) (fun _=>rfl) (fun _=>?_)
   refine Iy 1 (congrArg (fun z:Vx 64 16=>e64 (Vector.toList z)) hm_3) ?_
   refine Vi ?_
   refine ZW (Z7 (ZH (ZV (ZT XN) ?_)))
   refine YP ?_
   refine ZK ?_
   obtain rfl:=sj H
   exact Ri [0,0,0,0] (hK (ZJ (s2.1+1),IV) rfl ())
  refine YW (Z0 (Z0 ?_))
  obtain rfl:=sj H
  exact WW [0,0,0,0] (hE s2.2 rfl ())
 intro g
 refine ZL (Z7 (Z_ (Zj 2 rfl ?_)))
 refine Zq ?_
 obtain rfl:=sj H
 exact JK b2 [0,0,0,0] (vs:=[_]) rfl ⟨rfl,trivial⟩ rfl
open TryzI Tryz
def PV.b0 (b:List (BitVec 8)) (s0:Int × BitVec 64 × BitVec 64):Option ((Int × BitVec 64 × BitVec 64) ⊕ (BitVec 64 × BitVec 64)) :=
 if s0.1<8 then (if 0≤s0.1∧s0.1<((b).length:Int) then (if 0≤ZJ (8+s0.1)∧ZJ (8+s0.1)<((b).length:Int) then (some (.inl (ZJ (s0.1+1),(s0.2.1 <<< 8) ||| ((lg b ((s0.1).toNat)).setWidth 64),(s0.2.2 <<< 8) ||| ((lg b ((ZJ (8+s0.1)).toNat)).setWidth 64)))) else none) else none) else (some (.inr (s0.2.1,s0.2.2)))
def PV (b:List (BitVec 8)):Option (BitVec 64 × BitVec 64) :=
 (loop (PV.b0 b) BIG (0,0#64,0#64)).bind fun Yw=>(some (Yw.1,Yw.2))
theorem C_ {Ab:Y6} {cb:Nat} {b:List (BitVec 8)} (hcb:(b).length≤cb) {r:BitVec 64 × BitVec 64} (H:PV b=some r) :
  Does Tryz.prog 143 [sl Ab ((b).length) cb] [] [⟨Ab,e8 b⟩] (Γ:=Unit) (fun g=>aG [(1,[v64 r.1]),(1,[v64 r.2])]) (fun g=>[]):=by
 intro w hmem hro hd
 refine Zn func143 rfl ntmps143 rfl hmem hro hd ?_
 unfold PV at H
 refine Z_ (YE (Wh [(1,[v64 0#64]),(1,[v64 0#64])] V3 NK ⟨rfl,rfl,trivial⟩) (fun b1=>?_))
 refine Z6 (Z_ (YE (Wh [(1,[v64 0#64]),(1,[v64 0#64])] V3 NK ⟨rfl,rfl,trivial⟩) (fun b2=>?_)))
 refine Z6 (ZY (Z_ (YP ?_)))
 refine Z6 (ZP ?_)
 have ⟨Yw,Hl,H⟩:=Z9 H
 refine Wz [0,2,3,5] [2,2,0,0] rfl rfl ?_
 refine Yv (id:=0) (body:=(PV.b0 b)) (σ:=Int × BitVec 64 × BitVec 64) (Γ:=Unit) (Γx:=Unit) (fun s0 WG=>[(0,sl Ab ((b).length) cb),(2,ptr (some (b1,0)) 0),(3,ptr (some (b2,0)) 0),(5,vi s0.1)]) (fun s0 WG=>[⟨some (b1,0),[v64 0#64]⟩,⟨some (b1,1),[v64 0#64]⟩,⟨some (b2,0),[v64 s0.2.1]⟩,⟨some (b2,1),[v64 s0.2.2]⟩]) (fun t g=>[(2,ptr (some (b1,0)) 0),(3,ptr (some (b2,0)) 0)]) (fun t g=>[⟨some (b1,0),[v64 0#64]⟩,⟨some (b1,1),[v64 0#64]⟩,⟨some (b2,0),[v64 t.1]⟩,⟨some (b2,1),[v64 t.2]⟩]) ?_ BIG (0,0#64,0#64) () Yw Hl ?_
 ·intro s0 WG r1 H K hK hE
  unfold PV.b0 at H
  refine Z_ (ZV (ZT WV) ?_)
  refine Z6 (ZY (UK H (fun hc H=>?_) (fun hc H=>?_)))
  ·refine ZN (Z7 (ZY (ZP (Z_ (Zj 2 rfl ?_)))))
   refine Z6 (ZY ?_)
   have ⟨h1,H⟩:=Z4 H
   refine U3 [] 11 rfl ?_
   refine PX 1 [] (.v 0 [] rfl rfl (ZQ 0 underlying216 Yx) (.v 1 [0] rfl rfl (Z8 rfl (.o 2) rfl isAgg115) (.v 2 [1] rfl rfl (Zg rfl rfl (fun w=>Iw w s0.2.1 .u64 8 (by decide))) (.v 3 [] rfl rfl (ZO rfl) (.v 4 [] rfl rfl (ZO rfl) (.v 5 [3,4] rfl rfl (YK (i:=s0.1) rfl rfl underlying86 Yn rfl (.r 0) (Uf (tl h1)) h1.1 h1.2 (k:=(s0.1).toNat) (JZ _)) (.v 6 [5] rfl rfl (Z8 rfl (.r 0) (UL (f:=v8) (l:=b) (tl h1)) isAgg5) (.v 7 [6] rfl rfl (Vu rfl (fun w=>GV w _ _ underlying115 (zh) (lg b ((s0.1).toNat)))) (.v 8 [2,7] rfl rfl (V9 zg rfl rfl) (.v 9 [] rfl rfl (ZQ 0 underlying216 Yx) .nil)))))))))) (fun γ=>?_)
   refine Qj [17,16,4,0,2,3,5] rfl rfl ?_
   refine Qh 10 [] rfl (YR (j:=2) rfl rfl Yx rfl rfl rfl (Nat.lt_succ_self 0) (cs':=[v64 ((s0.2.1 <<< 8) ||| ((lg b ((s0.1).toNat)).setWidth 64))]) rfl) (fun _=>rfl) (fun _=>?_)
   refine Vi ?_
   refine Z7 ?_
   have ⟨h2,H⟩:=Z4 H
   refine U3 [] 12 rfl ?_
   refine PX 1 [] (.v 0 [] rfl rfl (ZQ 1 underlying216 Yx) (.v 1 [0] rfl rfl (Z8 rfl (.o 3) rfl isAgg115) (.v 2 [1] rfl rfl (Zg rfl rfl (fun w=>Iw w s0.2.2 .u64 8 (by decide))) (.v 3 [] rfl rfl (ZO rfl) (.v 4 [] rfl rfl (ZO rfl) (.v 5 [4] rfl rfl (V9 XN rfl rfl) (.v 6 [3,5] rfl rfl (YK (i:=ZJ (8+s0.1)) rfl rfl underlying86 Yn rfl (.r 0) (Uf (tl h2)) h2.1 h2.2 (k:=(ZJ (8+s0.1)).toNat) (JZ _)) (.v 7 [6] rfl rfl (Z8 rfl (.r 0) (UL (f:=v8) (l:=b) (tl h2)) isAgg5) (.v 8 [7] rfl rfl (Vu rfl (fun w=>GV w _ _ underlying115 (zh) (lg b ((ZJ (8+s0.1)).toNat)))) (.v 9 [8,2] rfl rfl (V9 zg rfl rfl) (.v 10 [] rfl rfl (ZQ 1 underlying216 Yx) .nil))))))))))) (fun γ=>?_)
   refine Qj [28,27,0,2,3,5] rfl rfl ?_
   refine Qh 11 [] rfl (YR (j:=3) rfl rfl Yx rfl rfl rfl (Nat.lt_succ_self 0) (cs':=[v64 ((s0.2.2 <<< 8) ||| ((lg b ((ZJ (8+s0.1)).toNat)).setWidth 64))]) rfl) (fun _=>rfl) (fun _=>?_)
   refine Vi ?_
   refine ZW (Z7 (ZH (ZV (ZT XN) ?_)))
   refine YP ?_
   refine ZK ?_
   obtain rfl:=sj H
   exact Ri [0,0,0,0] (hK (ZJ (s0.1+1),(s0.2.1 <<< 8) ||| ((lg b ((s0.1).toNat)).setWidth 64),(s0.2.2 <<< 8) ||| ((lg b ((ZJ (8+s0.1)).toNat)).setWidth 64)) rfl ())
  refine YW (Z0 (Z0 ?_))
  obtain rfl:=sj H
  exact WW [0,0,0,0] (hE (s0.2.1,s0.2.2) rfl ())
 intro g
 refine ZL (Z7 (Z_ (ZV (VY [2,3] rfl rfl isAgg216 V3) ?_)))
 refine VM (VZ [0,0] rfl rfl V3) (fun _=>?_)
 refine Zq ?_
 obtain rfl:=sj H
 exact SF (vs:=[_]) rfl ⟨(Wp [0,1] rfl rfl isAgg216 V3),trivial⟩
open TryzI Tryz
def TS.b0 (Uc:Vector (BitVec 64 × BitVec 64) 16) (Tu:Vx 64 16) (U1 TI:BitVec 64) (Zu:BitVec 64 × BitVec 64) (s0:Int × BitVec 64 × BitVec 64):Option ((Int × BitVec 64 × BitVec 64) ⊕ (BitVec 64 × BitVec 64)) :=
 if s0.1<32 then (if 0≤ZJ (4 * (s0.1.tmod 16)) then (X5 (((Zu.2 ^^^ TI) >>> (ZJ (4 * (s0.1.tmod 16))).toNat) &&& 15#64) fun nz=>((if 16≤s0.1 then (if 0≤ZJ (4 * (s0.1.tmod 16)) then (X5 (((Zu.1 ^^^ U1) >>> (ZJ (4 * (s0.1.tmod 16))).toNat) &&& 15#64) fun lH=>(some lH)) else none) else (some nz)).bind fun j1=>(if 0≤((s0.2.2 &&& 15#64).toNat:Int)∧((s0.2.2 &&& 15#64).toNat:Int)<(16:Int) then (if 0≤((j1).toNat:Int)∧((j1).toNat:Int)<(16:Int) then (if 0≤((j1).toNat:Int)∧((j1).toNat:Int)<(16:Int) then (some (.inl (ZJ (s0.1+1),((s0.2.1 >>> 4) ^^^ (vg Tu ((s0.2.2 &&& 15#64).toNat))) ^^^ ((vg Uc ((j1).toNat)).1),((s0.2.2 >>> 4) ||| (s0.2.1 <<< 60)) ^^^ ((vg Uc ((j1).toNat)).2)))) else none) else none) else none))) else none) else (some (.inr (s0.2.1,s0.2.2)))
def TS (Uc:Vector (BitVec 64 × BitVec 64) 16) (Tu:Vx 64 16) (U1 TI:BitVec 64) (b:List (BitVec 8)):Option (BitVec 64 × BitVec 64) :=
 (PV b).bind fun Zu=>((loop (TS.b0 Uc Tu U1 TI Zu) BIG (0,0#64,0#64)).bind fun Yw=>(some (Yw.1,Yw.2)))
theorem H8 {bs:Nat} {obs:Nat} {Ab:Y6} {cb:Nat} {Uc:Vector (BitVec 64 × BitVec 64) 16} {Tu:Vx 64 16} {U1:BitVec 64} {TI:BitVec 64} {b:List (BitVec 8)} (hcb:(b).length≤cb) {r:BitVec 64 × BitVec 64} (H:TS Uc Tu U1 TI b=some r) :
  Does Tryz.prog 147 [ptr (some (bs,obs)) 0,sl Ab ((b).length) cb] [⟨some (bs,obs+48),[v64 U1]⟩,⟨some (bs,obs+49),[v64 TI]⟩] [⟨some (bs,obs),eF (fun p:BitVec 64 × BitVec 64=>[v64 p.1,v64 p.2]) Uc.toList⟩,⟨some (bs,obs+32),e64 Tu.toList⟩,⟨Ab,e8 b⟩] (Γ:=Unit) (fun g=>Value.tuple [].toArray) (fun g=>[⟨some (bs,obs+48),[v64 r.1]⟩,⟨some (bs,obs+49),[v64 r.2]⟩]):=by
 intro w hmem hro hd
 refine Zn func147 rfl ntmps147 rfl hmem hro hd ?_
 unfold TS at H
 refine Z_ (YP ?_)
 have ⟨Zu,Yk,H⟩:=Z9 H
 refine YE (Y4 (C_ hcb Yk :) call143 ⟨.r 2,trivial⟩) (fun Re=>?_)
 refine YE (Wh [(1,[v64 0#64]),(1,[v64 0#64])] V3 NK ⟨rfl,rfl,trivial⟩) (fun b1=>?_)
 refine VM (VZ [0,0] rfl rfl V3) (fun _=>?_)
 refine Z6 (ZY (U3 [] 10 rfl ?_))
 refine PX 1 [] (.v 0 [] rfl rfl (ZQ 0 underlying216 Yx) (.v 1 [0] rfl rfl (Z8 rfl (.o 0) rfl isAgg115) (.v 2 [] rfl rfl (ZO rfl) (.v 3 [2] rfl rfl (Zh rfl) (.v 4 [3] rfl rfl (ZQ 48 underlying227 V3) (.v 5 [4] rfl rfl (ZQ 0 underlying216 Yx) (.v 6 [5] rfl rfl (Z8 rfl (.o 2) rfl isAgg115) (.v 7 [6,1] rfl rfl (V9 K3 rfl rfl) (.v 8 [] rfl rfl (ZQ 0 underlying216 Yx) .nil))))))))) (fun γ=>?_)
 refine Qj [18,17,4,0] rfl rfl ?_
 refine Qh 9 [] rfl (YR (j:=0) rfl rfl Yx rfl rfl rfl (Nat.lt_succ_self 0) (cs':=[v64 (Zu.1 ^^^ U1)]) rfl) (fun _=>rfl) (fun _=>?_)
 refine Vi ?_
 refine Z7 (ZY (U3 [] 10 rfl ?_))
 refine PX 1 [] (.v 0 [] rfl rfl (ZQ 1 underlying216 Yx) (.v 1 [0] rfl rfl (Z8 rfl (.o 1) rfl isAgg115) (.v 2 [] rfl rfl (ZO rfl) (.v 3 [2] rfl rfl (Zh rfl) (.v 4 [3] rfl rfl (ZQ 48 underlying227 V3) (.v 5 [4] rfl rfl (ZQ 1 underlying216 Yx) (.v 6 [5] rfl rfl (Z8 rfl (.o 3) rfl isAgg115) (.v 7 [6,1] rfl rfl (V9 K3 rfl rfl) (.v 8 [] rfl rfl (ZQ 1 underlying216 Yx) .nil))))))))) (fun γ=>?_)
 refine Qj [27,26,4,0] rfl rfl ?_
 refine Qh 9 [] rfl (YR (j:=1) rfl rfl Yx rfl rfl rfl (Nat.lt_succ_self 0) (cs':=[v64 (Zu.2 ^^^ TI)]) rfl) (fun _=>rfl) (fun _=>?_)
 refine Vi ?_
 refine Z7 (Z_ (YE (Wh [(1,[v64 0#64]),(1,[v64 0#64])] V3 NK ⟨rfl,rfl,trivial⟩) (fun b2=>?_)))
 refine Z6 (ZY (Z_ (YP ?_)))
 refine Z6 (ZP ?_)
 have ⟨Yw,Hl,H⟩:=Z9 H
 refine Wz [0,4,5,28] [4,4,2,2,0,0] rfl rfl ?_
 refine Yv (id:=0) (body:=(TS.b0 Uc Tu U1 TI Zu)) (σ:=Int × BitVec 64 × BitVec 64) (Γ:=Unit) (Γx:=Unit) (fun s0 WG=>[(0,ptr (some (bs,obs)) 0),(4,ptr (some (b1,0)) 0),(5,ptr (some (b2,0)) 0),(28,vi s0.1)]) (fun s0 WG=>[⟨some (bs,obs+48),[v64 U1]⟩,⟨some (bs,obs+49),[v64 TI]⟩,⟨some (b1,0),[v64 (Zu.1 ^^^ U1)]⟩,⟨some (b1,1),[v64 (Zu.2 ^^^ TI)]⟩,⟨some (b2,0),[v64 s0.2.1]⟩,⟨some (b2,1),[v64 s0.2.2]⟩]) (fun t g=>[(0,ptr (some (bs,obs)) 0),(5,ptr (some (b2,0)) 0)]) (fun t g=>[⟨some (bs,obs+48),[v64 U1]⟩,⟨some (bs,obs+49),[v64 TI]⟩,⟨some (b2,0),[v64 t.1]⟩,⟨some (b2,1),[v64 t.2]⟩]) ?_ BIG (0,0#64,0#64) () Yw Hl ?_
 ·intro s0 WG r1 H K hK hE
  unfold TS.b0 at H
  refine Z_ (ZV (ZT WV) ?_)
  refine Z6 (ZY (UK H (fun hc H=>?_) (fun hc H=>?_)))
  ·refine ZN (Z7 (ZY (ZP (Z_ (Zj 2 rfl ?_)))))
   refine Z6 (Z_ (ZV (ZQ 1 underlying216 Yx) ?_))
   refine ZV (Z8 rfl (.o 3) rfl isAgg115) ?_
   refine YP ?_
   refine ZV (Zg rfl rfl (fun w=>Jg w s0.1 16 (by decide))) ?_
   refine ZV (ZT Ma) ?_
   have ⟨h1,H⟩:=Z4 H
   refine ZV (Zg rfl rfl (fun w=>Pi w (Zu.2 ^^^ TI) .i64 (ZJ (4 * (s0.1.tmod 16))) h1)) ?_
   refine ZV (Zg rfl rfl (fun w=>MZ w ((Zu.2 ^^^ TI) >>> (ZJ (4 * (s0.1.tmod 16))).toNat) 15#64)) ?_
   refine Y2 ?_
   have ⟨nz,hdigit1,H⟩:=ZX H
   refine WN 7 (congrArg v64 hdigit1) ?_
   refine Z6 (ZY (Z_ (YP ?_)))
   refine ZV (ZT LD) ?_
   refine Z6 ?_
   have ⟨j1,Hj,H⟩:=Z9 H
   refine Ns (Γ:=Unit) (fun Sc=>[(0,ptr (some (bs,obs)) 0),(4,ptr (some (b1,0)) 0),(5,ptr (some (b2,0)) 0),(7,v64 j1),(28,vi s0.1)]) (fun Sc=>[⟨some (bs,obs+48),[v64 U1]⟩,⟨some (bs,obs+49),[v64 TI]⟩,⟨some (b1,0),[v64 (Zu.1 ^^^ U1)]⟩,⟨some (b1,1),[v64 (Zu.2 ^^^ TI)]⟩,⟨some (b2,0),[v64 s0.2.1]⟩,⟨some (b2,1),[v64 s0.2.2]⟩]) ?_ ?_
   ·intro Sc
    refine Z7 (ZY ?_)
    have ⟨h2,H⟩:=Z4 H
    refine U3 [] 21 rfl ?_
    refine PX 1 [] (.v 0 [] rfl rfl (ZQ 0 underlying216 Yx) (.v 1 [0] rfl rfl (Z8 rfl (.o 4) rfl isAgg115) (.v 2 [1] rfl rfl (Zg rfl rfl (fun w=>Pi w s0.2.1 .u64 4 (by decide))) (.v 3 [] rfl rfl (ZO rfl) (.v 4 [] rfl rfl (ZQ 1 underlying216 Yx) (.v 5 [4] rfl rfl (Z8 rfl (.o 5) rfl isAgg115) (.v 6 [5] rfl rfl (Zg rfl rfl (fun w=>MZ w s0.2.2 15#64)) (.v 7 [3] rfl rfl (Zh rfl) (.v 8 [7] rfl rfl (ZQ 32 underlying227 lG) (.v 9 [6,8] rfl rfl (Zw (i:=((s0.2.2 &&& 15#64).toNat:Int)) rfl rfl underlying225 Yx rfl h2.1 h2.2 (k:=(s0.2.2 &&& 15#64).toNat) (Tz _)) (.v 10 [9] rfl rfl (Z8 rfl (.r 1) (YL (f:=v64) (V:=Tu) (tl h2)) isAgg115) (.v 11 [2,10] rfl rfl (V9 K3 rfl rfl) (.v 12 [] rfl rfl (ZQ 1 underlying216 Yx) (.v 13 [12] rfl rfl (Z8 rfl (.o 5) rfl isAgg115) (.v 14 [13] rfl rfl (Zg rfl rfl (fun w=>Pi w s0.2.2 .u64 4 (by decide))) (.v 15 [] rfl rfl (ZQ 0 underlying216 Yx) (.v 16 [15] rfl rfl (Z8 rfl (.o 4) rfl isAgg115) (.v 17 [16] rfl rfl (Zg rfl rfl (fun w=>Iw w s0.2.1 .u64 60 (by decide))) (.v 18 [17,14] rfl rfl (V9 zg rfl rfl) (.v 19 [18,11] rfl rfl (Y9 (pv:=[(0,v64 ((s0.2.1 >>> 4) ^^^ (vg Tu ((s0.2.2 &&& 15#64).toNat)))),(1,v64 ((s0.2.2 >>> 4) ||| (s0.2.1 <<< 60)))]) (pl:=[(0,1),(1,1)]) rfl rfl underlying216 V3 IK NK (cs:=flat [(1,[v64 ((s0.2.1 >>> 4) ^^^ (vg Tu ((s0.2.2 &&& 15#64).toNat)))]),(1,[v64 ((s0.2.2 >>> 4) ||| (s0.2.1 <<< 60))])]) (by kernel_rfl)) .nil)))))))))))))))))))) (fun γ=>?_)
    refine Qj [66,0,4,5,7,28] rfl rfl ?_
    refine Qh 20 [] rfl (VZ [4,4] rfl rfl V3) (fun _=>rfl) (fun _=>?_)
    refine Vi ?_
    refine Z7 (ZY ?_)
    have ⟨h3,H⟩:=Z4 H
    refine U3 [] 12 rfl ?_
    refine PX 1 [] (.v 0 [] rfl rfl (ZQ 0 underlying216 Yx) (.v 1 [0] rfl rfl (Z8 rfl (.o 0) rfl isAgg115) (.v 2 [] rfl rfl (ZO rfl) (.v 3 [] rfl rfl (ZO rfl) (.v 4 [2] rfl rfl (Zh rfl) (.v 5 [4] rfl rfl (ZQ 0 underlying227 Gd) (.v 6 [5,3] rfl rfl (Zw (i:=((j1).toNat:Int)) rfl rfl underlying224 V3 rfl h3.1 h3.2 (k:=((j1).toNat) * 2) (k0 _ _)) (.v 7 [6] rfl rfl (Vk rfl underlying216 rfl (k:=0) rfl Yx rfl) (.v 8 [7] rfl rfl (Z8 rfl (.r 0) ((UM (g:=fun p:BitVec 64 × BitVec 64=>[v64 p.1,v64 p.2]) (s:=2) (fun _=>rfl) Uc.toList ((j1).toNat) 0 (Ke (tl h3)) (by decide:0<2)).trans rfl) isAgg115) (.v 9 [8,1] rfl rfl (V9 K3 rfl rfl) (.v 10 [] rfl rfl (ZQ 0 underlying216 Yx) .nil))))))))))) (fun γ=>?_)
    refine Qj [77,76,0,4,5,7,28] rfl rfl ?_
    refine Qh 11 [] rfl (YR (j:=0) rfl rfl Yx rfl rfl rfl (Nat.lt_succ_self 0) (cs':=[v64 (((s0.2.1 >>> 4) ^^^ (vg Tu ((s0.2.2 &&& 15#64).toNat))) ^^^ ((vg Uc ((j1).toNat)).1))]) rfl) (fun _=>rfl) (fun _=>?_)
    refine Vi ?_
    refine Z7 ?_
    have ⟨h4,H⟩:=Z4 H
    refine U3 [] 12 rfl ?_
    refine PX 1 [] (.v 0 [] rfl rfl (ZQ 1 underlying216 Yx) (.v 1 [0] rfl rfl (Z8 rfl (.o 1) rfl isAgg115) (.v 2 [] rfl rfl (ZO rfl) (.v 3 [] rfl rfl (ZO rfl) (.v 4 [2] rfl rfl (Zh rfl) (.v 5 [4] rfl rfl (ZQ 0 underlying227 Gd) (.v 6 [3,5] rfl rfl (Zw (i:=((j1).toNat:Int)) rfl rfl underlying224 V3 rfl h4.1 h4.2 (k:=((j1).toNat) * 2) (k0 _ _)) (.v 7 [6] rfl rfl (Vk rfl underlying216 rfl (k:=1) rfl Yx rfl) (.v 8 [7] rfl rfl (Z8 rfl (.r 0) ((UM (g:=fun p:BitVec 64 × BitVec 64=>[v64 p.1,v64 p.2]) (s:=2) (fun _=>rfl) Uc.toList ((j1).toNat) 1 (Ke (tl h4)) (by decide:1<2)).trans rfl) isAgg115) (.v 9 [8,1] rfl rfl (V9 K3 rfl rfl) (.v 10 [] rfl rfl (ZQ 1 underlying216 Yx) .nil))))))))))) (fun γ=>?_)
    refine Qj [88,87,0,4,5,28] rfl rfl ?_
    refine Qh 11 [] rfl (YR (j:=1) rfl rfl Yx rfl rfl rfl (Nat.lt_succ_self 0) (cs':=[v64 (((s0.2.2 >>> 4) ||| (s0.2.1 <<< 60)) ^^^ ((vg Uc ((j1).toNat)).2))]) rfl) (fun _=>rfl) (fun _=>?_)
    refine Vi ?_
    refine ZW (Z7 (ZH (ZV (ZT XN) ?_)))
    refine YP ?_
    refine ZK ?_
    obtain rfl:=sj H
    exact Ri [2,2,2,2,0,0] (hK (ZJ (s0.1+1),((s0.2.1 >>> 4) ^^^ (vg Tu ((s0.2.2 &&& 15#64).toNat))) ^^^ ((vg Uc ((j1).toNat)).1),((s0.2.2 >>> 4) ||| (s0.2.1 <<< 60)) ^^^ ((vg Uc ((j1).toNat)).2)) rfl ())
   intro hJ
   replace H:=Hj
   refine UK H (fun hc H=>?_) (fun hc H=>?_)
   ·refine ZH (ZV (ZQ 0 underlying216 Yx) ?_)
    refine ZV (Z8 rfl (.o 2) rfl isAgg115) ?_
    refine YP ?_
    refine ZV (Zg rfl rfl (fun w=>Jg w s0.1 16 (by decide))) ?_
    refine ZV (ZT Ma) ?_
    have ⟨h5,H⟩:=Z4 H
    refine ZV (Zg rfl rfl (fun w=>Pi w (Zu.1 ^^^ U1) .i64 (ZJ (4 * (s0.1.tmod 16))) h5)) ?_
    refine ZV (Zg rfl rfl (fun w=>MZ w ((Zu.1 ^^^ U1) >>> (ZJ (4 * (s0.1.tmod 16))).toNat) 15#64)) ?_
    refine Y2 ?_
    have ⟨lH,hdigit2,H⟩:=ZX H
    refine WN 7 (congrArg v64 hdigit2) ?_
    refine ZK ?_
    obtain rfl:=sj H
    exact WW [0,0,0,0,0,0] (hJ ())
   refine ZN ?_
   obtain rfl:=sj H
   exact WW [0,0,0,0,0,0] (hJ ())
  refine YW (Z0 (Z0 ?_))
  obtain rfl:=sj H
  exact WW [0,0,2,2] (hE (s0.2.1,s0.2.2) rfl ())
 intro g
 refine ZL (Z7 (ZH (YP ?_)))
 refine ZV (VY [2,3] rfl rfl isAgg216 V3) ?_
 refine ZV (Zh rfl) ?_
 refine ZV (ZQ 48 underlying227 V3) ?_
 refine VM (bD (b:=bs) (o:=obs+48) [0,0] [(1,[v64 U1]),(1,[v64 TI])] [(1,[v64 Yw.1]),(1,[v64 Yw.2])] rfl V3 ⟨rfl,rfl,trivial⟩ ⟨rfl,rfl,trivial⟩ ⟨(S_.cons rfl S_.nil),(S_.cons rfl S_.nil),trivial⟩) (fun _=>?_)
 refine ZK ?_
 obtain rfl:=sj H
 exact Kv (rs:=[]) (vs:=[]) rfl trivial (fun w' hs'=>⟨(),rfl,Step.left (Step.pulled (is:=[0,0]) (A:=[⟨some (bs,obs+48),[v64 Yw.1]⟩,⟨some (bs,obs+49),[v64 Yw.2]⟩]) hs' rfl)⟩)
open TryzI Tryz
def Vz.b0  (s0:BitVec 64 × BitVec 64 × BitVec 64 × BitVec 64 × BitVec 64 × BitVec 64 × Int):Option ((BitVec 64 × BitVec 64 × BitVec 64 × BitVec 64 × BitVec 64 × BitVec 64 × Int) ⊕ (BitVec 64 × BitVec 64)) :=
 if s0.2.2.2.2.2.2<128 then ((if 63<s0.2.2.2.2.2.2 then (X5 (s0.2.1 >>> 63) fun qg=>(some (s0.1,s0.2.1 <<< 1,qg))) else (some (s0.1 <<< 1,s0.2.1,s0.1 >>> 63))).bind fun j1=>((if j1.2.2=1#64 then (X5 (s0.2.2.2.2.1 ^^^ s0.2.2.1) fun x1=>(X5 (s0.2.2.2.2.2.1 ^^^ s0.2.2.2.1) fun y1=>(some (x1,y1)))) else (some (s0.2.2.2.2.1,s0.2.2.2.2.2.1))).bind fun j2=>(X5 (s0.2.2.2.1 &&& 1#64) fun aO=>(X5 ((s0.2.2.2.1 >>> 1) ||| (s0.2.2.1 <<< 63)) fun d1=>(X5 (s0.2.2.1 >>> 1) fun c1=>(if aO=1#64 then (X5 (c1 ^^^ 16212958658533785600#64) fun c2=>(X5 (ZJ (s0.2.2.2.2.2.2+1)) fun i1=>(some (.inl (j1.1,j1.2.1,c2,d1,j2.1,j2.2,i1))))) else (X5 (ZJ (s0.2.2.2.2.2.2+1)) fun i2=>(some (.inl (j1.1,j1.2.1,c1,d1,j2.1,j2.2,i2)))))))))) else (some (.inr (s0.2.2.2.2.1,s0.2.2.2.2.2.1)))
def Vz (a_ b:BitVec 64) (c d:BitVec 64):Option (BitVec 64 × BitVec 64) :=
 (loop (Vz.b0) BIG (a_,b,c,d,0#64,0#64,0)).bind fun Yw=>(some (Yw.1,Yw.2))
theorem xq {a_:BitVec 64} {b:BitVec 64} {c:BitVec 64} {d:BitVec 64} {r:BitVec 64 × BitVec 64} (H:Vz a_ b c d=some r) :
  Does Tryz.prog 117 [v64 a_,v64 b,v64 c,v64 d] [] [] (Γ:=Unit) (fun g=>Value.tuple [v64 r.1,v64 r.2].toArray) (fun g=>[]):=by
 intro w hmem hro hd
 refine Zn func117 rfl ntmps117 rfl hmem hro hd ?_
 unfold Vz at H
 refine Z_ (Zj 2 rfl ?_)
 refine Z6 (Z_ (Zj 2 rfl ?_))
 refine Z6 (ZY (Z_ (Y2 ?_)))
 refine Z6 (ZP ?_)
 have ⟨Yw,Hl,H⟩:=Z9 H
 refine Wz [0,1,2,3,10,11,12] [] rfl rfl ?_
 refine Yv (id:=0) (body:=(Vz.b0)) (σ:=BitVec 64 × BitVec 64 × BitVec 64 × BitVec 64 × BitVec 64 × BitVec 64 × Int) (Γ:=Unit) (Γx:=Unit) (fun s0 WG=>[(0,v64 s0.1),(1,v64 s0.2.1),(2,v64 s0.2.2.1),(3,v64 s0.2.2.2.1),(10,v64 s0.2.2.2.2.1),(11,v64 s0.2.2.2.2.2.1),(12,vi s0.2.2.2.2.2.2)]) (fun s0 WG=>[]) (fun t g=>[(10,v64 t.1),(11,v64 t.2)]) (fun t g=>[]) ?_ BIG (a_,b,c,d,0#64,0#64,0) () Yw Hl ?_
 ·intro s0 WG r1 H K hK hE
  unfold Vz.b0 at H
  refine ZY (Z_ (YP ?_))
  refine ZV (ZT WV) ?_
  refine Z6 (UK H (fun hc H=>?_) (fun hc H=>?_))
  ·refine ZN (Z7 (ZY (ZP (Z_ (YP ?_)))))
   refine ZV (Zg rfl rfl (fun w=>Pi w s0.1 .u64 63 (by decide))) ?_
   refine Y2 ?_
   refine Z6 (ZY (Z_ (YP ?_)))
   refine ZV (ZT Sv) ?_
   refine Z6 ?_
   have ⟨j1,Hj,H⟩:=Z9 H
   refine Ns (Γ:=Unit) (fun Sc=>[(0,v64 j1.1),(1,v64 j1.2.1),(2,v64 s0.2.2.1),(3,v64 s0.2.2.2.1),(10,v64 s0.2.2.2.2.1),(11,v64 s0.2.2.2.2.2.1),(12,vi s0.2.2.2.2.2.2),(13,v64 j1.2.2)]) (fun Sc=>[]) ?_ ?_
   ·intro Sc
    refine Z7 (ZY (Z_ (YP ?_)))
    refine ZV (Zg rfl rfl (fun w=>Cx w j1.2.2 1#64)) ?_
    refine Z6 ?_
    have ⟨j2,Hj,H⟩:=Z9 H
    refine Ns (Γ:=Unit) (fun sQ=>[(0,v64 j1.1),(1,v64 j1.2.1),(2,v64 s0.2.2.1),(3,v64 s0.2.2.2.1),(10,v64 j2.1),(11,v64 j2.2),(12,vi s0.2.2.2.2.2.2)]) (fun sQ=>[]) ?_ ?_
    ·intro sQ
     refine Z7 (Z_ (YP ?_))
     refine ZV (Zg rfl rfl (fun w=>MZ w s0.2.2.2.1 1#64)) ?_
     refine Y2 ?_
     have ⟨aO,hlow1,H⟩:=ZX H
     refine WN 14 (congrArg v64 hlow1) ?_
     refine Z6 (Z_ (YP ?_))
     refine ZV (Zg rfl rfl (fun w=>Pi w s0.2.2.2.1 .u64 1 (by decide))) ?_
     refine YP ?_
     refine ZV (Zg rfl rfl (fun w=>Iw w s0.2.2.1 .u64 63 (by decide))) ?_
     refine ZV (ZT zg) ?_
     refine Y2 ?_
     have ⟨d1,hd1,H⟩:=ZX H
     refine WN 3 (congrArg v64 hd1) ?_
     refine Z6 (Z_ (YP ?_))
     refine ZV (Zg rfl rfl (fun w=>Pi w s0.2.2.1 .u64 1 (by decide))) ?_
     refine Y2 ?_
     have ⟨c1,hc1,H⟩:=ZX H
     refine WN 2 (congrArg v64 hc1) ?_
     refine Z6 (Z_ (YP ?_))
     refine ZV (Zg rfl rfl (fun w=>Cx w aO 1#64)) ?_
     refine Z6 (UK H (fun hc H=>?_) (fun hc H=>?_))
     ·refine ZH (YP ?_)
      refine ZV (Zg rfl rfl (fun w=>K3 w c1 16212958658533785600#64)) ?_
      refine Y2 ?_
      have ⟨c2,jZ,H⟩:=ZX H
      refine WN 2 (congrArg v64 jZ) ?_
      refine ZK (ZW (Z7 (ZH (YP ?_))))
      refine ZV (ZT XN) ?_
      refine Y2 ?_
      have ⟨i1,Ll,H⟩:=ZX H
      refine WN 12 (congrArg vi Ll) ?_
      refine ZK ?_
      obtain rfl:=sj H
      exact Ri [] (hK (j1.1,j1.2.1,c2,d1,j2.1,j2.2,i1) rfl ())
     refine ZN (ZW (Z7 (ZH (YP ?_))))
     refine ZV (ZT XN) ?_
     refine Y2 ?_
     have ⟨i2,Ca,H⟩:=ZX H
     refine WN 12 (congrArg vi Ca) ?_
     refine ZK ?_
     obtain rfl:=sj H
     exact Ri [] (hK (j1.1,j1.2.1,c1,d1,j2.1,j2.2,i2) rfl ())
    intro hJ
    replace H:=Hj
    refine UK H (fun hc H=>?_) (fun hc H=>?_)
    ·refine Z_ (Zj 2 rfl ?_)
     refine ZV (ZT K3) ?_
     refine Y2 ?_
     have ⟨x1,TK,H⟩:=ZX H
     refine WN 10 (congrArg v64 TK) ?_
     refine Z6 (ZH (Zj 2 rfl ?_))
     refine ZV (ZT K3) ?_
     refine Y2 ?_
     have ⟨y1,hy1,H⟩:=ZX H
     refine WN 11 (congrArg v64 hy1) ?_
     refine ZK ?_
     obtain rfl:=sj H
     exact WW [] (hJ ())
    refine ZN ?_
    obtain rfl:=sj H
    exact WW [] (hJ ())
   intro hJ
   replace H:=Hj
   refine UK H (fun hc H=>?_) (fun hc H=>?_)
   ·refine Z_ (YP ?_)
    refine ZV (Zg rfl rfl (fun w=>Pi w s0.2.1 .u64 63 (by decide))) ?_
    refine Y2 ?_
    have ⟨qg,hbit1,H⟩:=ZX H
    refine WN 13 (congrArg v64 hbit1) ?_
    refine Z6 (ZH (YP ?_))
    refine ZV (Zg rfl rfl (fun w=>Iw w s0.2.1 .u64 1 (by decide))) ?_
    refine Y2 ?_
    refine ZK ?_
    obtain rfl:=sj H
    exact WW [] (hJ ())
   refine ZH (YP ?_)
   refine ZV (Zg rfl rfl (fun w=>Iw w s0.1 .u64 1 (by decide))) ?_
   refine Y2 ?_
   refine ZK ?_
   obtain rfl:=sj H
   exact WW [] (hJ ())
  refine YW (Z0 (Z0 ?_))
  obtain rfl:=sj H
  exact WW [] (hE (s0.2.2.2.2.1,s0.2.2.2.2.2.1) rfl ())
 intro g
 refine ZL (Z7 (Z_ (Zj 4 rfl ?_)))
 refine Zq ?_
 obtain rfl:=sj H
 exact IA
end Go.Proofs
end

/-
  Part 10 of the proof of what several laws share.
-/
import Derived.Test.YtkgeoekcnlgfnaaGreatDoorKh9
set_option maxHeartbeats 4000000
set_option maxRecDepth 20000
set_option linter.unusedVariables false
set_option linter.unusedSimpArgs false
section
namespace Go.Proofs
open Go Go.Kx
open Vector (replicate)
open TryzI Tryz
def Zp.b0 (SE:List (Vx 8 16)) (s0:Int × Vx 8 16):Option ((Int × Vx 8 16) ⊕ (Vx 8 16)) :=
 if s0.1<16 then (if 0≤s0.1∧s0.1<(16:Int) then (if 0≤(0:Int)∧(0:Int)<((SE).length:Int) then (if 0≤s0.1∧s0.1<(16:Int) then (if 0≤s0.1∧s0.1<(16:Int) then (X5 (vp s0.2 ((s0.1).toNat) ((vg s0.2 ((s0.1).toNat)) ^^^ (vg (lg SE 0) ((s0.1).toNat)))) fun Xi=>(some (.inl (ZJ (s0.1+1),Xi)))) else none) else none) else none) else none) else (some (.inr s0.2))
def Zp.b2 (O3:Vx 8 256) (s1 s2:Int × Vx 8 16):Option ((Int × Vx 8 16) ⊕ (Vx 8 16)) :=
 if s2.1<16 then (if 0≤(ZJ (s2.1+(ZJ (4 * (s2.1.tmod 4))))).tmod 16∧(ZJ (s2.1+(ZJ (4 * (s2.1.tmod 4))))).tmod 16<(16:Int) then (if 0≤s2.1∧s2.1<(16:Int) then (X5 (vp s2.2 ((s2.1).toNat) (vg O3 ((vg s1.2 (((ZJ (s2.1+(ZJ (4 * (s2.1.tmod 4))))).tmod 16).toNat)).toNat))) fun SV=>(some (.inl (ZJ (s2.1+1),SV)))) else none) else none) else (some (.inr s2.2))
def Zp.b3 (SE:List (Vx 8 16)) (s1:Int × Vx 8 16) (j1:Vx 8 16) (s3:Int × Vx 8 16):Option ((Int × Vx 8 16) ⊕ (Vx 8 16)) :=
 if s3.1<16 then (if 0≤s3.1∧s3.1<(16:Int) then (if 0≤s1.1∧s1.1<((SE).length:Int) then (if 0≤s3.1∧s3.1<(16:Int) then (if 0≤s3.1∧s3.1<(16:Int) then (X5 (vp s3.2 ((s3.1).toNat) ((vg j1 ((s3.1).toNat)) ^^^ (vg (lg SE ((s1.1).toNat)) ((s3.1).toNat)))) fun IV=>(some (.inl (ZJ (s3.1+1),IV)))) else none) else none) else none) else none) else (some (.inr s3.2))
def Zp.b4  (s4:Int × Vx 8 16):Option ((Int × Vx 8 16) ⊕ (Vx 8 16)) :=
 if s4.1<16 then (if 0≤s4.1∧s4.1<(16:Int) then (if 0≤ZJ (s4.1+1)∧ZJ (s4.1+1)<(16:Int) then (if 0≤ZJ (s4.1+2)∧ZJ (s4.1+2)<(16:Int) then (if 0≤ZJ (s4.1+3)∧ZJ (s4.1+3)<(16:Int) then (X5 (vg s4.2 ((s4.1).toNat)) fun p1=>(X5 (vg s4.2 ((ZJ (s4.1+1)).toNat)) fun q1=>(X5 (vg s4.2 ((ZJ (s4.1+2)).toNat)) fun Zu=>(X5 (vg s4.2 ((ZJ (s4.1+3)).toNat)) fun JW=>(X5 (((p1 ^^^ q1) ^^^ Zu) ^^^ JW) fun K8=>(if 0≤s4.1∧s4.1<(16:Int) then ((PP (p1 ^^^ q1)).bind fun YJ=>(if 0≤s4.1∧s4.1<(16:Int) then (X5 (vp s4.2 ((s4.1).toNat) ((vg s4.2 ((s4.1).toNat)) ^^^ (K8 ^^^ YJ))) fun FL=>(if 0≤ZJ (s4.1+1)∧ZJ (s4.1+1)<(16:Int) then ((PP (q1 ^^^ Zu)).bind fun X7=>(if 0≤ZJ (s4.1+1)∧ZJ (s4.1+1)<(16:Int) then (X5 (vp FL ((ZJ (s4.1+1)).toNat) ((vg FL ((ZJ (s4.1+1)).toNat)) ^^^ (K8 ^^^ X7))) fun BH=>(if 0≤ZJ (s4.1+2)∧ZJ (s4.1+2)<(16:Int) then ((PP (Zu ^^^ JW)).bind fun Xu=>(if 0≤ZJ (s4.1+2)∧ZJ (s4.1+2)<(16:Int) then (X5 (vp BH ((ZJ (s4.1+2)).toNat) ((vg BH ((ZJ (s4.1+2)).toNat)) ^^^ (K8 ^^^ Xu))) fun rT=>(if 0≤ZJ (s4.1+3)∧ZJ (s4.1+3)<(16:Int) then ((PP (JW ^^^ p1)).bind fun UC=>(if 0≤ZJ (s4.1+3)∧ZJ (s4.1+3)<(16:Int) then (X5 (vp rT ((ZJ (s4.1+3)).toNat) ((vg rT ((ZJ (s4.1+3)).toNat)) ^^^ (K8 ^^^ UC))) fun m_7=>(X5 (ZJ (s4.1+4)) fun i1=>(some (.inl (i1,m_7))))) else none)) else none)) else none)) else none)) else none)) else none)) else none)) else none)))))) else none) else none) else none) else none) else (some (.inr s4.2))
def Zp.b1 (O3:Vx 8 256) (SE:List (Vx 8 16)) (s1:Int × Vx 8 16):Option ((Int × Vx 8 16) ⊕ (Vx 8 16)) :=
 if s1.1<((SE).length:Int) then ((loop (Zp.b2 O3 s1) BIG (0,replicate 16 0#8)).bind fun KI=>((if s1.1<(ZJ (((SE).length:Int) - 1)) then ((loop (Zp.b4) BIG (0,KI)).bind fun bP=>(some bP)) else (some KI)).bind fun j1=>((loop (Zp.b3 SE s1 j1) BIG (0,s1.2)).bind fun Gu=>(X5 (ZJ (s1.1+1)) fun vU=>(some (.inl (vU,Gu))))))) else (some (.inr s1.2))
def Zp (O3:Vx 8 256) (SE:List (Vx 8 16)) (b:Vx 8 16):Option (Vx 8 16) :=
 (loop (Zp.b0 SE) BIG (0,b)).bind fun Yw=>((loop (Zp.b1 O3 SE) BIG (1,Yw)).bind fun M7=>(some M7))
theorem H9 {bc:Nat} {obc:Nat} {Ac_keys:Y6} {cc_keys:Nat} {O3:Vx 8 256} {SE:List (Vx 8 16)} {b:Vx 8 16} (aaV:(SE).length≤cc_keys) {r:Vx 8 16} (H:Zp O3 SE b=some r) :
  Does Tryz.prog 142 [ptr (some (bc,obc)) 0,aG [(16,e8 b.toList)]] [] [⟨some (bc,obc),e8 O3.toList⟩,⟨some (bc,obc+256),[sl Ac_keys ((SE).length) cc_keys]⟩,⟨Ac_keys,eF (fun V:Vx 8 16=>e8 V.toList) SE⟩] (Γ:=Unit) (fun g=>aG [(16,e8 r.toList)]) (fun g=>[]):=by
 intro w hmem hro hd
 refine Zn func142 rfl ntmps142 rfl hmem hro hd ?_
 unfold Zp at H
 refine Z_ (YE (UN [(16,e8 b.toList)] rfl rfl ⟨(Wl (f:=v8) b),trivial⟩) (fun b1=>?_))
 refine YE (Wh [(16,e8 ((replicate 16 0#8).toList))] UW Pp ⟨(Wl (f:=v8) (replicate 16 0#8)),trivial⟩) (fun b2=>?_)
 refine Z6 (ZY (Z_ (YP ?_)))
 refine Z6 (ZP ?_)
 have ⟨Yw,Hl,H⟩:=Z9 H
 refine Wz [0,3,4,16] [1,0] rfl rfl ?_
 refine Yv (id:=0) (body:=(Zp.b0 SE)) (σ:=Int × Vx 8 16) (Γ:=Unit) (Γx:=Unit) (fun s0 WG=>[(0,ptr (some (bc,obc)) 0),(3,ptr (some (b1,0)) 0),(4,ptr (some (b2,0)) 0),(16,vi s0.1)]) (fun s0 WG=>[⟨some (b1,0),e8 s0.2.toList⟩,⟨some (b2,0),e8 ((replicate 16 0#8).toList)⟩]) (fun t g=>[(0,ptr (some (bc,obc)) 0),(3,ptr (some (b1,0)) 0),(4,ptr (some (b2,0)) 0)]) (fun t g=>[⟨some (b1,0),e8 t.toList⟩,⟨some (b2,0),e8 ((replicate 16 0#8).toList)⟩]) ?_ BIG (0,b) () Yw Hl ?_
 ·intro s0 WG r1 H K hK hE
  unfold Zp.b0 at H
  refine Z_ (ZV (ZT WV) ?_)
  refine Z6 (ZY (UK H (fun hc H=>?_) (fun hc H=>?_)))
  ·refine ZN (Z7 (ZY (ZP (Z_ (Zj 2 rfl ?_)))))
   refine Z6 ?_
   have ⟨h1,H⟩:=Z4 H
   have ⟨h2,H⟩:=Z4 H
   have ⟨h3,H⟩:=Z4 H
   have ⟨h4,H⟩:=Z4 H
   have ⟨Xi,hm_1,H⟩:=ZX H
   refine U3 [] 14 rfl ?_
   refine PX 1 [] (.v 0 [] rfl rfl (ZO rfl) (.v 1 [0] rfl rfl (Zw (i:=s0.1) rfl rfl underlying171 Yn rfl h1.1 h1.2 (k:=(s0.1).toNat) (Tz _)) (.v 2 [1] rfl rfl (Z8 rfl (.o 0) (YL (f:=v8) (V:=s0.2) (tl h1)) isAgg5) (.v 3 [] rfl rfl (ZO rfl) (.v 4 [3] rfl rfl (Zh rfl) (.v 5 [4] rfl rfl (ZQ 256 underlying247 Ii) (.v 6 [5] rfl rfl (Z8 rfl (.r 1) rfl isAgg245) (.v 7 [] rfl rfl (ZO rfl) (.v 8 [6] rfl rfl (YK (i:=0) rfl rfl underlying245 UW rfl (.r 2) (VC (s:=16) (fun _=>by simp) rfl (tl h2)) h2.1 h2.2 (k:=0 * 16) rfl) (.v 9 [7,8] rfl rfl (Zw (i:=s0.1) rfl rfl underlying171 Yn rfl h3.1 h3.2 (k:=0 * 16+(s0.1).toNat) (k1 _ _)) (.v 10 [9] rfl rfl (Z8 rfl (.r 2) ((UM (g:=fun V:Vx 8 16=>e8 V.toList) (s:=16) (fun _=>by simp) SE 0 ((s0.1).toNat) (tl h2) (tl h3)).trans (YL (tl h3))) isAgg5) (.v 11 [10,2] rfl rfl (V9 Sr rfl rfl) (.v 12 [0] rfl rfl (Zw (i:=s0.1) rfl rfl underlying171 Yn rfl h4.1 h4.2 (k:=(s0.1).toNat) (Tz _)) .nil))))))))))))) (fun γ=>?_)
   refine Qj [31,30,0,3,4,16] rfl rfl ?_
   refine Qh 13 [] rfl (YR (j:=0) rfl rfl Yn rfl rfl rfl (by simpa using (tl h4)) (cs':=e8 ((vp s0.2 ((s0.1).toNat) ((vg s0.2 ((s0.1).toNat)) ^^^ (vg (lg SE 0) ((s0.1).toNat)))).toList)) VR) (fun _=>rfl) (fun _=>?_)
   refine Iy 0 (congrArg (fun z:Vx 8 16=>e8 (Vector.toList z)) hm_1) ?_
   refine Vi ?_
   refine ZW (Z7 (ZH (ZV (ZT XN) ?_)))
   refine YP ?_
   refine ZK ?_
   obtain rfl:=sj H
   exact Ri [0,0] (hK (ZJ (s0.1+1),Xi) rfl ())
  refine YW (Z0 (Z0 ?_))
  obtain rfl:=sj H
  exact WW [0,0] (hE s0.2 rfl ())
 intro g
 refine ZL (Z7 (ZY (Z_ (Y2 ?_))))
 refine Z6 (ZP ?_)
 have ⟨M7,Hl,H⟩:=Z9 H
 refine Wz [0,3,4,6] [0,0] rfl rfl ?_
 refine Yv (id:=2) (body:=(Zp.b1 O3 SE)) (σ:=Int × Vx 8 16) (Γ:=Unit) (Γx:=Unit) (fun s1 ME=>[(0,ptr (some (bc,obc)) 0),(3,ptr (some (b1,0)) 0),(4,ptr (some (b2,0)) 0),(6,vi s1.1)]) (fun s1 ME=>[⟨some (b1,0),e8 s1.2.toList⟩,⟨some (b2,0),e8 ((replicate 16 0#8).toList)⟩]) (fun t g=>[(3,ptr (some (b1,0)) 0),(4,ptr (some (b2,0)) 0)]) (fun t g=>[⟨some (b1,0),e8 t.toList⟩,⟨some (b2,0),e8 ((replicate 16 0#8).toList)⟩]) ?_ BIG (1,Yw) () M7 Hl ?_
 ·intro s1 ME r1 H K hK hE
  unfold Zp.b1 at H
  refine ZY (Z_ (Zj 3 rfl ?_))
  refine ZV (ZQ 256 underlying247 Ii) ?_
  refine ZV (Z8 rfl (.r 1) rfl isAgg245) ?_
  refine ZV (ZG rfl underlying245) ?_
  refine ZV (ZT WV) ?_
  refine Z6 (UK H (fun hc H=>?_) (fun hc H=>?_))
  ·refine ZN (Z7 (ZY (ZP (Z_ (YE (Wh [(16,e8 ((replicate 16 0#8).toList))] UW Pp ⟨(Wl (f:=v8) (replicate 16 0#8)),trivial⟩) (fun b3=>?_))))))
   refine Z6 (ZY (Z_ (YP ?_)))
   refine Z6 (ZP ?_)
   have ⟨KI,Hl,H⟩:=Z9 H
   refine Wz [0,3,4,6,7,42] [1,1,0] rfl rfl ?_
   refine Yv (id:=4) (body:=(Zp.b2 O3 s1)) (σ:=Int × Vx 8 16) (Γ:=Unit) (Γx:=Unit) (fun s2 y_=>[(0,ptr (some (bc,obc)) 0),(3,ptr (some (b1,0)) 0),(4,ptr (some (b2,0)) 0),(6,vi s1.1),(7,ptr (some (b3,0)) 0),(42,vi s2.1)]) (fun s2 y_=>[⟨some (b1,0),e8 s1.2.toList⟩,⟨some (b2,0),e8 ((replicate 16 0#8).toList)⟩,⟨some (b3,0),e8 s2.2.toList⟩]) (fun t g=>[(0,ptr (some (bc,obc)) 0),(3,ptr (some (b1,0)) 0),(4,ptr (some (b2,0)) 0),(6,vi s1.1),(7,ptr (some (b3,0)) 0)]) (fun t g=>[⟨some (b1,0),e8 s1.2.toList⟩,⟨some (b2,0),e8 ((replicate 16 0#8).toList)⟩,⟨some (b3,0),e8 t.toList⟩]) ?_ BIG (0,replicate 16 0#8) () KI Hl ?_
   ·intro s2 y_ r1 H K hK hE
    unfold Zp.b2 at H
    refine Z_ (ZV (ZT WV) ?_)
    refine Z6 (ZY (UK H (fun hc H=>?_) (fun hc H=>?_)))
    ·refine ZN (Z7 (ZY (ZP (Z_ (Zj 2 rfl ?_)))))
     refine Z6 ?_
     have ⟨h5,H⟩:=Z4 H
     have ⟨h6,H⟩:=Z4 H
     have ⟨SV,hm_2,H⟩:=ZX H
     refine U3 [] 16 rfl ?_
     refine PX 1 [] (.v 0 [] rfl rfl (ZO rfl) (.v 1 [] rfl rfl (ZO rfl) (.v 2 [] rfl rfl (ZO rfl) (.v 3 [] rfl rfl (ZO rfl) (.v 4 [3] rfl rfl (Zg rfl rfl (fun w=>Jg w s2.1 4 (by decide))) (.v 5 [4] rfl rfl (V9 Ma rfl rfl) (.v 6 [5,2] rfl rfl (V9 XN rfl rfl) (.v 7 [6] rfl rfl (Zg rfl rfl (fun w=>Jg w (ZJ (s2.1+(ZJ (4 * (s2.1.tmod 4))))) 16 (by decide))) (.v 8 [7] rfl rfl (Zw (i:=(ZJ (s2.1+(ZJ (4 * (s2.1.tmod 4))))).tmod 16) rfl rfl underlying171 Yn rfl h5.1 h5.2 (k:=((ZJ (s2.1+(ZJ (4 * (s2.1.tmod 4))))).tmod 16).toNat) (Tz _)) (.v 9 [8] rfl rfl (Z8 rfl (.o 0) (YL (f:=v8) (V:=s1.2) (tl h5)) isAgg5) (.v 10 [1] rfl rfl (Zh rfl) (.v 11 [10] rfl rfl (ZQ 0 underlying247 Nv) (.v 12 [11,9] rfl rfl (Zw (i:=((vg s1.2 (((ZJ (s2.1+(ZJ (4 * (s2.1.tmod 4))))).tmod 16).toNat)).toNat:Int)) rfl rfl underlying243 Yn rfl (Int.natCast_nonneg _) (zb (n:=8) (k:=256) (vg s1.2 (((ZJ (s2.1+(ZJ (4 * (s2.1.tmod 4))))).tmod 16).toNat)) (by decide)) (k:=(vg s1.2 (((ZJ (s2.1+(ZJ (4 * (s2.1.tmod 4))))).tmod 16).toNat)).toNat) (Tz _)) (.v 13 [12] rfl rfl (Z8 rfl (.r 0) (YL (f:=v8) (V:=O3) (toNat_lt (Int.natCast_nonneg _) (zb (n:=8) (k:=256) (vg s1.2 (((ZJ (s2.1+(ZJ (4 * (s2.1.tmod 4))))).tmod 16).toNat)) (by decide)))) isAgg5) (.v 14 [0] rfl rfl (Zw (i:=s2.1) rfl rfl underlying171 Yn rfl h6.1 h6.2 (k:=(s2.1).toNat) (Tz _)) .nil))))))))))))))) (fun γ=>?_)
     refine Qj [59,58,0,3,4,6,7,42] rfl rfl ?_
     refine Qh 15 [] rfl (YR (j:=2) rfl rfl Yn rfl rfl rfl (by simpa using (tl h6)) (cs':=e8 ((vp s2.2 ((s2.1).toNat) (vg O3 ((vg s1.2 (((ZJ (s2.1+(ZJ (4 * (s2.1.tmod 4))))).tmod 16).toNat)).toNat))).toList)) VR) (fun _=>rfl) (fun _=>?_)
     refine Iy 2 (congrArg (fun z:Vx 8 16=>e8 (Vector.toList z)) hm_2) ?_
     refine Vi ?_
     refine ZW (Z7 (ZH (ZV (ZT XN) ?_)))
     refine YP ?_
     refine ZK ?_
     obtain rfl:=sj H
     exact Ri [0,0,0] (hK (ZJ (s2.1+1),SV) rfl ())
    refine YW (Z0 (Z0 ?_))
    obtain rfl:=sj H
    exact WW [0,0,0] (hE s2.2 rfl ())
   intro g
   refine ZL (Z7 (ZY (Z_ (Zj 3 rfl ?_))))
   refine ZV (ZQ 256 underlying247 Ii) ?_
   refine ZV (Z8 rfl (.r 1) rfl isAgg245) ?_
   refine ZV (ZG rfl underlying245) ?_
   refine ZV (ZT OX) ?_
   refine ZV (ZT WV) ?_
   refine Z6 ?_
   have ⟨j1,Hj,H⟩:=Z9 H
   refine Ns (Γ:=Unit) (fun Sc=>[(0,ptr (some (bc,obc)) 0),(3,ptr (some (b1,0)) 0),(4,ptr (some (b2,0)) 0),(6,vi s1.1),(7,ptr (some (b3,0)) 0)]) (fun Sc=>[⟨some (b1,0),e8 s1.2.toList⟩,⟨some (b2,0),e8 ((replicate 16 0#8).toList)⟩,⟨some (b3,0),e8 j1.toList⟩]) ?_ ?_
   ·intro Sc
    refine Z7 (Z_ (YP ?_))
    refine Z6 (ZP ?_)
    have ⟨Gu,Hl,H⟩:=Z9 H
    refine Wz [0,3,4,6,7,142] [0,0,0] rfl rfl ?_
    refine Yv (id:=8) (body:=(Zp.b3 SE s1 j1)) (σ:=Int × Vx 8 16) (Γ:=Unit) (Γx:=Unit) (fun s3 uz=>[(0,ptr (some (bc,obc)) 0),(3,ptr (some (b1,0)) 0),(4,ptr (some (b2,0)) 0),(6,vi s1.1),(7,ptr (some (b3,0)) 0),(142,vi s3.1)]) (fun s3 uz=>[⟨some (b1,0),e8 s3.2.toList⟩,⟨some (b2,0),e8 ((replicate 16 0#8).toList)⟩,⟨some (b3,0),e8 j1.toList⟩]) (fun t g=>[(0,ptr (some (bc,obc)) 0),(3,ptr (some (b1,0)) 0),(4,ptr (some (b2,0)) 0),(6,vi s1.1)]) (fun t g=>[⟨some (b1,0),e8 t.toList⟩,⟨some (b2,0),e8 ((replicate 16 0#8).toList)⟩]) ?_ BIG (0,s1.2) () Gu Hl ?_
    ·intro s3 uz r1 H K hK hE
     unfold Zp.b3 at H
     refine Z_ (ZV (ZT WV) ?_)
     refine Z6 (ZY (UK H (fun hc H=>?_) (fun hc H=>?_)))
     ·refine ZN (Z7 (ZY (ZP (Z_ (Zj 2 rfl ?_)))))
      refine Z6 ?_
      have ⟨h7,H⟩:=Z4 H
      have ⟨h8,H⟩:=Z4 H
      have ⟨h9,H⟩:=Z4 H
      have ⟨JN,H⟩:=Z4 H
      have ⟨IV,hm_3,H⟩:=ZX H
      refine U3 [] 16 rfl ?_
      refine PX 1 [] (.v 0 [] rfl rfl (ZO rfl) (.v 1 [] rfl rfl (ZO rfl) (.v 2 [1] rfl rfl (Zw (i:=s3.1) rfl rfl underlying171 Yn rfl h7.1 h7.2 (k:=(s3.1).toNat) (Tz _)) (.v 3 [2] rfl rfl (Z8 rfl (.o 2) (YL (f:=v8) (V:=j1) (tl h7)) isAgg5) (.v 4 [] rfl rfl (ZO rfl) (.v 5 [4] rfl rfl (Zh rfl) (.v 6 [5] rfl rfl (ZQ 256 underlying247 Ii) (.v 7 [6] rfl rfl (Z8 rfl (.r 1) rfl isAgg245) (.v 8 [] rfl rfl (ZO rfl) (.v 9 [] rfl rfl (ZO rfl) (.v 10 [7,8] rfl rfl (YK (i:=s1.1) rfl rfl underlying245 UW rfl (.r 2) (VC (s:=16) (fun _=>by simp) rfl (tl h8)) h8.1 h8.2 (k:=((s1.1).toNat) * 16) rfl) (.v 11 [9,10] rfl rfl (Zw (i:=s3.1) rfl rfl underlying171 Yn rfl h9.1 h9.2 (k:=((s1.1).toNat) * 16+(s3.1).toNat) (k1 _ _)) (.v 12 [11] rfl rfl (Z8 rfl (.r 2) ((UM (g:=fun V:Vx 8 16=>e8 V.toList) (s:=16) (fun _=>by simp) SE ((s1.1).toNat) ((s3.1).toNat) (tl h8) (tl h9)).trans (YL (tl h9))) isAgg5) (.v 13 [3,12] rfl rfl (V9 Sr rfl rfl) (.v 14 [0] rfl rfl (Zw (i:=s3.1) rfl rfl underlying171 Yn rfl JN.1 JN.2 (k:=(s3.1).toNat) (Tz _)) .nil))))))))))))))) (fun γ=>?_)
      refine Qj [159,158,0,3,4,6,7,142] rfl rfl ?_
      refine Qh 15 [] rfl (YR (j:=0) rfl rfl Yn rfl rfl rfl (by simpa using (tl JN)) (cs':=e8 ((vp s3.2 ((s3.1).toNat) ((vg j1 ((s3.1).toNat)) ^^^ (vg (lg SE ((s1.1).toNat)) ((s3.1).toNat)))).toList)) VR) (fun _=>rfl) (fun _=>?_)
      refine Iy 0 (congrArg (fun z:Vx 8 16=>e8 (Vector.toList z)) hm_3) ?_
      refine Vi ?_
      refine ZW (Z7 (ZH (ZV (ZT XN) ?_)))
      refine YP ?_
      refine ZK ?_
      obtain rfl:=sj H
      exact Ri [0,0,0] (hK (ZJ (s3.1+1),IV) rfl ())
     refine YW (Z0 (Z0 ?_))
     obtain rfl:=sj H
     exact WW [0,0] (hE s3.2 rfl ())
    intro g
    refine ZL (ZW (Z7 (ZH (YP ?_))))
    refine ZV (ZT XN) ?_
    refine Y2 ?_
    have ⟨vU,hround1,H⟩:=ZX H
    refine WN 6 (congrArg vi hround1) ?_
    refine ZK ?_
    obtain rfl:=sj H
    exact Ri [0,0] (hK (vU,Gu) rfl ())
   intro hJ
   replace H:=Hj
   refine UK H (fun hc H=>?_) (fun hc H=>?_)
   ·refine Z_ (Y2 ?_)
    refine Z6 (ZP ?_)
    have ⟨bP,Hl,H⟩:=Z9 H
    refine Wz [0,3,4,6,7,9] [0,0,0] rfl rfl ?_
    refine Yv (id:=6) (body:=(Zp.b4)) (σ:=Int × Vx 8 16) (Γ:=Unit) (Γx:=Unit) (fun s4 g4_=>[(0,ptr (some (bc,obc)) 0),(3,ptr (some (b1,0)) 0),(4,ptr (some (b2,0)) 0),(6,vi s1.1),(7,ptr (some (b3,0)) 0),(9,vi s4.1)]) (fun s4 g4_=>[⟨some (b1,0),e8 s1.2.toList⟩,⟨some (b2,0),e8 ((replicate 16 0#8).toList)⟩,⟨some (b3,0),e8 s4.2.toList⟩]) (fun t g=>[(0,ptr (some (bc,obc)) 0),(3,ptr (some (b1,0)) 0),(4,ptr (some (b2,0)) 0),(6,vi s1.1),(7,ptr (some (b3,0)) 0)]) (fun t g=>[⟨some (b1,0),e8 s1.2.toList⟩,⟨some (b2,0),e8 ((replicate 16 0#8).toList)⟩,⟨some (b3,0),e8 t.toList⟩]) ?_ BIG (0,KI) () bP Hl ?_
    ·intro s4 g4_ r1 H K hK hE
     unfold Zp.b4 at H
     refine ZY (Z_ (YP ?_))
     refine ZV (ZT WV) ?_
     refine Z6 (UK H (fun hc H=>?_) (fun hc H=>?_))
     ·refine ZN (Z7 (ZY (ZP (ZY ?_))))
      have ⟨h11,H⟩:=Z4 H
      have ⟨h12,H⟩:=Z4 H
      have ⟨h13,H⟩:=Z4 H
      have ⟨h14,H⟩:=Z4 H
      have ⟨p1,hp1,H⟩:=ZX H
      have ⟨q1,hq1,H⟩:=ZX H
      have ⟨Zu,Yk,H⟩:=ZX H
      have ⟨JW,hs_1,H⟩:=ZX H
      refine U3 [0,0,0] 19 rfl ?_
      refine YA 0 0 rfl ?_
      refine Zz 1 rfl (Zw (i:=s4.1) rfl rfl underlying171 Yn rfl h11.1 h11.2 (k:=(s4.1).toNat) (Tz _)) ?_
      refine Zz 2 rfl (Z8 rfl (.o 2) (YL (f:=v8) (V:=s4.2) (tl h11)) isAgg5) ?_
      refine YA 0 3 rfl ?_
      refine Zz 4 rfl (ZT XN) ?_
      refine Zz 5 rfl (Zw (i:=ZJ (s4.1+1)) rfl rfl underlying171 Yn rfl h12.1 h12.2 (k:=(ZJ (s4.1+1)).toNat) (Tz _)) ?_
      refine Zz 6 rfl (Z8 rfl (.o 2) (YL (f:=v8) (V:=s4.2) (tl h12)) isAgg5) ?_
      refine YA 0 7 rfl ?_
      refine Zz 8 rfl (ZT XN) ?_
      refine Zz 9 rfl (Zw (i:=ZJ (s4.1+2)) rfl rfl underlying171 Yn rfl h13.1 h13.2 (k:=(ZJ (s4.1+2)).toNat) (Tz _)) ?_
      refine Zz 10 rfl (Z8 rfl (.o 2) (YL (f:=v8) (V:=s4.2) (tl h13)) isAgg5) ?_
      refine YA 0 11 rfl ?_
      refine Zz 12 rfl (ZT XN) ?_
      refine Zz 13 rfl (Zw (i:=ZJ (s4.1+3)) rfl rfl underlying171 Yn rfl h14.1 h14.2 (k:=(ZJ (s4.1+3)).toNat) (Tz _)) ?_
      refine Zz 14 rfl (Z8 rfl (.o 2) (YL (f:=v8) (V:=s4.2) (tl h14)) isAgg5) ?_
      refine YA 0 15 rfl ?_
      refine Xb (v':=v8 p1) 10 (congrArg v8 hp1) ?_
      refine YA 0 16 rfl ?_
      refine Xb (v':=v8 q1) 11 (congrArg v8 hq1) ?_
      refine YA 0 17 rfl ?_
      refine Xb 12 (congrArg v8 Yk) ?_
      refine YA 0 18 rfl ?_
      refine Xb (v':=v8 JW) 13 (congrArg v8 hs_1) ?_
      refine Vi ?_
      refine Z7 (Wz [0,3,4,6,7,9,10,11,12,13] [0,0,0] rfl rfl ?_)
      refine Z_ (Zj 2 rfl ?_)
      refine ZV (ZT Sr) ?_
      refine YP ?_
      refine ZV (ZT Sr) ?_
      refine YP ?_
      refine ZV (ZT Sr) ?_
      refine Y2 ?_
      have ⟨K8,hall1,H⟩:=ZX H
      refine WN 14 (congrArg v8 hall1) ?_
      refine Z6 (ZY ?_)
      have ⟨h15,H⟩:=Z4 H
      have ⟨YJ,X6,H⟩:=Z9 H
      have ⟨h16,H⟩:=Z4 H
      have ⟨FL,hm_4,H⟩:=ZX H
      refine U3 [] 12 rfl ?_
      refine PX 1 [] (.v 0 [] rfl rfl (ZO rfl) (.v 1 [0] rfl rfl (Zw (i:=s4.1) rfl rfl underlying171 Yn rfl h15.1 h15.2 (k:=(s4.1).toNat) (Tz _)) (.v 2 [1] rfl rfl (Z8 rfl (.o 2) (YL (f:=v8) (V:=s4.2) (tl h15)) isAgg5) (.v 3 [] rfl rfl (ZO rfl) (.v 4 [] rfl rfl (ZO rfl) (.v 5 [] rfl rfl (ZO rfl) (.v 6 [4,5] rfl rfl (V9 Sr rfl rfl) (.e 7 [6] rfl rfl (Qg (NI X6 :) call153 .z) (.v 8 [3,7] rfl rfl (V9 Sr rfl rfl) (.v 9 [2,8] rfl rfl (V9 Sr rfl rfl) (.v 10 [0] rfl rfl (Zw (i:=s4.1) rfl rfl underlying171 Yn rfl h16.1 h16.2 (k:=(s4.1).toNat) (Tz _)) .nil))))))))))) (fun γ=>?_)
      refine Qj [105,104,14,0,3,4,6,7,9,10,11,12,13] rfl rfl ?_
      refine Qh 11 [] rfl (YR (j:=2) rfl rfl Yn rfl rfl rfl (by simpa using (tl h16)) (cs':=e8 ((vp s4.2 ((s4.1).toNat) ((vg s4.2 ((s4.1).toNat)) ^^^ (K8 ^^^ YJ))).toList)) VR) (fun _=>rfl) (fun _=>?_)
      refine Iy 2 (congrArg (fun z:Vx 8 16=>e8 (Vector.toList z)) hm_4) ?_
      refine Vi ?_
      refine Z7 (ZY ?_)
      have ⟨h17,H⟩:=Z4 H
      have ⟨X7,Vt,H⟩:=Z9 H
      have ⟨h18,H⟩:=Z4 H
      have ⟨BH,hm_5,H⟩:=ZX H
      refine U3 [] 13 rfl ?_
      refine PX 1 [] (.v 0 [] rfl rfl (ZO rfl) (.v 1 [0] rfl rfl (V9 XN rfl rfl) (.v 2 [1] rfl rfl (Zw (i:=ZJ (s4.1+1)) rfl rfl underlying171 Yn rfl h17.1 h17.2 (k:=(ZJ (s4.1+1)).toNat) (Tz _)) (.v 3 [2] rfl rfl (Z8 rfl (.o 2) (YL (f:=v8) (V:=FL) (tl h17)) isAgg5) (.v 4 [] rfl rfl (ZO rfl) (.v 5 [] rfl rfl (ZO rfl) (.v 6 [] rfl rfl (ZO rfl) (.v 7 [6,5] rfl rfl (V9 Sr rfl rfl) (.e 8 [7] rfl rfl (Qg (NI Vt :) call153 .z) (.v 9 [8,4] rfl rfl (V9 Sr rfl rfl) (.v 10 [9,3] rfl rfl (V9 Sr rfl rfl) (.v 11 [1] rfl rfl (Zw (i:=ZJ (s4.1+1)) rfl rfl underlying171 Yn rfl h18.1 h18.2 (k:=(ZJ (s4.1+1)).toNat) (Tz _)) .nil)))))))))))) (fun γ=>?_)
      refine Qj [117,116,14,0,3,4,6,7,9,10,12,13] rfl rfl ?_
      refine Qh 12 [] rfl (YR (j:=2) rfl rfl Yn rfl rfl rfl (by simpa using (tl h18)) (cs':=e8 ((vp FL ((ZJ (s4.1+1)).toNat) ((vg FL ((ZJ (s4.1+1)).toNat)) ^^^ (K8 ^^^ X7))).toList)) VR) (fun _=>rfl) (fun _=>?_)
      refine Iy 2 (congrArg (fun z:Vx 8 16=>e8 (Vector.toList z)) hm_5) ?_
      refine Vi ?_
      refine Z7 (ZY ?_)
      have ⟨h19,H⟩:=Z4 H
      have ⟨Xu,UH,H⟩:=Z9 H
      have ⟨h20,H⟩:=Z4 H
      have ⟨rT,hm_6,H⟩:=ZX H
      refine U3 [] 13 rfl ?_
      refine PX 1 [] (.v 0 [] rfl rfl (ZO rfl) (.v 1 [0] rfl rfl (V9 XN rfl rfl) (.v 2 [1] rfl rfl (Zw (i:=ZJ (s4.1+2)) rfl rfl underlying171 Yn rfl h19.1 h19.2 (k:=(ZJ (s4.1+2)).toNat) (Tz _)) (.v 3 [2] rfl rfl (Z8 rfl (.o 2) (YL (f:=v8) (V:=BH) (tl h19)) isAgg5) (.v 4 [] rfl rfl (ZO rfl) (.v 5 [] rfl rfl (ZO rfl) (.v 6 [] rfl rfl (ZO rfl) (.v 7 [5,6] rfl rfl (V9 Sr rfl rfl) (.e 8 [7] rfl rfl (Qg (NI UH :) call153 .z) (.v 9 [4,8] rfl rfl (V9 Sr rfl rfl) (.v 10 [3,9] rfl rfl (V9 Sr rfl rfl) (.v 11 [1] rfl rfl (Zw (i:=ZJ (s4.1+2)) rfl rfl underlying171 Yn rfl h20.1 h20.2 (k:=(ZJ (s4.1+2)).toNat) (Tz _)) .nil)))))))))))) (fun γ=>?_)
      refine Qj [129,128,14,0,3,4,6,7,9,10,13] rfl rfl ?_
      refine Qh 12 [] rfl (YR (j:=2) rfl rfl Yn rfl rfl rfl (by simpa using (tl h20)) (cs':=e8 ((vp BH ((ZJ (s4.1+2)).toNat) ((vg BH ((ZJ (s4.1+2)).toNat)) ^^^ (K8 ^^^ Xu))).toList)) VR) (fun _=>rfl) (fun _=>?_)
      refine Iy 2 (congrArg (fun z:Vx 8 16=>e8 (Vector.toList z)) hm_6) ?_
      refine Vi ?_
      refine Z7 ?_
      have ⟨h21,H⟩:=Z4 H
      have ⟨UC,Qi,H⟩:=Z9 H
      have ⟨h22,H⟩:=Z4 H
      have ⟨m_7,hm_7,H⟩:=ZX H
      refine U3 [] 13 rfl ?_
      refine PX 1 [] (.v 0 [] rfl rfl (ZO rfl) (.v 1 [0] rfl rfl (V9 XN rfl rfl) (.v 2 [1] rfl rfl (Zw (i:=ZJ (s4.1+3)) rfl rfl underlying171 Yn rfl h21.1 h21.2 (k:=(ZJ (s4.1+3)).toNat) (Tz _)) (.v 3 [2] rfl rfl (Z8 rfl (.o 2) (YL (f:=v8) (V:=rT) (tl h21)) isAgg5) (.v 4 [] rfl rfl (ZO rfl) (.v 5 [] rfl rfl (ZO rfl) (.v 6 [] rfl rfl (ZO rfl) (.v 7 [6,5] rfl rfl (V9 Sr rfl rfl) (.e 8 [7] rfl rfl (Qg (NI Qi :) call153 .z) (.v 9 [8,4] rfl rfl (V9 Sr rfl rfl) (.v 10 [9,3] rfl rfl (V9 Sr rfl rfl) (.v 11 [1] rfl rfl (Zw (i:=ZJ (s4.1+3)) rfl rfl underlying171 Yn rfl h22.1 h22.2 (k:=(ZJ (s4.1+3)).toNat) (Tz _)) .nil)))))))))))) (fun γ=>?_)
      refine Qj [141,140,0,3,4,6,7,9] rfl rfl ?_
      refine Qh 12 [] rfl (YR (j:=2) rfl rfl Yn rfl rfl rfl (by simpa using (tl h22)) (cs':=e8 ((vp rT ((ZJ (s4.1+3)).toNat) ((vg rT ((ZJ (s4.1+3)).toNat)) ^^^ (K8 ^^^ UC))).toList)) VR) (fun _=>rfl) (fun _=>?_)
      refine Iy 2 (congrArg (fun z:Vx 8 16=>e8 (Vector.toList z)) hm_7) ?_
      refine Vi ?_
      refine ZW (Z7 (ZH (YP ?_)))
      refine ZV (ZT XN) ?_
      refine Y2 ?_
      have ⟨i1,Ll,H⟩:=ZX H
      refine WN 9 (congrArg vi Ll) ?_
      refine ZK ?_
      obtain rfl:=sj H
      exact Ri [0,0,0] (hK (i1,m_7) rfl ())
     refine YW (Z0 (Z0 ?_))
     obtain rfl:=sj H
     exact WW [0,0,0] (hE s4.2 rfl ())
    intro g
    refine ZL ?_
    obtain rfl:=sj H
    exact WW [0,0,0] (hJ ())
   refine ZN ?_
   obtain rfl:=sj H
   exact WW [0,0,0] (hJ ())
  refine YW (Z0 (Z0 ?_))
  obtain rfl:=sj H
  exact WW [0,0] (hE s1.2 rfl ())
 intro g
 refine ZL (Z7 (Z_ (ZV (Wi (.o 0) isAgg171 UW) ?_)))
 refine VM (Vd (vs:=e8 M7.toList) 1 UW) (fun _=>?_)
 refine Zq ?_
 obtain rfl:=sj H
 exact SF (vs:=[_]) rfl ⟨(Wm (n:=16) rfl (by simp) (.o 1) isAgg171 UW rfl (Wl (f:=v8) M7)),trivial⟩
def Vq.b0 (JY:Vx 8 16) (s0:Int × Vx 8 16):Option ((Int × Vx 8 16) ⊕ (Vx 8 16)) :=
 if s0.1<16 then (if 0≤s0.1∧s0.1<(16:Int) then (if 0≤s0.1∧s0.1<(16:Int) then (if 0≤s0.1∧s0.1<(16:Int) then (X5 (vp s0.2 ((s0.1).toNat) ((vg s0.2 ((s0.1).toNat)) ^^^ (vg JY ((s0.1).toNat)))) fun Xi=>(some (.inl (ZJ (s0.1+1),Xi)))) else none) else none) else none) else (some (.inr s0.2))
def Vq (TQ:Vx 8 256) (UV:List (Vx 8 16)) (Nb LV:BitVec 64) (ZA Ur:Str) (b:List (BitVec 8)):Option (Str) :=
 (Xm Nb LV).bind fun Zu=>((Uu Zu.1 Zu.2 0#64 0#64 Ur).bind fun YJ=>((Uu Zu.1 Zu.2 YJ.1 YJ.2 b).bind fun X7=>((VP ((BitVec.ofInt 64 ((Ur).length:Int)) * 8#64) ((BitVec.ofInt 64 ((b).length:Int)) * 8#64)).bind fun Xu=>((TS Zu.1 Zu.2 X7.1 X7.2 Xu.toList).bind fun UC=>((VP UC.1 UC.2).bind fun MV=>((Tp ZA 1#32).bind fun JM=>((Zp TQ UV JM).bind fun JY=>((loop (Vq.b0 JY) BIG (0,MV)).bind fun Yw=>(some Yw.toList)))))))))
theorem vN {bc:Nat} {obc:Nat} {bc_aes:Nat} {obc_aes:Nat} {Ac_aes_keys:Y6} {cc_aes_keys:Nat} {Ab:Y6} {cb:Nat} {TQ:Vx 8 256} {UV:List (Vx 8 16)} {Nb:BitVec 64} {LV:BitVec 64} {ZA:Str} {Ur:Str} {b:List (BitVec 8)} (KH:(UV).length≤cc_aes_keys) (hcb:(b).length≤cb) {r:Str} (H:Vq TQ UV Nb LV ZA Ur b=some r) :
  Does Tryz.prog 130 [ptr (some (bc,obc)) 0,vs ZA,vs Ur,sl Ab ((b).length) cb] [] [⟨some (bc,obc),[ptr (some (bc_aes,obc_aes)) 0]⟩,⟨some (bc,obc+1),[v64 Nb]⟩,⟨some (bc,obc+2),[v64 LV]⟩,⟨some (bc_aes,obc_aes),e8 TQ.toList⟩,⟨some (bc_aes,obc_aes+256),[sl Ac_aes_keys ((UV).length) cc_aes_keys]⟩,⟨Ac_aes_keys,eF (fun V:Vx 8 16=>e8 V.toList) UV⟩,⟨Ab,e8 b⟩] (Γ:=Unit) (fun g=>vs r) (fun g=>[]):=by
 intro w hmem hro hd
 refine Zn func130 rfl ntmps130 rfl hmem hro hd ?_
 unfold Vq at H
 refine Z_ (Y2 ?_)
 refine Z6 (Z_ (Zj 2 rfl ?_))
 refine ZV (ZQ 1 underlying219 V3) ?_
 refine ZV (VY [1001,1002] rfl rfl isAgg216 V3) ?_
 have ⟨Zu,Yk,H⟩:=Z9 H
 refine YE (Wq (is:=[]) rfl call144 (vP Yk :) rfl trivial) (fun Re=>?_)
 refine Y2 ?_
 refine Z6 (Z_ (Zj 2 rfl ?_))
 refine YE (lF rfl underlying9 underlying86 underlying5) (fun UD=>?_)
 have ⟨YJ,X6,H⟩:=Z9 H
 refine YE (Wq (is:=[3,3]) rfl call145 (Dq (Zy _ _) X6 :) rfl ⟨.o 1, .o 2,(Zt (.o 0)),trivial⟩) (fun Pm=>?_)
 refine Z6 (Z_ (Zj 2 rfl ?_))
 have ⟨X7,Vt,H⟩:=Z9 H
 refine YE (Wq (is:=[0,0]) rfl call145 (Dq hcb Vt :) rfl ⟨.o 1, .o 2, .r 6,trivial⟩) (fun JV=>?_)
 refine Z6 (Z_ (YP ?_))
 refine ZV (Zf rfl underlying9) ?_
 refine ZV (Vu rfl (fun w=>Ct w _ _ underlying115 (HY) .i64 ((Ur).length:Int))) ?_
 refine ZV (Zg rfl rfl (fun w=>Fz w (BitVec.ofInt 64 ((Ur).length:Int)) 8#64)) ?_
 refine YP ?_
 refine ZV (ZG rfl underlying86) ?_
 refine ZV (Vu rfl (fun w=>Ct w _ _ underlying115 (HY) .i64 ((b).length:Int))) ?_
 refine ZV (Zg rfl rfl (fun w=>Fz w (BitVec.ofInt 64 ((b).length:Int)) 8#64)) ?_
 refine ZV (Y9 (pv:=[(0,v64 ((BitVec.ofInt 64 ((Ur).length:Int)) * 8#64)),(1,v64 ((BitVec.ofInt 64 ((b).length:Int)) * 8#64))]) (pl:=[(0,1),(1,1)]) rfl rfl underlying216 V3 IK NK (cs:=flat [(1,[v64 ((BitVec.ofInt 64 ((Ur).length:Int)) * 8#64)]),(1,[v64 ((BitVec.ofInt 64 ((b).length:Int)) * 8#64)])]) (by kernel_rfl)) ?_
 refine YE (Wh [(1,[v64 0#64]),(1,[v64 0#64])] V3 NK ⟨rfl,rfl,trivial⟩) (fun b1=>?_)
 refine VM (VZ [0,0] rfl rfl V3) (fun _=>?_)
 refine Z6 (Z_ (ZV (VY [0,1] rfl rfl isAgg216 V3) ?_))
 have ⟨Xu,UH,H⟩:=Z9 H
 refine YE (Y4 (Dc UH :) call146 .z) (fun zM=>?_)
 refine YE (Wh [(16,e8 ((replicate 16 0#8).toList))] UW Pp ⟨(Wl (f:=v8) (replicate 16 0#8)),trivial⟩) (fun b2=>?_)
 refine VM (Vd (vs:=e8 Xu.toList) 0 UW) (fun _=>?_)
 refine Z6 (N7 [0,1,9,11] rfl rfl ?_)
 refine Z_ (YP ?_)
 refine ZV (P6 rfl (by simp) underlying171 Yn rfl) ?_
 refine WN (v':=sl (some (b2,0)) ((Xu.toList).length) ((Xu.toList).length)) 39 (congrArg (fun n=>sl (some (b2,0)) n n) vT.symm) ?_
 have ⟨UC,Qi,H⟩:=Z9 H
 refine YE (Wq (is:=[3,3]) rfl call147 (H8 (Nat.le_refl _) Qi :) rfl ⟨.o 4, .o 5, .o 0,trivial⟩) (fun jV=>?_)
 refine Z6 (Z_ (Zj 2 rfl ?_))
 refine ZV (ZQ 48 underlying227 V3) ?_
 refine ZV (VY [0,1] rfl rfl isAgg216 V3) ?_
 have ⟨MV,KG,H⟩:=Z9 H
 refine YE (Y4 (Dc KG :) call146 .z) (fun rE=>?_)
 refine YE (Wh [(16,e8 ((replicate 16 0#8).toList))] UW Pp ⟨(Wl (f:=v8) (replicate 16 0#8)),trivial⟩) (fun b3=>?_)
 refine VM (Vd (vs:=e8 MV.toList) 0 UW) (fun _=>?_)
 refine Z6 (ZY ?_)
 have ⟨JM,L_,H⟩:=Z9 H
 have ⟨JY,JL,H⟩:=Z9 H
 refine U3 [] 9 rfl ?_
 refine PX 1 [] (.v 0 [] rfl rfl (ZO rfl) (.v 1 [0] rfl rfl (Zh rfl) (.v 2 [1] rfl rfl (ZQ 0 underlying219 kN) (.v 3 [2] rfl rfl (Z8 rfl (.r 0) rfl isAgg211) (.v 4 [] rfl rfl (ZO rfl) (.e 5 [4] rfl rfl (Qg (Dh L_ :) call148 .z) (.e 6 [3,5] rfl rfl (Qg (H9 KH JL :) call142 ⟨.r 3, .r 4, .r 5,trivial⟩) (.c ⟨7,13,fun _ b4=>ptr (some (b4,0)) 0,fun b4=>[⟨some (b4,0),e8 ((replicate 16 0#8).toList)⟩],[],none⟩ rfl (fun _ _=>(Wh [(16,e8 ((replicate 16 0#8).toList))] UW Pp ⟨(Wl (f:=v8) (replicate 16 0#8)),trivial⟩)) .nil)))))))) (fun γ=>?_)
 refine Qj [13,52,12] rfl rfl ?_
 generalize γ 7=b4
 refine Qh 8 [] rfl (Vd (vs:=e8 JY.toList) 0 UW) (fun _=>rfl) (fun _=>?_)
 refine Vi ?_
 refine Z7 (ZY (Z_ (YP ?_)))
 refine Z6 (ZP ?_)
 have ⟨Yw,Hl,H⟩:=Z9 H
 refine Wz [12,13,53] [1,0] rfl rfl ?_
 refine Yv (id:=0) (body:=(Vq.b0 JY)) (σ:=Int × Vx 8 16) (Γ:=Unit) (Γx:=Unit) (fun s0 WG=>[(12,ptr (some (b3,0)) 0),(13,ptr (some (b4,0)) 0),(53,vi s0.1)]) (fun s0 WG=>[⟨some (b3,0),e8 s0.2.toList⟩,⟨some (b4,0),e8 JY.toList⟩]) (fun t g=>[(12,ptr (some (b3,0)) 0)]) (fun t g=>[⟨some (b3,0),e8 t.toList⟩]) ?_ BIG (0,MV) () Yw Hl ?_
 ·intro s0 WG r1 H K hK hE
  unfold Vq.b0 at H
  refine Z_ (ZV (ZT WV) ?_)
  refine Z6 (ZY (UK H (fun hc H=>?_) (fun hc H=>?_)))
  ·refine ZN (Z7 (ZY (ZP (Z_ (Zj 2 rfl ?_)))))
   refine Z6 ?_
   have ⟨h1,H⟩:=Z4 H
   have ⟨h2,H⟩:=Z4 H
   have ⟨h3,H⟩:=Z4 H
   have ⟨Xi,hm_1,H⟩:=ZX H
   refine U3 [] 9 rfl ?_
   refine PX 1 [] (.v 0 [] rfl rfl (ZO rfl) (.v 1 [0] rfl rfl (Zw (i:=s0.1) rfl rfl underlying171 Yn rfl h1.1 h1.2 (k:=(s0.1).toNat) (Tz _)) (.v 2 [1] rfl rfl (Z8 rfl (.o 0) (YL (f:=v8) (V:=s0.2) (tl h1)) isAgg5) (.v 3 [] rfl rfl (ZO rfl) (.v 4 [3] rfl rfl (Zw (i:=s0.1) rfl rfl underlying171 Yn rfl h2.1 h2.2 (k:=(s0.1).toNat) (Tz _)) (.v 5 [4] rfl rfl (Z8 rfl (.o 1) (YL (f:=v8) (V:=JY) (tl h2)) isAgg5) (.v 6 [2,5] rfl rfl (V9 Sr rfl rfl) (.v 7 [0] rfl rfl (Zw (i:=s0.1) rfl rfl underlying171 Yn rfl h3.1 h3.2 (k:=(s0.1).toNat) (Tz _)) .nil)))))))) (fun γ=>?_)
   refine Qj [63,62,12,13,53] rfl rfl ?_
   refine Qh 8 [] rfl (YR (j:=0) rfl rfl Yn rfl rfl rfl (by simpa using (tl h3)) (cs':=e8 ((vp s0.2 ((s0.1).toNat) ((vg s0.2 ((s0.1).toNat)) ^^^ (vg JY ((s0.1).toNat)))).toList)) VR) (fun _=>rfl) (fun _=>?_)
   refine Iy 0 (congrArg (fun z:Vx 8 16=>e8 (Vector.toList z)) hm_1) ?_
   refine Vi ?_
   refine ZW (Z7 (ZH (ZV (ZT XN) ?_)))
   refine YP ?_
   refine ZK ?_
   obtain rfl:=sj H
   exact Ri [0,0] (hK (ZJ (s0.1+1),Xi) rfl ())
  refine YW (Z0 (Z0 ?_))
  obtain rfl:=sj H
  exact WW [0] (hE s0.2 rfl ())
 intro g
 refine ZL (Z7 (Z_ (ZV (P6 rfl (by simp) underlying171 Yn rfl) ?_)))
 refine ZV (QY rfl underlying86 underlying5 underlying9 (.o 0) (by simp)) ?_
 refine Y2 ?_
 refine Zq ?_
 obtain rfl:=sj H
 exact Wj
open TryzI Tryz
def UG (x:BitVec 8):Option (BitVec 8) :=
 if (127#8).toNat<(x).toNat then (X5 ((x <<< 1) ^^^ 27#8) fun x1=>(some x1)) else (some (x <<< 1))
theorem Ga {x:BitVec 8} {r:BitVec 8} (H:UG x=some r) :
  Does Tryz.prog 98 [v8 x] [] [] (Γ:=Unit) (fun g=>v8 r) (fun g=>[]):=by
 intro w hmem hro hd
 refine Zn func98 rfl ntmps98 rfl hmem hro hd ?_
 unfold UG at H
 refine Z_ (Y2 ?_)
 refine Z6 (ZY (Z_ (YP ?_)))
 refine ZV (Zg rfl rfl (fun w=>acE w x 127#8)) ?_
 refine Z6 (UK H (fun hc H=>?_) (fun hc H=>?_))
 ·refine Z_ (YP ?_)
  refine ZV (Zg rfl rfl (fun w=>xk w x .u64 1 (by decide))) ?_
  refine ZV (Zg rfl rfl (fun w=>Sr w (x <<< 1) 27#8)) ?_
  refine Y2 ?_
  have ⟨x1,TK,H⟩:=ZX H
  refine WN 2 (congrArg v8 TK) ?_
  refine Zq (ZZ ?_)
  obtain rfl:=sj H
  exact Wj
 refine ZN (Z7 (Z_ (YP ?_)))
 refine ZV (Zg rfl rfl (fun w=>xk w x .u64 1 (by decide))) ?_
 refine Y2 ?_
 refine Zq ?_
 obtain rfl:=sj H
 exact Wj
end Go.Proofs
end

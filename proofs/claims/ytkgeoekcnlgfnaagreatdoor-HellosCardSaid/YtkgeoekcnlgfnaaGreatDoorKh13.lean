/-
  Part 13 of the proof of what several laws share.
-/
import Derived.Test.YtkgeoekcnlgfnaaGreatDoorKh12
set_option maxHeartbeats 4000000
set_option maxRecDepth 20000
set_option linter.unusedVariables false
set_option linter.unusedSimpArgs false
section
namespace Go.Proofs
open Go Go.Kx
open Vector (replicate)
open TryzI Tryz
def WH.b1 (n1:Int) (s0:BitVec 8 × Int × List (Vx 8 4)) (j2:BitVec 8 × Vx 8 4) (s1:Int × List (Vx 8 4)):Option ((Int × List (Vx 8 4)) ⊕ (List (Vx 8 4))) :=
 if s1.1<4 then (if 0≤ZJ (s0.2.1 - n1)∧ZJ (s0.2.1 - n1)<((ZJ (4 * (ZJ (n1+7)))).toNat:Int) then (if (ZJ (s0.2.1 - n1)).toNat<(s1.2).length then (if 0≤s1.1∧s1.1<(4:Int) then (if 0≤s1.1∧s1.1<(4:Int) then (if 0≤s0.2.1∧s0.2.1<((ZJ (4 * (ZJ (n1+7)))).toNat:Int) then (if (s0.2.1).toNat<(s1.2).length then (if 0≤s1.1∧s1.1<(4:Int) then (X5 (s1.2.set ((s0.2.1).toNat) (vp (lg s1.2 ((s0.2.1).toNat)) ((s1.1).toNat) ((vg (lg s1.2 ((ZJ (s0.2.1 - n1)).toNat)) ((s1.1).toNat)) ^^^ (vg j2.2 ((s1.1).toNat))))) fun IV=>(some (.inl (ZJ (s1.1+1),IV)))) else none) else none) else none) else none) else none) else none) else none) else (some (.inr s1.2))
def WH.b2 (Zu:Vx 8 256) (s2:Int × Vx 8 4):Option ((Int × Vx 8 4) ⊕ (Vx 8 4)) :=
 if s2.1<4 then (if 0≤s2.1∧s2.1<(4:Int) then (if 0≤s2.1∧s2.1<(4:Int) then (X5 (vp s2.2 ((s2.1).toNat) (vg Zu ((vg s2.2 ((s2.1).toNat)).toNat))) fun BH=>(some (.inl (ZJ (s2.1+1),BH)))) else none) else none) else (some (.inr s2.2))
def WH.b0 (key:Str) (Zu:Vx 8 256) (n1:Int) (s0:BitVec 8 × Int × List (Vx 8 4)):Option ((BitVec 8 × Int × List (Vx 8 4)) ⊕ (List (Vx 8 4))) :=
 if s0.2.1<((ZJ (4 * (ZJ (n1+7)))).toNat:Int) then (if s0.2.1<n1 then (if 0≤s0.2.1∧s0.2.1<((ZJ (4 * (ZJ (n1+7)))).toNat:Int) then (if (s0.2.1).toNat<(s0.2.2).length then (if 0≤ZJ (4 * s0.2.1) then (if (ZJ (4 * s0.2.1)).toNat≤(key).length then (X5 (s0.2.2.set ((s0.2.1).toNat) (EX (lg s0.2.2 ((s0.2.1).toNat)) 0 ((sub key ((ZJ (4 * s0.2.1)).toNat) ((key).length)).take (min ((sub key ((ZJ (4 * s0.2.1)).toNat) ((key).length)).length) (4 - 0))))) fun Xi=>(some (.inl (s0.1,ZJ (s0.2.1+1),Xi)))) else none) else none) else none) else none) else (if 0≤ZJ (s0.2.1 - 1)∧ZJ (s0.2.1 - 1)<((ZJ (4 * (ZJ (n1+7)))).toNat:Int) then (if (ZJ (s0.2.1 - 1)).toNat<(s0.2.2).length then (X5 (lg s0.2.2 ((ZJ (s0.2.1 - 1)).toNat)) fun SV=>(if n1 ≠ 0 then ((if (s0.2.1.tmod n1)=0 then (X5 ((#v[(vg Zu ((vg SV 1).toNat)) ^^^ s0.1,vg Zu ((vg SV 2).toNat),vg Zu ((vg SV 3).toNat),vg Zu ((vg SV 0).toNat)]:Vx 8 4)) fun FL=>((PP s0.1).bind fun YJ=>(some (YJ,FL)))) else ((if n1=8 then (if n1 ≠ 0 then (some (decide ((s0.2.1.tmod n1)=4))) else none) else (some false)).bind fun j3=>(if j3=true then ((loop (WH.b2 Zu) BIG (0,SV)).bind fun KI=>(some (s0.1,KI))) else (some (s0.1,SV))))).bind fun j2=>((loop (WH.b1 n1 s0 j2) BIG (0,s0.2.2)).bind fun M7=>(some (.inl (j2.1,ZJ (s0.2.1+1),M7))))) else none)) else none) else none)) else (some (.inr s0.2.2))
def WH.b3 (n1:Int) (Yw:List (Vx 8 4)) (s3:Int × List (Vx 8 16)):Option ((Int × List (Vx 8 16)) ⊕ (List (Vx 8 16))) :=
 if s3.1<((ZJ (4 * (ZJ (n1+7)))).toNat:Int) then (if 0≤ZJ (s3.1.tdiv 4)∧ZJ (s3.1.tdiv 4)<((ZJ (n1+7)).toNat:Int) then (if (ZJ (s3.1.tdiv 4)).toNat<(s3.2).length then (if 0≤ZJ (4 * (s3.1.tmod 4)) then (if (ZJ (4 * (s3.1.tmod 4))).toNat≤16 then (if (ZJ (4 * (s3.1.tmod 4))).toNat<16 then (if 0≤s3.1∧s3.1<((ZJ (4 * (ZJ (n1+7)))).toNat:Int) then (if (s3.1).toNat<(Yw).length then (X5 (s3.2.set ((ZJ (s3.1.tdiv 4)).toNat) (EX (lg s3.2 ((ZJ (s3.1.tdiv 4)).toNat)) ((ZJ (4 * (s3.1.tmod 4))).toNat) ((sub ((lg Yw ((s3.1).toNat)).toList) 0 4).take (min (4 - 0) (16 - ((ZJ (4 * (s3.1.tmod 4))).toNat)))))) fun rT=>(some (.inl (ZJ (s3.1+1),rT)))) else none) else none) else none) else none) else none) else none) else none) else (some (.inr s3.2))
def WH (key:Str):Option ((Unit) ⊕ (Vx 8 256 × Nat × List (Vx 8 16))) :=
 (if ((key).length:Int) ≠ 16 then (some (decide (((key).length:Int) ≠ 32))) else (some false)).bind fun j1=>(if j1=true then (some (.inl ())) else ((Py).bind fun Zu=>(X5 (ZJ (((key).length:Int).tdiv 4)) fun n1=>(if 0≤ZJ (4 * (ZJ (n1+7)))∧ZJ (4 * (ZJ (n1+7)))≤17592186044416 then ((loop (WH.b0 key Zu n1) BIG (1#8,0,List.replicate ((ZJ (4 * (ZJ (n1+7)))).toNat) (replicate 4 0#8))).bind fun Yw=>(if 0≤ZJ (n1+7)∧ZJ (n1+7)≤17592186044416 then ((loop (WH.b3 n1 Yw) BIG (0,List.replicate ((ZJ (n1+7)).toNat) (replicate 16 0#8))).bind fun Gu=>(some (.inr (Zu,(ZJ (n1+7)).toNat,Gu)))) else none)) else none))))
theorem DC {key:Str} {r:(Unit) ⊕ (Vx 8 256 × Nat × List (Vx 8 16))} (H:WH key=some r) :
  Does Tryz.prog 141 [vs key] [] [] (Γ:=Unit × (Nat × Nat)) (fun g=>match r with | .inl r=>Value.tuple [Value.pointer none,vb false].toArray | .inr r=>Value.tuple [ptr (some (g.2.1,0)) 0,vb true].toArray) (fun g=>match r with | .inl r=>[] | .inr r=>[⟨some (g.2.1,0),e8 r.1.toList⟩,⟨some (g.2.1,256),[sl (some (g.2.2,0)) r.2.1 r.2.1]⟩,⟨some (g.2.2,0),eF (fun V:Vx 8 16=>e8 V.toList) r.2.2⟩]):=by
 intro w hmem hro hd
 refine Zn func141 rfl ntmps141 rfl hmem hro hd ?_
 unfold WH at H
 refine Z_ (Zj 2 rfl ?_)
 refine Z6 (ZY (Z_ (YP ?_)))
 refine ZV (Zf rfl underlying9) ?_
 refine ZV (ZT SN) ?_
 refine YP ?_
 have ⟨j1,Hj,H⟩:=Z9 H
 refine VH (Γ:=Unit) (fun Sc=>[(0,vs key),(20,vb j1)]) (fun Sc=>[]) ?_ ?_
 ·intro Sc
  refine Z7 (Sn H (fun hc H=>?_) (fun hc H=>?_))
  ·refine Z_ (Zj 2 rfl ?_)
   refine Zq (ZZ ?_)
   obtain rfl:=sj H
   exact JK ((),((default:Nat),(default:Nat))) [] (vs:=[_,_]) rfl ⟨rfl,rfl,trivial⟩ rfl
  refine ZN (Z7 (Z_ ?_))
  have ⟨Zu,Yk,H⟩:=Z9 H
  refine YE (Y4 (xx Yk :) call152 .z) (fun Re=>?_)
  refine ZV (Y9 (pv:=[(0,aG [(256,e8 Zu.toList)])]) (pl:=[(0,256),(256,1)]) rfl rfl underlying247 bG qo ai (cs:=flat [(256,e8 Zu.toList),(1,[sl none 0 0])]) (NN [] [(1,[sl none 0 0])] rfl rfl trivial rfl (Wl (f:=v8) (replicate 256 0#8)) (Wl (f:=v8) Zu) KN)) ?_
  refine YE (UN [(256,e8 Zu.toList),(1,[sl none 0 0])] rfl rfl ⟨(Wl (f:=v8) Zu),rfl,trivial⟩) (fun b1=>?_)
  refine Mo [eF (fun V:Vx 8 16=>e8 V.toList) (([]:List (Vx 8 16))++([]:List (Vx 8 16)))] rfl ?_
  refine Y2 ?_
  refine Z6 (Z_ (YP ?_))
  refine ZV (Zf rfl underlying9) ?_
  refine ZV (Zg rfl rfl (fun w=>Lh w ((key).length:Int) 4 (by decide))) ?_
  refine Y2 ?_
  have ⟨n1,wY,H⟩:=ZX H
  refine WN 5 (congrArg vi wY) ?_
  refine Z6 (Z_ (YP ?_))
  refine ZV (ZT XN) ?_
  refine ZV (ZT Ma) ?_
  have ⟨h1,H⟩:=Z4 H
  refine YE (eU rfl rfl underlying127 TM MH (by kernel_rfl) rfl rfl (B:=4) rfl h1.1 (Int.le_refl _) (wV 4 rfl h1) (ww h1) (n':=(ZJ (4 * (ZJ (n1+7)))).toNat) (c':=(ZJ (4 * (ZJ (n1+7)))).toNat) rfl rfl (cs:=eF (fun V:Vx 8 4=>e8 V.toList) (List.replicate ((ZJ (4 * (ZJ (n1+7)))).toNat) (replicate 4 0#8))) (wJ (g:=fun V:Vx 8 4=>e8 V.toList))) (fun b2=>?_)
  refine Y2 ?_
  refine Z6 (Z_ (Y2 ?_))
  refine Z6 (ZY (Z_ (YP ?_)))
  refine ZV (ZG rfl underlying127) ?_
  refine YP ?_
  refine Z6 (ZP ?_)
  have ⟨Yw,Hl,H⟩:=Z9 H
  refine Wz [0,4,5,6,7,32,33] [2,2,1,0] rfl rfl ?_
  refine Yv (id:=0) (body:=(WH.b0 key Zu n1)) (σ:=BitVec 8 × Int × List (Vx 8 4)) (Γ:=Unit) (Γx:=Unit) (fun s0 WG=>[(0,vs key),(4,ptr (some (b1,0)) 0),(5,vi n1),(6,sl (some (b2,0)) ((ZJ (4 * (ZJ (n1+7)))).toNat) ((ZJ (4 * (ZJ (n1+7)))).toNat)),(7,v8 s0.1),(32,vi ((ZJ (4 * (ZJ (n1+7)))).toNat:Int)),(33,vi s0.2.1)]) (fun s0 WG=>[⟨some (b1,0),e8 Zu.toList⟩,⟨some (b1,256),[sl none ((([]:List (Vx 8 16))).length) ((([]:List (Vx 8 16))++([]:List (Vx 8 16))).length)]⟩,⟨none,eF (fun V:Vx 8 16=>e8 V.toList) (([]:List (Vx 8 16))++([]:List (Vx 8 16)))⟩,⟨some (b2,0),eF (fun V:Vx 8 4=>e8 V.toList) s0.2.2⟩]) (fun t g=>[(4,ptr (some (b1,0)) 0),(5,vi n1),(6,sl (some (b2,0)) ((ZJ (4 * (ZJ (n1+7)))).toNat) ((ZJ (4 * (ZJ (n1+7)))).toNat))]) (fun t g=>[⟨some (b1,0),e8 Zu.toList⟩,⟨some (b1,256),[sl none ((([]:List (Vx 8 16))).length) ((([]:List (Vx 8 16))++([]:List (Vx 8 16))).length)]⟩,⟨none,eF (fun V:Vx 8 16=>e8 V.toList) (([]:List (Vx 8 16))++([]:List (Vx 8 16)))⟩,⟨some (b2,0),eF (fun V:Vx 8 4=>e8 V.toList) t⟩]) ?_ BIG (1#8,0,List.replicate ((ZJ (4 * (ZJ (n1+7)))).toNat) (replicate 4 0#8)) () Yw Hl ?_
  ·intro s0 WG r1 H K hK hE
   unfold WH.b0 at H
   refine Z_ (ZV (ZT WV) ?_)
   refine Z6 (ZY (UK H (fun hc H=>?_) (fun hc H=>?_)))
   ·refine ZN (Z7 (ZY (ZP (Z_ (Zj 2 rfl ?_)))))
    refine Z6 (ZY (Z_ (Zj 2 rfl ?_)))
    refine ZV (ZT WV) ?_
    refine Z6 (UK H (fun hc H=>?_) (fun hc H=>?_))
    ·refine ZY ?_
     have ⟨h2,H⟩:=Z4 H
     have ⟨h3,H⟩:=Z4 H
     have ⟨h4,H⟩:=Z4 H
     have ⟨h5,H⟩:=Z4 H
     have ⟨Xi,hm_1,H⟩:=ZX H
     refine U3 [] 9 rfl ?_
     refine PX 1 [] (.v 0 [] rfl rfl (ZO rfl) (.v 1 [] rfl rfl (ZO rfl) (.v 2 [1,0] rfl rfl (RQ (i:=s0.2.1) rfl rfl underlying127 TM rfl (fun _ h=>by cases h) h2.1 h2.2 (k:=((s0.2.1).toNat) * 4) rfl) (.v 3 [2] rfl rfl (Ht (l:=0) (h:=4) rfl (by simp) underlying147 Yn rfl OZ.none' OZ.none' (Nat.zero_le _) (Nat.le_refl _) (by decide)) (.v 4 [] rfl rfl (ZO rfl) (.v 5 [] rfl rfl (ZO rfl) (.v 6 [5] rfl rfl (V9 Ma rfl rfl) (.v 7 [4,6] rfl rfl (Uq (l:=(ZJ (4 * s0.2.1)).toNat) (h:=(key).length) rfl underlying9 (OZ.some' (i:=ZJ (4 * s0.2.1)) rfl h4) OZ.none' h5 (Nat.le_refl _)) .nil)))))))) (fun γ=>?_)
     refine Qj [46,42,0,4,5,6,7,32,33] rfl rfl ?_
     refine Tm 8 [] rfl (BP (o:=((s0.2.1).toNat) * 4+0) (j:=3) rfl rfl (by simp) underlying86 Yn rfl rfl (ym (n:=4) (l:=0) (d:=4 - 0) h3 (by omega)) (cs':=eF (fun V:Vx 8 4=>e8 V.toList) (s0.2.2.set ((s0.2.1).toNat) (EX (lg s0.2.2 ((s0.2.1).toNat)) 0 ((sub key ((ZJ (4 * s0.2.1)).toNat) ((key).length)).take (min ((sub key ((ZJ (4 * s0.2.1)).toNat) ((key).length)).length) (4 - 0)))))) (Fw h3 (Ja (n:=4) (l:=0) (d:=4 - 0) (by omega)))) (fun _=>rfl) (fun _=>?_)
     refine Iy 3 (congrArg (eF (fun V:Vx 8 4=>e8 V.toList)) hm_1) ?_
     refine Vi ?_
     refine Z7 (YW (Z0 (ZL (Z7 (ZH (ZV (ZT XN) ?_))))))
     refine YP ?_
     refine ZK ?_
     obtain rfl:=sj H
     exact Ri [0,0,0,0] (hK (s0.1,ZJ (s0.2.1+1),Xi) rfl ())
    refine ZN (Z7 (Z_ (Zj 2 rfl ?_)))
    refine ZV (ZT OX) ?_
    have ⟨h6,H⟩:=Z4 H
    have ⟨h7,H⟩:=Z4 H
    refine ZV (RQ (i:=ZJ (s0.2.1 - 1)) rfl rfl underlying127 TM rfl (fun _ h=>by cases h) h6.1 h6.2 (k:=((ZJ (s0.2.1 - 1)).toNat) * 4) rfl) ?_
    refine ZV (UE (n:=4) (ds:=e8 ((lg s0.2.2 ((ZJ (s0.2.1 - 1)).toNat)).toList)) rfl (.o 3) (RJ (g:=fun V:Vx 8 4=>e8 V.toList) (s:=4) (fun _=>by simp) s0.2.2 ((ZJ (s0.2.1 - 1)).toNat) h7) (by simp) rfl isAgg147 TM rfl) ?_
    refine YE (Wh [(4,e8 ((replicate 4 0#8).toList))] TM MH ⟨(Wl (f:=v8) (replicate 4 0#8)),trivial⟩) (fun b3=>?_)
    refine VM (Vd 0 TM) (fun _=>?_)
    have ⟨SV,hm_2,H⟩:=ZX H
    refine Ta 0 (congrArg (fun z:Vx 8 4=>e8 (Vector.toList z)) hm_2) ?_
    refine Z6 (ZY (Z_ (Zj 2 rfl ?_)))
    have ⟨h8,H⟩:=Z4 H
    refine ZV (Zg rfl rfl (fun w=>Jg w s0.2.1 n1 h8)) ?_
    refine ZV (ZT Xr) ?_
    refine Z6 ?_
    have ⟨j2,Hj,H⟩:=Z9 H
    refine Ns (Γ:=Unit) (fun sQ=>[(0,vs key),(4,ptr (some (b1,0)) 0),(5,vi n1),(6,sl (some (b2,0)) ((ZJ (4 * (ZJ (n1+7)))).toNat) ((ZJ (4 * (ZJ (n1+7)))).toNat)),(7,v8 j2.1),(8,vi s0.2.1),(9,ptr (some (b3,0)) 0),(32,vi ((ZJ (4 * (ZJ (n1+7)))).toNat:Int)),(33,vi s0.2.1)]) (fun sQ=>[⟨some (b1,0),e8 Zu.toList⟩,⟨some (b1,256),[sl none ((([]:List (Vx 8 16))).length) ((([]:List (Vx 8 16))++([]:List (Vx 8 16))).length)]⟩,⟨none,eF (fun V:Vx 8 16=>e8 V.toList) (([]:List (Vx 8 16))++([]:List (Vx 8 16)))⟩,⟨some (b2,0),eF (fun V:Vx 8 4=>e8 V.toList) s0.2.2⟩,⟨some (b3,0),e8 j2.2.toList⟩]) ?_ ?_
    ·intro sQ
     refine Z7 (Z_ (YP ?_))
     refine Z6 (ZP ?_)
     have ⟨M7,Hl,H⟩:=Z9 H
     refine Wz [0,4,5,6,7,8,9,32,33,112] [0,0,0,0,0] rfl rfl ?_
     refine Yv (id:=4) (body:=(WH.b1 n1 s0 j2)) (σ:=Int × List (Vx 8 4)) (Γ:=Unit) (Γx:=Unit) (fun s1 ME=>[(0,vs key),(4,ptr (some (b1,0)) 0),(5,vi n1),(6,sl (some (b2,0)) ((ZJ (4 * (ZJ (n1+7)))).toNat) ((ZJ (4 * (ZJ (n1+7)))).toNat)),(7,v8 j2.1),(8,vi s0.2.1),(9,ptr (some (b3,0)) 0),(32,vi ((ZJ (4 * (ZJ (n1+7)))).toNat:Int)),(33,vi s0.2.1),(112,vi s1.1)]) (fun s1 ME=>[⟨some (b1,0),e8 Zu.toList⟩,⟨some (b1,256),[sl none ((([]:List (Vx 8 16))).length) ((([]:List (Vx 8 16))++([]:List (Vx 8 16))).length)]⟩,⟨none,eF (fun V:Vx 8 16=>e8 V.toList) (([]:List (Vx 8 16))++([]:List (Vx 8 16)))⟩,⟨some (b2,0),eF (fun V:Vx 8 4=>e8 V.toList) s1.2⟩,⟨some (b3,0),e8 j2.2.toList⟩]) (fun t g=>[(0,vs key),(4,ptr (some (b1,0)) 0),(5,vi n1),(6,sl (some (b2,0)) ((ZJ (4 * (ZJ (n1+7)))).toNat) ((ZJ (4 * (ZJ (n1+7)))).toNat)),(7,v8 j2.1),(32,vi ((ZJ (4 * (ZJ (n1+7)))).toNat:Int)),(33,vi s0.2.1)]) (fun t g=>[⟨some (b1,0),e8 Zu.toList⟩,⟨some (b1,256),[sl none ((([]:List (Vx 8 16))).length) ((([]:List (Vx 8 16))++([]:List (Vx 8 16))).length)]⟩,⟨none,eF (fun V:Vx 8 16=>e8 V.toList) (([]:List (Vx 8 16))++([]:List (Vx 8 16)))⟩,⟨some (b2,0),eF (fun V:Vx 8 4=>e8 V.toList) t⟩]) ?_ BIG (0,s0.2.2) () M7 Hl ?_
     ·intro s1 ME r1 H K hK hE
      unfold WH.b1 at H
      refine Z_ (ZV (ZT WV) ?_)
      refine Z6 (ZY (UK H (fun hc H=>?_) (fun hc H=>?_)))
      ·refine ZN (Z7 (ZY (ZP (Z_ (Zj 2 rfl ?_)))))
       refine Z6 ?_
       have ⟨h9,H⟩:=Z4 H
       have ⟨JN,H⟩:=Z4 H
       have ⟨h11,H⟩:=Z4 H
       have ⟨h12,H⟩:=Z4 H
       have ⟨h13,H⟩:=Z4 H
       have ⟨h14,H⟩:=Z4 H
       have ⟨h15,H⟩:=Z4 H
       have ⟨IV,hm_3,H⟩:=ZX H
       refine U3 [] 18 rfl ?_
       refine PX 1 [] (.v 0 [] rfl rfl (ZO rfl) (.v 1 [] rfl rfl (ZO rfl) (.v 2 [] rfl rfl (ZO rfl) (.v 3 [] rfl rfl (ZO rfl) (.v 4 [] rfl rfl (ZO rfl) (.v 5 [] rfl rfl (ZO rfl) (.v 6 [5,4] rfl rfl (V9 OX rfl rfl) (.v 7 [] rfl rfl (ZO rfl) (.v 8 [6,3] rfl rfl (RQ (i:=ZJ (s0.2.1 - n1)) rfl rfl underlying127 TM rfl (fun _ h=>by cases h) h9.1 h9.2 (k:=((ZJ (s0.2.1 - n1)).toNat) * 4) rfl) (.v 9 [7,8] rfl rfl (Zw (i:=s1.1) rfl rfl underlying147 Yn rfl h11.1 h11.2 (k:=((ZJ (s0.2.1 - n1)).toNat) * 4+(s1.1).toNat) (k1 _ _)) (.v 10 [9] rfl rfl (Z8 rfl (.o 3) ((UM (g:=fun V:Vx 8 4=>e8 V.toList) (s:=4) (fun _=>by simp) s1.2 ((ZJ (s0.2.1 - n1)).toNat) ((s1.1).toNat) JN (tl h11)).trans (YL (tl h11))) isAgg5) (.v 11 [] rfl rfl (ZO rfl) (.v 12 [11] rfl rfl (Zw (i:=s1.1) rfl rfl underlying147 Yn rfl h12.1 h12.2 (k:=(s1.1).toNat) (Tz _)) (.v 13 [12] rfl rfl (Z8 rfl (.o 4) (YL (f:=v8) (V:=j2.2) (tl h12)) isAgg5) (.v 14 [13,10] rfl rfl (V9 Sr rfl rfl) (.v 15 [0,1] rfl rfl (RQ (i:=s0.2.1) rfl rfl underlying127 TM rfl (fun _ h=>by cases h) h13.1 h13.2 (k:=((s0.2.1).toNat) * 4) rfl) (.v 16 [15,2] rfl rfl (Zw (i:=s1.1) rfl rfl underlying147 Yn rfl h15.1 h15.2 (k:=((s0.2.1).toNat) * 4+(s1.1).toNat) (k1 _ _)) .nil))))))))))))))))) (fun γ=>?_)
       refine Qj [131,129,0,4,5,6,7,8,9,32,33,112] rfl rfl ?_
       refine Qh 17 [] rfl (YR (j:=3) rfl rfl Yn rfl rfl rfl (xZ (g:=fun V:Vx 8 4=>e8 V.toList) (s:=4) (fun _=>by simp) h14 (tl h15)) (cs':=eF (fun V:Vx 8 4=>e8 V.toList) (s1.2.set ((s0.2.1).toNat) (vp (lg s1.2 ((s0.2.1).toNat)) ((s1.1).toNat) ((vg (lg s1.2 ((ZJ (s0.2.1 - n1)).toNat)) ((s1.1).toNat)) ^^^ (vg j2.2 ((s1.1).toNat)))))) (Au (g:=fun V:Vx 8 4=>e8 V.toList) (s:=4) (fun _=>by simp) s1.2 ((s0.2.1).toNat) ((s1.1).toNat) _ _ h14 (tl h15) VR)) (fun _=>rfl) (fun _=>?_)
       refine Iy 3 (congrArg (eF (fun V:Vx 8 4=>e8 V.toList)) hm_3) ?_
       refine Vi ?_
       refine ZW (Z7 (ZH (ZV (ZT XN) ?_)))
       refine YP ?_
       refine ZK ?_
       obtain rfl:=sj H
       exact Ri [0,0,0,0,0] (hK (ZJ (s1.1+1),IV) rfl ())
      refine YW (Z0 (Z0 ?_))
      obtain rfl:=sj H
      exact WW [0,0,0,0] (hE s1.2 rfl ())
     intro g
     refine ZL (ZW (Z7 (ZH (ZV (ZT XN) ?_))))
     refine YP ?_
     refine ZK ?_
     obtain rfl:=sj H
     exact Ri [0,0,0,0] (hK (j2.1,ZJ (s0.2.1+1),M7) rfl ())
    intro hJ
    replace H:=Hj
    refine UK H (fun hc H=>?_) (fun hc H=>?_)
    ·refine ZY ?_
     have ⟨FL,hm_4,H⟩:=ZX H
     refine U3 [] 32 rfl ?_
     refine PX 1 [] (.v 0 [] rfl rfl (ZO rfl) (.v 1 [] rfl rfl (Zw (i:=1) rfl rfl underlying147 Yn rfl (by decide) (by decide) (k:=1) (Tz _)) (.v 2 [1] rfl rfl (Z8 rfl (.o 0) (YL (f:=v8) (V:=SV) (by decide:1<4)) isAgg5) (.v 3 [0] rfl rfl (Zh rfl) (.v 4 [3] rfl rfl (ZQ 0 underlying247 Nv) (.v 5 [2,4] rfl rfl (Zw (i:=((vg SV 1).toNat:Int)) rfl rfl underlying243 Yn rfl (Int.natCast_nonneg _) (zb (n:=8) (k:=256) (vg SV 1) (by decide)) (k:=(vg SV 1).toNat) (Tz _)) (.v 6 [5] rfl rfl (Z8 rfl (.o 1) (YL (f:=v8) (V:=Zu) (toNat_lt (Int.natCast_nonneg _) (zb (n:=8) (k:=256) (vg SV 1) (by decide)))) isAgg5) (.v 7 [] rfl rfl (ZO rfl) (.v 8 [7,6] rfl rfl (V9 Sr rfl rfl) (.v 9 [] rfl rfl (ZO rfl) (.v 10 [] rfl rfl (Zw (i:=2) rfl rfl underlying147 Yn rfl (by decide) (by decide) (k:=2) (Tz _)) (.v 11 [10] rfl rfl (Z8 rfl (.o 0) (YL (f:=v8) (V:=SV) (by decide:2<4)) isAgg5) (.v 12 [9] rfl rfl (Zh rfl) (.v 13 [12] rfl rfl (ZQ 0 underlying247 Nv) (.v 14 [11,13] rfl rfl (Zw (i:=((vg SV 2).toNat:Int)) rfl rfl underlying243 Yn rfl (Int.natCast_nonneg _) (zb (n:=8) (k:=256) (vg SV 2) (by decide)) (k:=(vg SV 2).toNat) (Tz _)) (.v 15 [14] rfl rfl (Z8 rfl (.o 1) (YL (f:=v8) (V:=Zu) (toNat_lt (Int.natCast_nonneg _) (zb (n:=8) (k:=256) (vg SV 2) (by decide)))) isAgg5) (.v 16 [] rfl rfl (ZO rfl) (.v 17 [] rfl rfl (Zw (i:=3) rfl rfl underlying147 Yn rfl (by decide) (by decide) (k:=3) (Tz _)) (.v 18 [17] rfl rfl (Z8 rfl (.o 0) (YL (f:=v8) (V:=SV) (by decide:3<4)) isAgg5) (.v 19 [16] rfl rfl (Zh rfl) (.v 20 [19] rfl rfl (ZQ 0 underlying247 Nv) (.v 21 [18,20] rfl rfl (Zw (i:=((vg SV 3).toNat:Int)) rfl rfl underlying243 Yn rfl (Int.natCast_nonneg _) (zb (n:=8) (k:=256) (vg SV 3) (by decide)) (k:=(vg SV 3).toNat) (Tz _)) (.v 22 [21] rfl rfl (Z8 rfl (.o 1) (YL (f:=v8) (V:=Zu) (toNat_lt (Int.natCast_nonneg _) (zb (n:=8) (k:=256) (vg SV 3) (by decide)))) isAgg5) (.v 23 [] rfl rfl (ZO rfl) (.v 24 [] rfl rfl (Zw (i:=0) rfl rfl underlying147 Yn rfl (by decide) (by decide) (k:=0) (Tz _)) (.v 25 [24] rfl rfl (Z8 rfl (.o 0) (YL (f:=v8) (V:=SV) (by decide:0<4)) isAgg5) (.v 26 [23] rfl rfl (Zh rfl) (.v 27 [26] rfl rfl (ZQ 0 underlying247 Nv) (.v 28 [25,27] rfl rfl (Zw (i:=((vg SV 0).toNat:Int)) rfl rfl underlying243 Yn rfl (Int.natCast_nonneg _) (zb (n:=8) (k:=256) (vg SV 0) (by decide)) (k:=(vg SV 0).toNat) (Tz _)) (.v 29 [28] rfl rfl (Z8 rfl (.o 1) (YL (f:=v8) (V:=Zu) (toNat_lt (Int.natCast_nonneg _) (zb (n:=8) (k:=256) (vg SV 0) (by decide)))) isAgg5) (.v 30 [15,8,29,22] rfl rfl (VJ (pv:=[(0,v8 ((vg Zu ((vg SV 1).toNat)) ^^^ s0.1)),(1,v8 (vg Zu ((vg SV 2).toNat))),(2,v8 (vg Zu ((vg SV 3).toNat))),(3,v8 (vg Zu ((vg SV 0).toNat)))]) rfl rfl underlying147 TM Yn rfl MH (cs:=e8 ((#v[(vg Zu ((vg SV 1).toNat)) ^^^ s0.1,vg Zu ((vg SV 2).toNat),vg Zu ((vg SV 3).toNat),vg Zu ((vg SV 0).toNat)]:Vx 8 4).toList)) (by kernel_rfl)) .nil))))))))))))))))))))))))))))))) (fun γ=>?_)
     refine Qj [87,9,8,0,4,5,6,7,32,33] rfl rfl ?_
     refine Qh 31 [] rfl (Vd 0 TM) (fun _=>rfl) (fun _=>?_)
     refine Iy 0 (congrArg (fun z:Vx 8 4=>e8 (Vector.toList z)) hm_4) ?_
     refine Vi ?_
     refine Z7 (ZH (YP ?_))
     have ⟨YJ,X6,H⟩:=Z9 H
     refine YE (Y4 (NI X6 :) call153 .z) (fun UD=>?_)
     refine Y2 ?_
     refine ZK ?_
     obtain rfl:=sj H
     exact WW [1,1,1,1,0] (hJ ())
    refine Z_ (YP ?_)
    refine ZV (ZT Xr) ?_
    refine YP ?_
    have ⟨j3,Hj,H⟩:=Z9 H
    refine VH (Γ:=Unit) (fun fe=>[(0,vs key),(4,ptr (some (b1,0)) 0),(5,vi n1),(6,sl (some (b2,0)) ((ZJ (4 * (ZJ (n1+7)))).toNat) ((ZJ (4 * (ZJ (n1+7)))).toNat)),(7,v8 s0.1),(8,vi s0.2.1),(9,ptr (some (b3,0)) 0),(32,vi ((ZJ (4 * (ZJ (n1+7)))).toNat:Int)),(33,vi s0.2.1),(97,vb j3)]) (fun fe=>[⟨some (b1,0),e8 Zu.toList⟩,⟨some (b1,256),[sl none ((([]:List (Vx 8 16))).length) ((([]:List (Vx 8 16))++([]:List (Vx 8 16))).length)]⟩,⟨none,eF (fun V:Vx 8 16=>e8 V.toList) (([]:List (Vx 8 16))++([]:List (Vx 8 16)))⟩,⟨some (b2,0),eF (fun V:Vx 8 4=>e8 V.toList) s0.2.2⟩,⟨some (b3,0),e8 SV.toList⟩]) ?_ ?_
    ·intro fe
     refine Z7 (Sn H (fun hc H=>?_) (fun hc H=>?_))
     ·refine Z_ (YP ?_)
      refine Z6 (ZP ?_)
      have ⟨KI,Hl,H⟩:=Z9 H
      refine Wz [0,4,5,6,7,8,9,32,33,98] [0,0,0,0,0] rfl rfl ?_
      refine Yv (id:=2) (body:=(WH.b2 Zu)) (σ:=Int × Vx 8 4) (Γ:=Unit) (Γx:=Unit) (fun s2 y_=>[(0,vs key),(4,ptr (some (b1,0)) 0),(5,vi n1),(6,sl (some (b2,0)) ((ZJ (4 * (ZJ (n1+7)))).toNat) ((ZJ (4 * (ZJ (n1+7)))).toNat)),(7,v8 s0.1),(8,vi s0.2.1),(9,ptr (some (b3,0)) 0),(32,vi ((ZJ (4 * (ZJ (n1+7)))).toNat:Int)),(33,vi s0.2.1),(98,vi s2.1)]) (fun s2 y_=>[⟨some (b1,0),e8 Zu.toList⟩,⟨some (b1,256),[sl none ((([]:List (Vx 8 16))).length) ((([]:List (Vx 8 16))++([]:List (Vx 8 16))).length)]⟩,⟨none,eF (fun V:Vx 8 16=>e8 V.toList) (([]:List (Vx 8 16))++([]:List (Vx 8 16)))⟩,⟨some (b2,0),eF (fun V:Vx 8 4=>e8 V.toList) s0.2.2⟩,⟨some (b3,0),e8 s2.2.toList⟩]) (fun t g=>[(0,vs key),(4,ptr (some (b1,0)) 0),(5,vi n1),(6,sl (some (b2,0)) ((ZJ (4 * (ZJ (n1+7)))).toNat) ((ZJ (4 * (ZJ (n1+7)))).toNat)),(7,v8 s0.1),(8,vi s0.2.1),(9,ptr (some (b3,0)) 0),(32,vi ((ZJ (4 * (ZJ (n1+7)))).toNat:Int)),(33,vi s0.2.1)]) (fun t g=>[⟨some (b1,0),e8 Zu.toList⟩,⟨some (b1,256),[sl none ((([]:List (Vx 8 16))).length) ((([]:List (Vx 8 16))++([]:List (Vx 8 16))).length)]⟩,⟨none,eF (fun V:Vx 8 16=>e8 V.toList) (([]:List (Vx 8 16))++([]:List (Vx 8 16)))⟩,⟨some (b2,0),eF (fun V:Vx 8 4=>e8 V.toList) s0.2.2⟩,⟨some (b3,0),e8 t.toList⟩]) ?_ BIG (0,SV) () KI Hl ?_
      ·intro s2 y_ r1 H K hK hE
       unfold WH.b2 at H
       refine Z_ (ZV (ZT WV) ?_)
       refine Z6 (ZY (UK H (fun hc H=>?_) (fun hc H=>?_)))
       ·refine ZN (Z7 (ZY (ZP (Z_ (Zj 2 rfl ?_)))))
        refine Z6 ?_
        have ⟨h16,H⟩:=Z4 H
        have ⟨h17,H⟩:=Z4 H
        have ⟨BH,hm_5,H⟩:=ZX H
        refine U3 [] 11 rfl ?_
        refine PX 1 [] (.v 0 [] rfl rfl (ZO rfl) (.v 1 [] rfl rfl (ZO rfl) (.v 2 [] rfl rfl (ZO rfl) (.v 3 [2] rfl rfl (Zw (i:=s2.1) rfl rfl underlying147 Yn rfl h16.1 h16.2 (k:=(s2.1).toNat) (Tz _)) (.v 4 [3] rfl rfl (Z8 rfl (.o 4) (YL (f:=v8) (V:=s2.2) (tl h16)) isAgg5) (.v 5 [1] rfl rfl (Zh rfl) (.v 6 [5] rfl rfl (ZQ 0 underlying247 Nv) (.v 7 [4,6] rfl rfl (Zw (i:=((vg s2.2 ((s2.1).toNat)).toNat:Int)) rfl rfl underlying243 Yn rfl (Int.natCast_nonneg _) (zb (n:=8) (k:=256) (vg s2.2 ((s2.1).toNat)) (by decide)) (k:=(vg s2.2 ((s2.1).toNat)).toNat) (Tz _)) (.v 8 [7] rfl rfl (Z8 rfl (.o 0) (YL (f:=v8) (V:=Zu) (toNat_lt (Int.natCast_nonneg _) (zb (n:=8) (k:=256) (vg s2.2 ((s2.1).toNat)) (by decide)))) isAgg5) (.v 9 [0] rfl rfl (Zw (i:=s2.1) rfl rfl underlying147 Yn rfl h17.1 h17.2 (k:=(s2.1).toNat) (Tz _)) .nil)))))))))) (fun γ=>?_)
        refine Qj [110,109,0,4,5,6,7,8,9,32,33,98] rfl rfl ?_
        refine Qh 10 [] rfl (YR (j:=4) rfl rfl Yn rfl rfl rfl (by simpa using (tl h17)) (cs':=e8 ((vp s2.2 ((s2.1).toNat) (vg Zu ((vg s2.2 ((s2.1).toNat)).toNat))).toList)) VR) (fun _=>rfl) (fun _=>?_)
        refine Iy 4 (congrArg (fun z:Vx 8 4=>e8 (Vector.toList z)) hm_5) ?_
        refine Vi ?_
        refine ZW (Z7 (ZH (ZV (ZT XN) ?_)))
        refine YP ?_
        refine ZK ?_
        obtain rfl:=sj H
        exact Ri [0,0,0,0,0] (hK (ZJ (s2.1+1),BH) rfl ())
       refine YW (Z0 (Z0 ?_))
       obtain rfl:=sj H
       exact WW [0,0,0,0,0] (hE s2.2 rfl ())
      intro g
      refine ZL ?_
      obtain rfl:=sj H
      exact WW [0,0,0,0,0] (hJ ())
     refine ZN ?_
     obtain rfl:=sj H
     exact WW [0,0,0,0,0] (hJ ())
    intro hJ
    replace H:=Hj
    refine Td (d:=92) H (fun hc H=>?_) (fun hc H=>?_)
    ·refine Zj 2 rfl ?_
     have ⟨h18,H⟩:=Z4 H
     refine Zc (Zg rfl rfl (fun w=>Jg w s0.2.1 n1 h18)) ?_
     refine Zc (ZT Xr) ?_
     refine ak ?_
     refine ZK ?_
     obtain rfl:=sj H
     exact WW [1,1,1,1,0] (hJ ())
    refine Zj 5 rfl ?_
    refine ZK ?_
    obtain rfl:=sj H
    exact WW [1,1,1,1,0] (hJ ())
   refine YW (Z0 (Z0 ?_))
   obtain rfl:=sj H
   exact WW [0,0,0,0] (hE s0.2.2 rfl ())
  intro g
  refine ZL (Z7 (Z_ (Zj 2 rfl ?_)))
  refine ZV (ZT XN) ?_
  have ⟨h19,H⟩:=Z4 H
  refine YE (eU rfl rfl underlying245 UW Pp (by kernel_rfl) rfl rfl (B:=16) rfl h19.1 (Int.le_refl _) (wV 16 rfl h19) (ww h19) (n':=(ZJ (n1+7)).toNat) (c':=(ZJ (n1+7)).toNat) rfl rfl (cs:=eF (fun V:Vx 8 16=>e8 V.toList) (List.replicate ((ZJ (n1+7)).toNat) (replicate 16 0#8))) (wJ (g:=fun V:Vx 8 16=>e8 V.toList))) (fun b4=>?_)
  refine ZV (Zh rfl) ?_
  refine ZV (ZQ 256 underlying247 Ii) ?_
  refine VM (YR (j:=2) rfl rfl Ii rfl rfl rfl (Nat.lt_succ_self 0) (cs':=[sl (some (b4,0)) ((ZJ (n1+7)).toNat) ((ZJ (n1+7)).toNat)]) rfl) (fun _=>?_)
  refine Z6 (ZY (Z_ (YP ?_)))
  refine ZV (ZG rfl underlying127) ?_
  refine YP ?_
  refine Z6 (ZP ?_)
  have ⟨Gu,Hl,H⟩:=Z9 H
  refine Wz [4,6,141,142] [1,1,0,1] rfl rfl ?_
  refine Yv (id:=6) (body:=(WH.b3 n1 Yw)) (σ:=Int × List (Vx 8 16)) (Γ:=Unit) (Γx:=Unit) (fun s3 uz=>[(4,ptr (some (b1,0)) 0),(6,sl (some (b2,0)) ((ZJ (4 * (ZJ (n1+7)))).toNat) ((ZJ (4 * (ZJ (n1+7)))).toNat)),(141,vi ((ZJ (4 * (ZJ (n1+7)))).toNat:Int)),(142,vi s3.1)]) (fun s3 uz=>[⟨some (b1,0),e8 Zu.toList⟩,⟨some (b1,256),[sl (some (b4,0)) ((ZJ (n1+7)).toNat) ((ZJ (n1+7)).toNat)]⟩,⟨some (b4,0),eF (fun V:Vx 8 16=>e8 V.toList) s3.2⟩,⟨some (b2,0),eF (fun V:Vx 8 4=>e8 V.toList) Yw⟩]) (fun t g=>[(4,ptr (some (b1,0)) 0)]) (fun t g=>[⟨some (b1,0),e8 Zu.toList⟩,⟨some (b1,256),[sl (some (b4,0)) ((ZJ (n1+7)).toNat) ((ZJ (n1+7)).toNat)]⟩,⟨some (b4,0),eF (fun V:Vx 8 16=>e8 V.toList) t⟩]) ?_ BIG (0,List.replicate ((ZJ (n1+7)).toNat) (replicate 16 0#8)) () Gu Hl ?_
  ·intro s3 uz r1 H K hK hE
   unfold WH.b3 at H
   refine Z_ (ZV (ZT WV) ?_)
   refine Z6 (ZY (UK H (fun hc H=>?_) (fun hc H=>?_)))
   ·refine ZN (Z7 (ZY (ZP (Z_ (Zj 2 rfl ?_)))))
    refine Z6 ?_
    have ⟨h20,H⟩:=Z4 H
    have ⟨h21,H⟩:=Z4 H
    have ⟨h22,H⟩:=Z4 H
    have ⟨h23,H⟩:=Z4 H
    have ⟨h24,H⟩:=Z4 H
    have ⟨h25,H⟩:=Z4 H
    have ⟨h26,H⟩:=Z4 H
    have ⟨rT,hm_6,H⟩:=ZX H
    refine U3 [] 16 rfl ?_
    refine PX 1 [] (.v 0 [] rfl rfl (ZO rfl) (.v 1 [0] rfl rfl (Zh rfl) (.v 2 [1] rfl rfl (ZQ 256 underlying247 Ii) (.v 3 [2] rfl rfl (Z8 rfl (.o 1) rfl isAgg245) (.v 4 [] rfl rfl (ZO rfl) (.v 5 [4] rfl rfl (Zg rfl rfl (fun w=>Lh w s3.1 4 (by decide))) (.v 6 [3,5] rfl rfl (RQ (i:=ZJ (s3.1.tdiv 4)) rfl rfl underlying245 UW rfl (fun _ h=>by cases h) h20.1 h20.2 (k:=((ZJ (s3.1.tdiv 4)).toNat) * 16) rfl) (.v 7 [] rfl rfl (ZO rfl) (.v 8 [7] rfl rfl (Zg rfl rfl (fun w=>Jg w s3.1 4 (by decide))) (.v 9 [8] rfl rfl (V9 Ma rfl rfl) (.v 10 [9,6] rfl rfl (Ht (l:=(ZJ (4 * (s3.1.tmod 4))).toNat) (h:=16) rfl (by simp) underlying171 Yn rfl (OZ.some' (i:=ZJ (4 * (s3.1.tmod 4))) rfl h22) OZ.none' h23 (Nat.le_refl _) h24) (.v 11 [] rfl rfl (ZO rfl) (.v 12 [] rfl rfl (ZO rfl) (.v 13 [11,12] rfl rfl (RQ (i:=s3.1) rfl rfl underlying127 TM rfl (fun _ h=>by cases h) h25.1 h25.2 (k:=((s3.1).toNat) * 4) rfl) (.v 14 [13] rfl rfl (Ht (l:=0) (h:=4) rfl (by simp) underlying147 Yn rfl OZ.none' OZ.none' (Nat.zero_le _) (Nat.le_refl _) (by decide)) .nil))))))))))))))) (fun γ=>?_)
    refine Qj [159,155,4,6,141,142] rfl rfl ?_
    refine Tm 15 [] rfl (sw (o:=((ZJ (s3.1.tdiv 4)).toNat) * 16+((ZJ (4 * (s3.1.tmod 4))).toNat)) (j:=2) (ds:=(sub ((lg Yw ((s3.1).toNat)).toList) 0 4)) rfl rfl (by simp) underlying86 Yn rfl (iD 0 4 h26 (.o 3)) (WA (by simp)) rfl rfl (ym (n:=16) (l:=(ZJ (4 * (s3.1.tmod 4))).toNat) (d:=16 - ((ZJ (4 * (s3.1.tmod 4))).toNat)) h21 (by omega)) (cs':=eF (fun V:Vx 8 16=>e8 V.toList) (s3.2.set ((ZJ (s3.1.tdiv 4)).toNat) (EX (lg s3.2 ((ZJ (s3.1.tdiv 4)).toNat)) ((ZJ (4 * (s3.1.tmod 4))).toNat) ((sub ((lg Yw ((s3.1).toNat)).toList) 0 4).take (min (4 - 0) (16 - ((ZJ (4 * (s3.1.tmod 4))).toNat))))))) (Fw h21 (Ja (n:=16) (l:=(ZJ (4 * (s3.1.tmod 4))).toNat) (d:=16 - ((ZJ (4 * (s3.1.tmod 4))).toNat)) (by omega)))) (fun _=>rfl) (fun _=>?_)
    refine Iy 2 (congrArg (eF (fun V:Vx 8 16=>e8 V.toList)) hm_6) ?_
    refine Vi ?_
    refine ZW (Z7 (ZH (ZV (ZT XN) ?_)))
    refine YP ?_
    refine ZK ?_
    obtain rfl:=sj H
    exact Ri [0,0,0,0] (hK (ZJ (s3.1+1),rT) rfl ())
   refine YW (Z0 (Z0 ?_))
   obtain rfl:=sj H
   exact WW [0,0,0] (hE s3.2 rfl ())
  intro g
  refine ZL (Z7 (Z_ (Zj 3 rfl ?_)))
  refine Zq ?_
  obtain rfl:=sj H
  exact JK ((),(b1,b4)) [0,0,0] (vs:=[_,_]) rfl ⟨rfl,rfl,trivial⟩ rfl
 intro hJ
 replace H:=Hj
 refine Td (d:=16) H (fun hc H=>?_) (fun hc H=>?_)
 ·refine Zc (ZO rfl) ?_
  refine Zc (Zf rfl underlying9) ?_
  refine Zc (ZT SN) ?_
  refine ak ?_
  refine ZK ?_
  obtain rfl:=sj H
  exact WW [] (hJ ())
 refine Zj 4 rfl ?_
 refine ZK ?_
 obtain rfl:=sj H
 exact WW [] (hJ ())
end Go.Proofs
end

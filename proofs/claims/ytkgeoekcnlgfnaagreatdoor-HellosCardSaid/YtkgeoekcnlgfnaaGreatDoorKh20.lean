/-
  Part 20 of the proof of what several laws share.
-/
import Derived.Test.YtkgeoekcnlgfnaaGreatDoorKh19
set_option maxHeartbeats 4000000
set_option maxRecDepth 20000
set_option linter.unusedVariables false
set_option linter.unusedSimpArgs false
section
namespace Go.Proofs
open Go Go.Kx
open TryzI Tryz
def VT.b0 (a_:Vx 32 8) (s0:Int × List (BitVec 8)):Option ((Int × List (BitVec 8)) ⊕ (List (BitVec 8))) :=
 if s0.1<32 then (if 0≤ZJ (7 - (ZJ (s0.1.tdiv 4)))∧ZJ (7 - (ZJ (s0.1.tdiv 4)))<(8:Int) then (if 0≤ZJ (24 - (ZJ (8 * (s0.1.tmod 4)))) then (if 0≤s0.1∧s0.1<(32:Int) then (if (s0.1).toNat<(s0.2).length then (X5 (s0.2.set ((s0.1).toNat) ((((vg a_ ((ZJ (7 - (ZJ (s0.1.tdiv 4)))).toNat)) >>> (ZJ (24 - (ZJ (8 * (s0.1.tmod 4))))).toNat) &&& 255#32).setWidth 8)) fun Xi=>(X5 (ZJ (s0.1+1)) fun i1=>(some (.inl (i1,Xi))))) else none) else none) else none) else none) else (some (.inr s0.2))
def VT (a_:Vx 32 8):Option (Str) :=
 (loop (VT.b0 a_) BIG (0,List.replicate 32 0#8)).bind fun Yw=>(if (Yw).length=32 then (some Yw) else none)
theorem F4 {a_:Vx 32 8} {r:Str} (H:VT a_=some r) :
  Does Tryz.prog 94 [aG [(8,e32 a_.toList)]] [] [] (Γ:=Unit) (fun g=>vs r) (fun g=>[]):=by
 intro w hmem hro hd
 refine Zn func94 rfl ntmps94 rfl hmem hro hd ?_
 unfold VT at H
 refine Z_ (YE (UN [(8,e32 a_.toList)] rfl rfl ⟨(Wl (f:=v32) a_),trivial⟩) (fun b1=>?_))
 refine Y2 ?_
 refine Z6 (Z_ (YE (OA rfl rfl underlying86 Yn (z:=v8 0#8) rfl rfl rfl (B:=1) rfl (by decide) (Int.le_refl _) (by decide) (by decide) (n':=32) (c':=32) rfl rfl (cs:=e8 (List.replicate 32 0#8)) (Ti (f:=v8))) (fun b2=>?_)))
 refine Y2 ?_
 refine Z6 (ZY (Z_ (Y2 ?_)))
 refine Z6 (ZP ?_)
 have ⟨Yw,Hl,H⟩:=Z9 H
 refine Wz [1,3,4] [1,0] rfl rfl ?_
 refine Yv (id:=0) (body:=(VT.b0 a_)) (σ:=Int × List (BitVec 8)) (Γ:=Unit) (Γx:=Unit) (fun s0 WG=>[(1,ptr (some (b1,0)) 0),(3,sl (some (b2,0)) 32 32),(4,vi s0.1)]) (fun s0 WG=>[⟨some (b1,0),e32 a_.toList⟩,⟨some (b2,0),e8 s0.2⟩]) (fun t g=>[(3,sl (some (b2,0)) 32 32)]) (fun t g=>[⟨some (b2,0),e8 t⟩]) ?_ BIG (0,List.replicate 32 0#8) () Yw Hl ?_
 ·intro s0 WG r1 H K hK hE
  unfold VT.b0 at H
  refine ZY (Z_ (YP ?_))
  refine ZV (ZT WV) ?_
  refine Z6 (UK H (fun hc H=>?_) (fun hc H=>?_))
  ·refine ZN (Z7 (ZY (ZP (ZH (Zj 3 rfl ?_)))))
   refine ZV (Zg rfl rfl (fun w=>Lh w s0.1 4 (by decide))) ?_
   refine ZV (ZT OX) ?_
   have ⟨h1,H⟩:=Z4 H
   refine ZV (Zw (i:=ZJ (7 - (ZJ (s0.1.tdiv 4)))) rfl rfl underlying142 Ud rfl h1.1 h1.2 (k:=(ZJ (7 - (ZJ (s0.1.tdiv 4)))).toNat) (Tz _)) ?_
   refine ZV (Z8 rfl (.o 0) (YL (f:=v32) (V:=a_) (tl h1)) isAgg140) ?_
   refine YP ?_
   refine ZV (Zg rfl rfl (fun w=>Jg w s0.1 4 (by decide))) ?_
   refine ZV (ZT Ma) ?_
   refine ZV (ZT OX) ?_
   have ⟨h2,H⟩:=Z4 H
   refine ZV (Zg rfl rfl (fun w=>eD w (vg a_ ((ZJ (7 - (ZJ (s0.1.tdiv 4)))).toNat)) .i64 (ZJ (24 - (ZJ (8 * (s0.1.tmod 4))))) h2)) ?_
   refine ZV (Zg rfl rfl (fun w=>aa8 w ((vg a_ ((ZJ (7 - (ZJ (s0.1.tdiv 4)))).toNat)) >>> (ZJ (24 - (ZJ (8 * (s0.1.tmod 4))))).toNat) 255#32)) ?_
   refine ZV (Vu rfl (fun w=>tZ w _ _ underlying5 (Lu) (((vg a_ ((ZJ (7 - (ZJ (s0.1.tdiv 4)))).toNat)) >>> (ZJ (24 - (ZJ (8 * (s0.1.tmod 4))))).toNat) &&& 255#32))) ?_
   have ⟨h3,H⟩:=Z4 H
   have ⟨h4,H⟩:=Z4 H
   refine ZV (RQ (i:=s0.1) rfl rfl underlying86 Yn rfl (fun _ h=>by cases h) h3.1 h3.2 (k:=(s0.1).toNat) (JZ _)) ?_
   refine VM (YR (j:=1) rfl rfl Yn rfl rfl rfl (by simpa using h4) (cs':=e8 (s0.2.set ((s0.1).toNat) ((((vg a_ ((ZJ (7 - (ZJ (s0.1.tdiv 4)))).toNat)) >>> (ZJ (24 - (ZJ (8 * (s0.1.tmod 4))))).toNat) &&& 255#32).setWidth 8))) (I1 (f:=v8) (l:=s0.2) (k:=((s0.1).toNat)) (x:=((((vg a_ ((ZJ (7 - (ZJ (s0.1.tdiv 4)))).toNat)) >>> (ZJ (24 - (ZJ (8 * (s0.1.tmod 4))))).toNat) &&& 255#32).setWidth 8)))) (fun _=>?_)
   have ⟨Xi,hm_1,H⟩:=ZX H
   refine Ta 1 (congrArg (e8) hm_1) ?_
   refine ZK (ZW (Z7 (ZH (YP ?_))))
   refine ZV (ZT XN) ?_
   refine Y2 ?_
   have ⟨i1,Ll,H⟩:=ZX H
   refine WN 4 (congrArg vi Ll) ?_
   refine ZK ?_
   obtain rfl:=sj H
   exact Ri [0,0] (hK (i1,Xi) rfl ())
  refine YW (Z0 (Z0 ?_))
  obtain rfl:=sj H
  exact WW [1] (hE s0.2 rfl ())
 intro g
 refine ZL (Z7 (Z_ (YP ?_)))
 have ⟨h5,H⟩:=Z4 H
 refine ZV (QY rfl underlying86 underlying5 underlying9 (.o 0) h5) ?_
 refine Y2 ?_
 refine Zq ?_
 obtain rfl:=sj H
 exact Wj
def M8 (which:Int) (a_ b:Vx 32 8):Option (Vx 32 8) :=
 (XC a_ b).bind fun Zu=>(if Zu=true then ((VE which).bind fun YJ=>((VS a_ YJ).bind fun X7=>((W_ X7.1 b).bind fun Xu=>(some Xu)))) else ((W_ a_ b).bind fun UC=>(some UC)))
theorem rC {which:Int} {a_:Vx 32 8} {b:Vx 32 8} {r:Vx 32 8} (H:M8 which a_ b=some r) :
  Does Tryz.prog 96 [vi which,aG [(8,e32 a_.toList)],aG [(8,e32 b.toList)]] [] [] (Γ:=Unit) (fun g=>aG [(8,e32 r.toList)]) (fun g=>[]):=by
 intro w hmem hro hd
 refine Zn func96 rfl ntmps96 rfl hmem hro hd ?_
 unfold M8 at H
 refine Z_ (YE (UN [(8,e32 a_.toList)] rfl rfl ⟨(Wl (f:=v32) a_),trivial⟩) (fun b1=>?_))
 refine YE (UN [(8,e32 b.toList)] rfl rfl ⟨(Wl (f:=v32) b),trivial⟩) (fun b2=>?_)
 refine YE (Q7 8 YQ TE) (fun b3=>?_)
 refine Z6 (ZY (Z_ (ZV (Wi (.o 2) isAgg142 YQ) ?_)))
 refine ZV (Wi (.o 1) isAgg142 YQ) ?_
 have ⟨Zu,Yk,H⟩:=Z9 H
 refine YE (Y4 (J2 Yk :) call110 .z) (fun Re=>?_)
 refine Z6 (Sn H (fun hc H=>?_) (fun hc H=>?_))
 ·refine ZY ?_
  have ⟨YJ,X6,H⟩:=Z9 H
  have ⟨X7,Vt,H⟩:=Z9 H
  refine U3 [0,0,0] 9 rfl ?_
  refine Zz 0 rfl (Wi (.o 2) isAgg142 YQ) ?_
  refine YA 0 1 rfl ?_
  refine TBP [ED 2 15 (aG [(8,e32 YJ.toList)]) [],ED 3 16 (Value.tuple [aG [(8,e32 X7.1.toList)],v64 X7.2].toArray) [2],ED 4 12 (Value.tuple [aG [(8,e32 X7.1.toList)],v64 X7.2].toArray) [3],ED 5 17 (aG [(8,e32 X7.1.toList)]) [4],abt 7 7 8] [ED 6 18 (v64 X7.2) [4]] 2 [1,1,1] (.e rfl (Qg (Kq X6 :) call111 .z) (.e rfl (Qg (DZ Vt :) call112 .z) (.v rfl (ZO rfl) (.v rfl K5 (.c rfl (fun _ _=>(Q7 8 YQ TE)) .nil))))) (.c rfl (fun _=>K5) .nil) (fun γ=>?_)
  refine Qj [18,7,17,6,5,4] rfl rfl ?_
  generalize γ 7=b4
  refine Qh 8 [1,1,1] rfl (Vd (vs:=e32 X7.1.toList) 0 YQ) (fun _=>rfl) (fun _=>?_)
  refine xH 9 rfl (XL rfl) ?_
  refine Vi ?_
  refine Z7 (ZH (ZV (Wi (.o 0) isAgg142 YQ) ?_))
  refine VM (Vd (vs:=e32 X7.1.toList) 3 YQ) (fun _=>?_)
  refine Z6 (Z_ (ZV (Wi (.o 3) isAgg142 YQ) ?_))
  refine ZV (Wi (.o 2) isAgg142 YQ) ?_
  have ⟨Xu,UH,H⟩:=Z9 H
  refine YE (Y4 (J7 UH :) call113 .z) (fun JV=>?_)
  refine VM (Vd (vs:=e32 Xu.toList) 1 YQ) (fun _=>?_)
  refine Zq ?_
  obtain rfl:=sj H
  exact SF (vs:=[_]) rfl ⟨(Wm (n:=8) rfl (by simp) (.o 1) isAgg142 YQ rfl (Wl (f:=v32) Xu)),trivial⟩
 refine ZN (Z7 (Z_ (ZV (Wi (.o 2) isAgg142 YQ) ?_)))
 refine ZV (Wi (.o 1) isAgg142 YQ) ?_
 have ⟨UC,Qi,H⟩:=Z9 H
 refine YE (Y4 (J7 Qi :) call113 .z) (fun zM=>?_)
 refine VM (Vd (vs:=e32 UC.toList) 0 YQ) (fun _=>?_)
 refine Zq ?_
 obtain rfl:=sj H
 exact SF (vs:=[_]) rfl ⟨(Wm (n:=8) rfl (by simp) (.o 0) isAgg142 YQ rfl (Wl (f:=v32) UC)),trivial⟩
def OT (which:Int):Option (Vx 32 8) :=
 X5 (decide (which=0)) fun x1=>(if x1=true then (X5 ((#v[3#32,0#32,4294967295#32,4294967291#32,4294967294#32,4294967295#32,4294967293#32,4#32]:Vx 32 8)) fun Xi=>(some Xi)) else (X5 (decide (which=1)) fun x2=>(if x2=true then (X5 ((#v[3195661986#32,2200194197#32,1237151654#32,1184463260#32,728493145#32,675656249#32,4091106848#32,1726033300#32]:Vx 32 8)) fun SV=>(some SV)) else (X5 ((#v[1444#32,0#32,0#32,0#32,0#32,0#32,0#32,0#32]:Vx 32 8)) fun IV=>(some IV)))))
theorem vZ {which:Int} {r:Vx 32 8} (H:OT which=some r) :
  Does Tryz.prog 127 [vi which] [] [] (Γ:=Unit) (fun g=>aG [(8,e32 r.toList)]) (fun g=>[]):=by
 intro w hmem hro hd
 refine Zn func127 rfl ntmps127 rfl hmem hro hd ?_
 unfold OT at H
 refine Z_ (YE (Q7 8 YQ TE) (fun b1=>?_))
 refine Z6 (ZY (Z_ (YP ?_)))
 refine Z6 (ZP (Z_ (ZV (ZT Xr) ?_)))
 refine Y2 ?_
 have ⟨x1,TK,H⟩:=ZX H
 refine WN 4 (congrArg vb TK) ?_
 refine Z6 (Sn H (fun hc H=>?_) (fun hc H=>?_))
 ·refine Z_ (ZV (VJ (pv:=[(0,v32 3#32),(1,v32 0#32),(2,v32 4294967295#32),(3,v32 4294967291#32),(4,v32 4294967294#32),(5,v32 4294967295#32),(6,v32 4294967293#32),(7,v32 4#32)]) rfl rfl underlying142 YQ Ud rfl TE (cs:=e32 ((#v[3#32,0#32,4294967295#32,4294967291#32,4294967294#32,4294967295#32,4294967293#32,4#32]:Vx 32 8).toList)) (by kernel_rfl)) ?_)
  refine VM (Vd 0 YQ) (fun _=>?_)
  have ⟨Xi,hm_1,H⟩:=ZX H
  refine Ta 0 (congrArg (fun z:Vx 32 8=>e32 (Vector.toList z)) hm_1) ?_
  refine Zq (ZE (ZZ ?_))
  obtain rfl:=sj H
  exact SF (vs:=[_]) rfl ⟨(Wm (n:=8) rfl (by simp) (.o 0) isAgg142 YQ rfl (Wl (f:=v32) Xi)),trivial⟩
 refine Z_ (ZV (ZT Xr) ?_)
 refine Y2 ?_
 have ⟨x2,KO,H⟩:=ZX H
 refine WN 7 (congrArg vb KO) ?_
 refine Z6 (Sn H (fun hc H=>?_) (fun hc H=>?_))
 ·refine Z_ (ZV (VJ (pv:=[(0,v32 3195661986#32),(1,v32 2200194197#32),(2,v32 1237151654#32),(3,v32 1184463260#32),(4,v32 728493145#32),(5,v32 675656249#32),(6,v32 4091106848#32),(7,v32 1726033300#32)]) rfl rfl underlying142 YQ Ud rfl TE (cs:=e32 ((#v[3195661986#32,2200194197#32,1237151654#32,1184463260#32,728493145#32,675656249#32,4091106848#32,1726033300#32]:Vx 32 8).toList)) (by kernel_rfl)) ?_)
  refine VM (Vd 0 YQ) (fun _=>?_)
  have ⟨SV,hm_2,H⟩:=ZX H
  refine Ta 0 (congrArg (fun z:Vx 32 8=>e32 (Vector.toList z)) hm_2) ?_
  refine Zq (ZE (ZZ ?_))
  obtain rfl:=sj H
  exact SF (vs:=[_]) rfl ⟨(Wm (n:=8) rfl (by simp) (.o 0) isAgg142 YQ rfl (Wl (f:=v32) SV)),trivial⟩
 refine ZN (ZW (Z7 (Z_ (ZV (VJ (pv:=[(0,v32 1444#32),(1,v32 0#32),(2,v32 0#32),(3,v32 0#32),(4,v32 0#32),(5,v32 0#32),(6,v32 0#32),(7,v32 0#32)]) rfl rfl underlying142 YQ Ud rfl TE (cs:=e32 ((#v[1444#32,0#32,0#32,0#32,0#32,0#32,0#32,0#32]:Vx 32 8).toList)) (by kernel_rfl)) ?_))))
 refine VM (Vd 0 YQ) (fun _=>?_)
 have ⟨IV,hm_3,H⟩:=ZX H
 refine Ta 0 (congrArg (fun z:Vx 32 8=>e32 (Vector.toList z)) hm_3) ?_
 refine Zq ?_
 obtain rfl:=sj H
 exact SF (vs:=[_]) rfl ⟨(Wm (n:=8) rfl (by simp) (.o 0) isAgg142 YQ rfl (Wl (f:=v32) IV)),trivial⟩
def Pq (which:Int):Option (BitVec 64) :=
 X5 (decide (which=0)) fun x1=>(if x1=true then (some 1#64) else (X5 (decide (which=1)) fun x2=>(if x2=true then (some 3993025615#64) else (some 678152731#64))))
theorem wL {which:Int} {r:BitVec 64} (H:Pq which=some r) :
  Does Tryz.prog 126 [vi which] [] [] (Γ:=Unit) (fun g=>v64 r) (fun g=>[]):=by
 intro w hmem hro hd
 refine Zn func126 rfl ntmps126 rfl hmem hro hd ?_
 unfold Pq at H
 refine Z_ (Y2 ?_)
 refine Z6 (ZY (Z_ (YP ?_)))
 refine Z6 (ZP (Z_ (ZV (ZT Xr) ?_)))
 refine Y2 ?_
 have ⟨x1,TK,H⟩:=ZX H
 refine WN 4 (congrArg vb TK) ?_
 refine Z6 (Sn H (fun hc H=>?_) (fun hc H=>?_))
 ·refine Z_ (Y2 ?_)
  refine Zq (ZE (ZZ ?_))
  obtain rfl:=sj H
  exact Wj
 refine Z_ (ZV (ZT Xr) ?_)
 refine Y2 ?_
 have ⟨x2,KO,H⟩:=ZX H
 refine WN 6 (congrArg vb KO) ?_
 refine Z6 (Sn H (fun hc H=>?_) (fun hc H=>?_))
 ·refine Z_ (Y2 ?_)
  refine Zq (ZE (ZZ ?_))
  obtain rfl:=sj H
  exact Wj
 refine ZN (ZW (Z7 (Z_ (Y2 ?_))))
 refine Zq ?_
 obtain rfl:=sj H
 exact Wj
open Vector (replicate)
open TryzI Tryz
def X4.b1 (a_ b:Vx 32 8) (s0:Int × Vx 64 10) (s1:BitVec 64 × Int × Vx 64 10):Option ((BitVec 64 × Int × Vx 64 10) ⊕ (BitVec 64 × Vx 64 10)) :=
 if s1.2.1<8 then (if 0≤s1.2.1∧s1.2.1<(10:Int) then (if 0≤s1.2.1∧s1.2.1<(8:Int) then (if 0≤s0.1∧s0.1<(8:Int) then (X5 (((vg s1.2.2 ((s1.2.1).toNat))+(((vg a_ ((s1.2.1).toNat)).setWidth 64) * ((vg b ((s0.1).toNat)).setWidth 64)))+s1.1) fun JW=>(if 0≤s1.2.1∧s1.2.1<(10:Int) then (X5 (vp s1.2.2 ((s1.2.1).toNat) (JW &&& 4294967295#64)) fun Xi=>(X5 (ZJ (s1.2.1+1)) fun j1=>(some (.inl (JW >>> 32,j1,Xi))))) else none)) else none) else none) else none) else (some (.inr (s1.1,s1.2.2)))
def X4.b2 (Zu:Vx 32 8) (q1:BitVec 64) (s2:BitVec 64 × Int × Vx 64 10):Option ((BitVec 64 × Int × Vx 64 10) ⊕ (BitVec 64 × Vx 64 10)) :=
 if s2.2.1<8 then (if 0≤s2.2.1∧s2.2.1<(10:Int) then (if 0≤s2.2.1∧s2.2.1<(8:Int) then (X5 (((vg s2.2.2 ((s2.2.1).toNat))+(q1 * ((vg Zu ((s2.2.1).toNat)).setWidth 64)))+s2.1) fun dX=>(if 0≤ZJ (s2.2.1 - 1)∧ZJ (s2.2.1 - 1)<(10:Int) then (X5 (vp s2.2.2 ((ZJ (s2.2.1 - 1)).toNat) (dX &&& 4294967295#64)) fun IV=>(X5 (ZJ (s2.2.1+1)) fun j2=>(some (.inl (dX >>> 32,j2,IV))))) else none)) else none) else none) else (some (.inr (s2.1,s2.2.2)))
def X4.b0 (a_ b Zu:Vx 32 8) (YJ:BitVec 64) (s0:Int × Vx 64 10):Option ((Int × Vx 64 10) ⊕ (Vx 64 10)) :=
 if s0.1<8 then ((loop (X4.b1 a_ b s0) BIG (0#64,0,s0.2)).bind fun M7=>(X5 ((vg M7.2 8)+M7.1) fun uQ=>(X5 (vp M7.2 8 (uQ &&& 4294967295#64)) fun SV=>(X5 (((vg (vp SV 9 (uQ >>> 32)) 0) * YJ) &&& 4294967295#64) fun q1=>(X5 (((vg (vp SV 9 (uQ >>> 32)) 0)+(q1 * ((vg Zu 0).setWidth 64))) >>> 32) fun c1=>((loop (X4.b2 Zu q1) BIG (c1,1,vp SV 9 (uQ >>> 32))).bind fun KI=>(X5 ((vg KI.2 8)+KI.1) fun dA=>(X5 (vp KI.2 7 (dA &&& 4294967295#64)) fun FL=>(X5 (vp FL 8 ((vg FL 9)+(dA >>> 32))) fun BH=>(X5 (ZJ (s0.1+1)) fun i1=>(some (.inl (i1,vp BH 9 0#64))))))))))))) else (some (.inr s0.2))
def X4.b3 (Yw:Vx 64 10) (s3:Int × Vx 32 8):Option ((Int × Vx 32 8) ⊕ (Vx 32 8)) :=
 if s3.1<8 then (if 0≤s3.1∧s3.1<(10:Int) then (if 0≤s3.1∧s3.1<(8:Int) then (X5 (vp s3.2 ((s3.1).toNat) ((vg Yw ((s3.1).toNat)).setWidth 32)) fun rT=>(X5 (ZJ (s3.1+1)) fun i2=>(some (.inl (i2,rT))))) else none) else none) else (some (.inr s3.2))
def X4 (which:Int) (a_ b:Vx 32 8):Option (Vx 32 8) :=
 (VE which).bind fun Zu=>((Pq which).bind fun YJ=>((loop (X4.b0 a_ b Zu YJ) BIG (0,replicate 10 0#64)).bind fun Yw=>((loop (X4.b3 Yw) BIG (0,replicate 8 0#32)).bind fun Gu=>((if (0#64).toNat<((vg Yw 8)).toNat then (some true) else ((XC Gu Zu).bind fun Xu=>(some (!Xu)))).bind fun j3=>(if j3=true then ((W_ Gu Zu).bind fun X7=>(some X7)) else (some Gu))))))
theorem Ea {which:Int} {a_:Vx 32 8} {b:Vx 32 8} {r:Vx 32 8} (H:X4 which a_ b=some r) :
  Does Tryz.prog 114 [vi which,aG [(8,e32 a_.toList)],aG [(8,e32 b.toList)]] [] [] (Γ:=Unit) (fun g=>aG [(8,e32 r.toList)]) (fun g=>[]):=by
 intro w hmem hro hd
 refine Zn func114 rfl ntmps114 rfl hmem hro hd ?_
 unfold X4 at H
 refine Z_ (YE (UN [(8,e32 a_.toList)] rfl rfl ⟨(Wl (f:=v32) a_),trivial⟩) (fun b1=>?_))
 refine YE (UN [(8,e32 b.toList)] rfl rfl ⟨(Wl (f:=v32) b),trivial⟩) (fun b2=>?_)
 refine YE (Q7 8 YQ TE) (fun b3=>?_)
 refine Z6 (Z_ (YP ?_))
 have ⟨Zu,Yk,H⟩:=Z9 H
 refine YE (Y4 (Kq Yk :) call111 .z) (fun Re=>?_)
 refine YP ?_
 have ⟨YJ,X6,H⟩:=Z9 H
 refine YE (Y4 (wL X6 :) call126 .z) (fun UD=>?_)
 refine YE (Q7 8 YQ TE) (fun b4=>?_)
 refine VM (Vd (vs:=e32 Zu.toList) 0 YQ) (fun _=>?_)
 refine Y2 ?_
 refine Z6 (Z_ (YE (R4 10 dQ aH) (fun b5=>?_)))
 refine Z6 (ZY (Z_ (Y2 ?_)))
 refine Z6 (ZP ?_)
 have ⟨Yw,Hl,H⟩:=Z9 H
 refine Wz [4,5,6,7,8,9,10] [4,3,2,1,0] rfl rfl ?_
 refine Yv (id:=0) (body:=(X4.b0 a_ b Zu YJ)) (σ:=Int × Vx 64 10) (Γ:=Unit) (Γx:=Unit) (fun s0 WG=>[(4,ptr (some (b1,0)) 0),(5,ptr (some (b2,0)) 0),(6,ptr (some (b3,0)) 0),(7,ptr (some (b4,0)) 0),(8,v64 YJ),(9,ptr (some (b5,0)) 0),(10,vi s0.1)]) (fun s0 WG=>[⟨some (b1,0),e32 a_.toList⟩,⟨some (b2,0),e32 b.toList⟩,⟨some (b3,0),e32 ((replicate 8 0#32).toList)⟩,⟨some (b4,0),e32 Zu.toList⟩,⟨some (b5,0),e64 s0.2.toList⟩]) (fun t g=>[(6,ptr (some (b3,0)) 0),(7,ptr (some (b4,0)) 0),(9,ptr (some (b5,0)) 0)]) (fun t g=>[⟨some (b3,0),e32 ((replicate 8 0#32).toList)⟩,⟨some (b4,0),e32 Zu.toList⟩,⟨some (b5,0),e64 t.toList⟩]) ?_ BIG (0,replicate 10 0#64) () Yw Hl ?_
 ·intro s0 WG r1 H K hK hE
  unfold X4.b0 at H
  refine ZY (Z_ (YP ?_))
  refine ZV (ZT WV) ?_
  refine Z6 (UK H (fun hc H=>?_) (fun hc H=>?_))
  ·refine ZN (Z7 (ZY (ZP (Z_ (Y2 ?_)))))
   refine Z6 (ZY (Z_ (Y2 ?_)))
   refine Z6 (ZP ?_)
   have ⟨M7,Hl,H⟩:=Z9 H
   refine Wz [4,5,6,7,8,9,10,11,12] [0,0,0,0,0] rfl rfl ?_
   refine Yv (id:=2) (body:=(X4.b1 a_ b s0)) (σ:=BitVec 64 × Int × Vx 64 10) (Γ:=Unit) (Γx:=Unit) (fun s1 ME=>[(4,ptr (some (b1,0)) 0),(5,ptr (some (b2,0)) 0),(6,ptr (some (b3,0)) 0),(7,ptr (some (b4,0)) 0),(8,v64 YJ),(9,ptr (some (b5,0)) 0),(10,vi s0.1),(11,v64 s1.1),(12,vi s1.2.1)]) (fun s1 ME=>[⟨some (b1,0),e32 a_.toList⟩,⟨some (b2,0),e32 b.toList⟩,⟨some (b3,0),e32 ((replicate 8 0#32).toList)⟩,⟨some (b4,0),e32 Zu.toList⟩,⟨some (b5,0),e64 s1.2.2.toList⟩]) (fun t g=>[(4,ptr (some (b1,0)) 0),(5,ptr (some (b2,0)) 0),(6,ptr (some (b3,0)) 0),(7,ptr (some (b4,0)) 0),(8,v64 YJ),(9,ptr (some (b5,0)) 0),(10,vi s0.1),(11,v64 t.1)]) (fun t g=>[⟨some (b1,0),e32 a_.toList⟩,⟨some (b2,0),e32 b.toList⟩,⟨some (b3,0),e32 ((replicate 8 0#32).toList)⟩,⟨some (b4,0),e32 Zu.toList⟩,⟨some (b5,0),e64 t.2.toList⟩]) ?_ BIG (0#64,0,s0.2) () M7 Hl ?_
   ·intro s1 ME r1 H K hK hE
    unfold X4.b1 at H
    refine ZY (Z_ (YP ?_))
    refine ZV (ZT WV) ?_
    refine Z6 (UK H (fun hc H=>?_) (fun hc H=>?_))
    ·refine ZN (Z7 (ZY (ZP (ZY ?_))))
     have ⟨h1,H⟩:=Z4 H
     have ⟨h2,H⟩:=Z4 H
     have ⟨h3,H⟩:=Z4 H
     have ⟨JW,hs_1,H⟩:=ZX H
     refine U3 [] 16 rfl ?_
     refine PX 1 [] (.v 0 [] rfl rfl (ZO rfl) (.v 1 [0] rfl rfl (Zw (i:=s1.2.1) rfl rfl underlying188 Yx rfl h1.1 h1.2 (k:=(s1.2.1).toNat) (Tz _)) (.v 2 [1] rfl rfl (Z8 rfl (.o 4) (YL (f:=v64) (V:=s1.2.2) (tl h1)) isAgg115) (.v 3 [] rfl rfl (ZO rfl) (.v 4 [3] rfl rfl (Zw (i:=s1.2.1) rfl rfl underlying142 Ud rfl h2.1 h2.2 (k:=(s1.2.1).toNat) (Tz _)) (.v 5 [4] rfl rfl (Z8 rfl (.o 0) (YL (f:=v32) (V:=a_) (tl h2)) isAgg140) (.v 6 [5] rfl rfl (Vu rfl (fun w=>M_ w _ _ underlying115 (Lu) (vg a_ ((s1.2.1).toNat)))) (.v 7 [] rfl rfl (ZO rfl) (.v 8 [7] rfl rfl (Zw (i:=s0.1) rfl rfl underlying142 Ud rfl h3.1 h3.2 (k:=(s0.1).toNat) (Tz _)) (.v 9 [8] rfl rfl (Z8 rfl (.o 1) (YL (f:=v32) (V:=b) (tl h3)) isAgg140) (.v 10 [9] rfl rfl (Vu rfl (fun w=>M_ w _ _ underlying115 (Lu) (vg b ((s0.1).toNat)))) (.v 11 [10,6] rfl rfl (V9 Fz rfl rfl) (.v 12 [2,11] rfl rfl (V9 Iu rfl rfl) (.v 13 [] rfl rfl (ZO rfl) (.v 14 [12,13] rfl rfl (V9 Iu rfl rfl) .nil))))))))))))))) (fun γ=>?_)
     refine Qj [46,4,5,6,7,8,9,10,12] rfl rfl ?_
     refine qc 15 [] rfl (XL rfl) rfl ?_
     refine Xb (v':=v64 JW) 13 (congrArg v64 hs_1) ?_
     refine Vi ?_
     refine Z7 (Z_ (Zj 2 rfl ?_))
     refine ZV (Zg rfl rfl (fun w=>MZ w JW 4294967295#64)) ?_
     have ⟨h4,H⟩:=Z4 H
     refine ZV (Zw (i:=s1.2.1) rfl rfl underlying188 Yx rfl h4.1 h4.2 (k:=(s1.2.1).toNat) (Tz _)) ?_
     refine VM (YR (j:=4) rfl rfl Yx rfl rfl rfl (by simpa using (tl h4)) (cs':=e64 ((vp s1.2.2 ((s1.2.1).toNat) (JW &&& 4294967295#64)).toList)) VR) (fun _=>?_)
     have ⟨Xi,hm_1,H⟩:=ZX H
     refine Ta 4 (congrArg (fun z:Vx 64 10=>e64 (Vector.toList z)) hm_1) ?_
     refine Z6 (ZH (YP ?_))
     refine ZV (Zg rfl rfl (fun w=>Pi w JW .u64 32 (by decide))) ?_
     refine Y2 ?_
     refine ZK (ZW (Z7 (ZH (YP ?_))))
     refine ZV (ZT XN) ?_
     refine Y2 ?_
     have ⟨j1,hj1,H⟩:=ZX H
     refine WN 12 (congrArg vi hj1) ?_
     refine ZK ?_
     obtain rfl:=sj H
     exact Ri [0,0,0,0,0] (hK (JW >>> 32,j1,Xi) rfl ())
    refine YW (Z0 (Z0 ?_))
    obtain rfl:=sj H
    exact WW [0,0,0,0,0] (hE (s1.1,s1.2.2) rfl ())
   intro g
   refine ZL (Z7 (Z_ (ZV (Zw (i:=8) rfl rfl underlying188 Yx rfl (by decide) (by decide) (k:=8) (Tz _)) ?_)))
   refine ZV (Z8 rfl (.o 4) (YL (f:=v64) (V:=M7.2) (by decide:8<10)) isAgg115) ?_
   refine YP ?_
   refine ZV (ZT Iu) ?_
   refine Y2 ?_
   have ⟨uQ,hs_2,H⟩:=ZX H
   refine WN 14 (congrArg v64 hs_2) ?_
   refine Z6 (Z_ (YP ?_))
   refine ZV (Zg rfl rfl (fun w=>MZ w uQ 4294967295#64)) ?_
   refine ZV (Zw (i:=8) rfl rfl underlying188 Yx rfl (by decide) (by decide) (k:=8) (Tz _)) ?_
   refine VM (YR (j:=4) rfl rfl Yx rfl rfl rfl (by simp) (cs':=e64 ((vp M7.2 8 (uQ &&& 4294967295#64)).toList)) VR) (fun _=>?_)
   have ⟨SV,hm_2,H⟩:=ZX H
   refine Ta 4 (congrArg (fun z:Vx 64 10=>e64 (Vector.toList z)) hm_2) ?_
   refine Z6 (Z_ (YP ?_))
   refine ZV (Zg rfl rfl (fun w=>Pi w uQ .u64 32 (by decide))) ?_
   refine ZV (Zw (i:=9) rfl rfl underlying188 Yx rfl (by decide) (by decide) (k:=9) (Tz _)) ?_
   refine VM (YR (j:=4) rfl rfl Yx rfl rfl rfl (by simp) (cs':=e64 ((vp SV 9 (uQ >>> 32)).toList)) VR) (fun _=>?_)
   refine Z6 (Z_ (ZV (Zw (i:=0) rfl rfl underlying188 Yx rfl (by decide) (by decide) (k:=0) (Tz _)) ?_))
   refine ZV (Z8 rfl (.o 4) (YL (f:=v64) (V:=(vp SV 9 (uQ >>> 32))) (by decide:0<10)) isAgg115) ?_
   refine YP ?_
   refine ZV (ZT Fz) ?_
   refine ZV (Zg rfl rfl (fun w=>MZ w ((vg (vp SV 9 (uQ >>> 32)) 0) * YJ) 4294967295#64)) ?_
   refine Y2 ?_
   have ⟨q1,hq1,H⟩:=ZX H
   refine WN 15 (congrArg v64 hq1) ?_
   refine Z6 (Z_ (ZV (Zw (i:=0) rfl rfl underlying188 Yx rfl (by decide) (by decide) (k:=0) (Tz _)) ?_))
   refine ZV (Z8 rfl (.o 4) (YL (f:=v64) (V:=(vp SV 9 (uQ >>> 32))) (by decide:0<10)) isAgg115) ?_
   refine YP ?_
   refine ZV (Zw (i:=0) rfl rfl underlying142 Ud rfl (by decide) (by decide) (k:=0) (Tz _)) ?_
   refine ZV (Z8 rfl (.o 3) (YL (f:=v32) (V:=Zu) (by decide:0<8)) isAgg140) ?_
   refine ZV (Vu rfl (fun w=>M_ w _ _ underlying115 (Lu) (vg Zu 0))) ?_
   refine ZV (ZT Fz) ?_
   refine ZV (ZT Iu) ?_
   refine ZV (Zg rfl rfl (fun w=>Pi w ((vg (vp SV 9 (uQ >>> 32)) 0)+(q1 * ((vg Zu 0).setWidth 64))) .u64 32 (by decide))) ?_
   refine Y2 ?_
   have ⟨c1,hc1,H⟩:=ZX H
   refine WN 11 (congrArg v64 hc1) ?_
   refine Z6 (Wz [4,5,6,7,8,9,10,11,15] [0,0,0,0,0] rfl rfl ?_)
   refine ZY (Z_ (Y2 ?_))
   refine Z6 (ZP ?_)
   have ⟨KI,Hl,H⟩:=Z9 H
   refine Wz [4,5,6,7,8,9,10,11,15,16] [0,0,0,0,0] rfl rfl ?_
   refine Yv (id:=4) (body:=(X4.b2 Zu q1)) (σ:=BitVec 64 × Int × Vx 64 10) (Γ:=Unit) (Γx:=Unit) (fun s2 y_=>[(4,ptr (some (b1,0)) 0),(5,ptr (some (b2,0)) 0),(6,ptr (some (b3,0)) 0),(7,ptr (some (b4,0)) 0),(8,v64 YJ),(9,ptr (some (b5,0)) 0),(10,vi s0.1),(11,v64 s2.1),(15,v64 q1),(16,vi s2.2.1)]) (fun s2 y_=>[⟨some (b1,0),e32 a_.toList⟩,⟨some (b2,0),e32 b.toList⟩,⟨some (b3,0),e32 ((replicate 8 0#32).toList)⟩,⟨some (b4,0),e32 Zu.toList⟩,⟨some (b5,0),e64 s2.2.2.toList⟩]) (fun t g=>[(4,ptr (some (b1,0)) 0),(5,ptr (some (b2,0)) 0),(6,ptr (some (b3,0)) 0),(7,ptr (some (b4,0)) 0),(8,v64 YJ),(9,ptr (some (b5,0)) 0),(10,vi s0.1),(11,v64 t.1)]) (fun t g=>[⟨some (b1,0),e32 a_.toList⟩,⟨some (b2,0),e32 b.toList⟩,⟨some (b3,0),e32 ((replicate 8 0#32).toList)⟩,⟨some (b4,0),e32 Zu.toList⟩,⟨some (b5,0),e64 t.2.toList⟩]) ?_ BIG (c1,1,vp SV 9 (uQ >>> 32)) () KI Hl ?_
   ·intro s2 y_ r1 H K hK hE
    unfold X4.b2 at H
    refine ZY (Z_ (YP ?_))
    refine ZV (ZT WV) ?_
    refine Z6 (UK H (fun hc H=>?_) (fun hc H=>?_))
    ·refine ZN (Z7 (ZY (ZP (ZY ?_))))
     have ⟨h5,H⟩:=Z4 H
     have ⟨h6,H⟩:=Z4 H
     have ⟨dX,hs_3,H⟩:=ZX H
     refine U3 [] 13 rfl ?_
     refine PX 1 [] (.v 0 [] rfl rfl (ZO rfl) (.v 1 [0] rfl rfl (Zw (i:=s2.2.1) rfl rfl underlying188 Yx rfl h5.1 h5.2 (k:=(s2.2.1).toNat) (Tz _)) (.v 2 [1] rfl rfl (Z8 rfl (.o 4) (YL (f:=v64) (V:=s2.2.2) (tl h5)) isAgg115) (.v 3 [] rfl rfl (ZO rfl) (.v 4 [] rfl rfl (ZO rfl) (.v 5 [4] rfl rfl (Zw (i:=s2.2.1) rfl rfl underlying142 Ud rfl h6.1 h6.2 (k:=(s2.2.1).toNat) (Tz _)) (.v 6 [5] rfl rfl (Z8 rfl (.o 3) (YL (f:=v32) (V:=Zu) (tl h6)) isAgg140) (.v 7 [6] rfl rfl (Vu rfl (fun w=>M_ w _ _ underlying115 (Lu) (vg Zu ((s2.2.1).toNat)))) (.v 8 [7,3] rfl rfl (V9 Fz rfl rfl) (.v 9 [8,2] rfl rfl (V9 Iu rfl rfl) (.v 10 [] rfl rfl (ZO rfl) (.v 11 [9,10] rfl rfl (V9 Iu rfl rfl) .nil)))))))))))) (fun γ=>?_)
     refine Qj [92,4,5,6,7,8,9,10,15,16] rfl rfl ?_
     refine qc 12 [] rfl (XL rfl) rfl ?_
     refine Xb (v':=v64 dX) 17 (congrArg v64 hs_3) ?_
     refine Vi ?_
     refine Z7 (Z_ (YP ?_))
     refine ZV (ZT OX) ?_
     refine YP ?_
     refine ZV (Zg rfl rfl (fun w=>MZ w dX 4294967295#64)) ?_
     have ⟨h7,H⟩:=Z4 H
     refine ZV (Zw (i:=ZJ (s2.2.1 - 1)) rfl rfl underlying188 Yx rfl h7.1 h7.2 (k:=(ZJ (s2.2.1 - 1)).toNat) (Tz _)) ?_
     refine VM (YR (j:=4) rfl rfl Yx rfl rfl rfl (by simpa using (tl h7)) (cs':=e64 ((vp s2.2.2 ((ZJ (s2.2.1 - 1)).toNat) (dX &&& 4294967295#64)).toList)) VR) (fun _=>?_)
     have ⟨IV,hm_3,H⟩:=ZX H
     refine Ta 4 (congrArg (fun z:Vx 64 10=>e64 (Vector.toList z)) hm_3) ?_
     refine Z6 (ZH (YP ?_))
     refine ZV (Zg rfl rfl (fun w=>Pi w dX .u64 32 (by decide))) ?_
     refine Y2 ?_
     refine ZK (ZW (Z7 (ZH (YP ?_))))
     refine ZV (ZT XN) ?_
     refine Y2 ?_
     have ⟨j2,hj2,H⟩:=ZX H
     refine WN 16 (congrArg vi hj2) ?_
     refine ZK ?_
     obtain rfl:=sj H
     exact Ri [0,0,0,0,0] (hK (dX >>> 32,j2,IV) rfl ())
    refine YW (Z0 (Z0 ?_))
    obtain rfl:=sj H
    exact WW [0,0,0,0,0] (hE (s2.1,s2.2.2) rfl ())
   intro g
   refine ZL (Z7 (Z_ (ZV (Zw (i:=8) rfl rfl underlying188 Yx rfl (by decide) (by decide) (k:=8) (Tz _)) ?_)))
   refine ZV (Z8 rfl (.o 4) (YL (f:=v64) (V:=KI.2) (by decide:8<10)) isAgg115) ?_
   refine YP ?_
   refine ZV (ZT Iu) ?_
   refine Y2 ?_
   have ⟨dA,hs_4,H⟩:=ZX H
   refine WN 14 (congrArg v64 hs_4) ?_
   refine Z6 (Z_ (YP ?_))
   refine ZV (Zg rfl rfl (fun w=>MZ w dA 4294967295#64)) ?_
   refine ZV (Zw (i:=7) rfl rfl underlying188 Yx rfl (by decide) (by decide) (k:=7) (Tz _)) ?_
   refine VM (YR (j:=4) rfl rfl Yx rfl rfl rfl (by simp) (cs':=e64 ((vp KI.2 7 (dA &&& 4294967295#64)).toList)) VR) (fun _=>?_)
   have ⟨FL,hm_4,H⟩:=ZX H
   refine Ta 4 (congrArg (fun z:Vx 64 10=>e64 (Vector.toList z)) hm_4) ?_
   refine Z6 (Z_ (ZV (Zw (i:=9) rfl rfl underlying188 Yx rfl (by decide) (by decide) (k:=9) (Tz _)) ?_))
   refine ZV (Z8 rfl (.o 4) (YL (f:=v64) (V:=FL) (by decide:9<10)) isAgg115) ?_
   refine YP ?_
   refine ZV (Zg rfl rfl (fun w=>Pi w dA .u64 32 (by decide))) ?_
   refine ZV (ZT Iu) ?_
   refine ZV (Zw (i:=8) rfl rfl underlying188 Yx rfl (by decide) (by decide) (k:=8) (Tz _)) ?_
   refine VM (YR (j:=4) rfl rfl Yx rfl rfl rfl (by simp) (cs':=e64 ((vp FL 8 ((vg FL 9)+(dA >>> 32))).toList)) VR) (fun _=>?_)
   have ⟨BH,hm_5,H⟩:=ZX H
   refine Ta 4 (congrArg (fun z:Vx 64 10=>e64 (Vector.toList z)) hm_5) ?_
   refine Z6 (ZH (ZV (Zw (i:=9) rfl rfl underlying188 Yx rfl (by decide) (by decide) (k:=9) (Tz _)) ?_))
   refine VM (YR (j:=4) rfl rfl Yx rfl rfl rfl (by simp) (cs':=e64 ((vp BH 9 0#64).toList)) (VR (f:=v64) (V:=BH) (k:=9) (x:=0#64))) (fun _=>?_)
   refine ZK (ZW (Z7 (ZH (YP ?_))))
   refine ZV (ZT XN) ?_
   refine Y2 ?_
   have ⟨i1,Ll,H⟩:=ZX H
   refine WN 10 (congrArg vi Ll) ?_
   refine ZK ?_
   obtain rfl:=sj H
   exact Ri [0,0,0,0,0] (hK (i1,vp BH 9 0#64) rfl ())
  refine YW (Z0 (Z0 ?_))
  obtain rfl:=sj H
  exact WW [2,2,2] (hE s0.2 rfl ())
 intro g
 refine ZL (Z7 (Z_ (YE (Q7 8 YQ TE) (fun b6=>?_))))
 refine Z6 (ZY (Z_ (Y2 ?_)))
 refine Z6 (ZP ?_)
 have ⟨Gu,Hl,H⟩:=Z9 H
 refine Wz [6,7,9,18,19] [1,1,1,0] rfl rfl ?_
 refine Yv (id:=6) (body:=(X4.b3 Yw)) (σ:=Int × Vx 32 8) (Γ:=Unit) (Γx:=Unit) (fun s3 uz=>[(6,ptr (some (b3,0)) 0),(7,ptr (some (b4,0)) 0),(9,ptr (some (b5,0)) 0),(18,ptr (some (b6,0)) 0),(19,vi s3.1)]) (fun s3 uz=>[⟨some (b3,0),e32 ((replicate 8 0#32).toList)⟩,⟨some (b4,0),e32 Zu.toList⟩,⟨some (b5,0),e64 Yw.toList⟩,⟨some (b6,0),e32 s3.2.toList⟩]) (fun t g=>[(6,ptr (some (b3,0)) 0),(7,ptr (some (b4,0)) 0),(9,ptr (some (b5,0)) 0),(18,ptr (some (b6,0)) 0)]) (fun t g=>[⟨some (b3,0),e32 ((replicate 8 0#32).toList)⟩,⟨some (b4,0),e32 Zu.toList⟩,⟨some (b5,0),e64 Yw.toList⟩,⟨some (b6,0),e32 t.toList⟩]) ?_ BIG (0,replicate 8 0#32) () Gu Hl ?_
 ·intro s3 uz r1 H K hK hE
  unfold X4.b3 at H
  refine ZY (Z_ (YP ?_))
  refine ZV (ZT WV) ?_
  refine Z6 (UK H (fun hc H=>?_) (fun hc H=>?_))
  ·refine ZN (Z7 (ZY (ZP (ZH (Zj 2 rfl ?_)))))
   have ⟨h8,H⟩:=Z4 H
   refine ZV (Zw (i:=s3.1) rfl rfl underlying188 Yx rfl h8.1 h8.2 (k:=(s3.1).toNat) (Tz _)) ?_
   refine ZV (Z8 rfl (.o 2) (YL (f:=v64) (V:=Yw) (tl h8)) isAgg115) ?_
   refine ZV (Vu rfl (fun w=>Eo w _ _ underlying140 (Hu) (vg Yw ((s3.1).toNat)))) ?_
   have ⟨h9,H⟩:=Z4 H
   refine ZV (Zw (i:=s3.1) rfl rfl underlying142 Ud rfl h9.1 h9.2 (k:=(s3.1).toNat) (Tz _)) ?_
   refine VM (YR (j:=3) rfl rfl Ud rfl rfl rfl (by simpa using (tl h9)) (cs':=e32 ((vp s3.2 ((s3.1).toNat) ((vg Yw ((s3.1).toNat)).setWidth 32)).toList)) VR) (fun _=>?_)
   have ⟨rT,hm_6,H⟩:=ZX H
   refine Ta 3 (congrArg (fun z:Vx 32 8=>e32 (Vector.toList z)) hm_6) ?_
   refine ZK (ZW (Z7 (ZH (YP ?_))))
   refine ZV (ZT XN) ?_
   refine Y2 ?_
   have ⟨i2,Ca,H⟩:=ZX H
   refine WN 19 (congrArg vi Ca) ?_
   refine ZK ?_
   obtain rfl:=sj H
   exact Ri [0,0,0,0] (hK (i2,rT) rfl ())
  refine YW (Z0 (Z0 ?_))
  obtain rfl:=sj H
  exact WW [0,0,0,0] (hE s3.2 rfl ())
 intro g
 refine ZL (Z7 (ZY (Z_ (ZV (Zw (i:=8) rfl rfl underlying188 Yx rfl (by decide) (by decide) (k:=8) (Tz _)) ?_))))
 refine ZV (Z8 rfl (.o 2) (YL (f:=v64) (V:=Yw) (by decide:8<10)) isAgg115) ?_
 refine ZV (Zg rfl rfl (fun w=>aaH w (vg Yw 8) 0#64)) ?_
 refine YP ?_
 have ⟨j3,Hj,H⟩:=Z9 H
 refine VH (Γ:=Unit) (fun fe=>[(6,ptr (some (b3,0)) 0),(7,ptr (some (b4,0)) 0),(18,ptr (some (b6,0)) 0),(132,vb j3)]) (fun fe=>[⟨some (b3,0),e32 ((replicate 8 0#32).toList)⟩,⟨some (b4,0),e32 Zu.toList⟩,⟨some (b6,0),e32 Gu.toList⟩]) ?_ ?_
 ·intro fe
  refine Z7 (Sn H (fun hc H=>?_) (fun hc H=>?_))
  ·refine ZH (ZV (Wi (.o 2) isAgg142 YQ) ?_)
   refine ZV (Wi (.o 1) isAgg142 YQ) ?_
   have ⟨X7,Vt,H⟩:=Z9 H
   refine YE (Y4 (J7 Vt :) call113 .z) (fun Pm=>?_)
   refine VM (Vd (vs:=e32 X7.toList) 2 YQ) (fun _=>?_)
   refine Z6 (Z_ (ZV (Wi (.o 2) isAgg142 YQ) ?_))
   refine VM (Vd (vs:=e32 X7.toList) 0 YQ) (fun _=>?_)
   refine Zq ?_
   obtain rfl:=sj H
   exact SF (vs:=[_]) rfl ⟨(Wm (n:=8) rfl (by simp) (.o 0) isAgg142 YQ rfl (Wl (f:=v32) X7)),trivial⟩
  refine ZN (Z7 (Z_ (ZV (Wi (.o 2) isAgg142 YQ) ?_)))
  refine VM (Vd (vs:=e32 Gu.toList) 0 YQ) (fun _=>?_)
  refine Zq ?_
  obtain rfl:=sj H
  exact SF (vs:=[_]) rfl ⟨(Wm (n:=8) rfl (by simp) (.o 0) isAgg142 YQ rfl (Wl (f:=v32) Gu)),trivial⟩
 intro hJ
 replace H:=Hj
 refine Td (d:=127) H (fun hc H=>?_) (fun hc H=>?_)
 ·refine Zj 5 rfl ?_
  refine ZK ?_
  obtain rfl:=sj H
  exact WW [0,0,1] (hJ ())
 refine Zc (Wi (.o 3) isAgg142 YQ) ?_
 refine Zc (Wi (.o 1) isAgg142 YQ) ?_
 have ⟨Xu,UH,H⟩:=Z9 H
 refine JQ (Y4 (J2 UH :) call110 .z) (fun JV=>?_)
 refine Zc (UF T_) ?_
 refine FE ?_
 refine ZK ?_
 obtain rfl:=sj H
 exact WW [0,0,1] (hJ ())
def NV (which:Int) (a_:Vx 32 8):Option (Vx 32 8) :=
 (OT which).bind fun Zu=>((X4 which a_ Zu).bind fun YJ=>(some YJ))
theorem wB {which:Int} {a_:Vx 32 8} {r:Vx 32 8} (H:NV which a_=some r) :
  Does Tryz.prog 115 [vi which,aG [(8,e32 a_.toList)]] [] [] (Γ:=Unit) (fun g=>aG [(8,e32 r.toList)]) (fun g=>[]):=by
 intro w hmem hro hd
 refine Zn func115 rfl ntmps115 rfl hmem hro hd ?_
 unfold NV at H
 refine Z_ (YE (UN [(8,e32 a_.toList)] rfl rfl ⟨(Wl (f:=v32) a_),trivial⟩) (fun b1=>?_))
 refine YE (Q7 8 YQ TE) (fun b2=>?_)
 refine Z6 (ZY ?_)
 have ⟨Zu,Yk,H⟩:=Z9 H
 have ⟨YJ,X6,H⟩:=Z9 H
 refine U3 [] 6 rfl ?_
 refine PX 1 [] (.v 0 [] rfl rfl (ZO rfl) (.v 1 [] rfl rfl (Wi (.o 1) isAgg142 YQ) (.v 2 [] rfl rfl (ZO rfl) (.e 3 [2] rfl rfl (Qg (vZ Yk :) call127 .z) (.e 4 [3,0,1] rfl rfl (Qg (Ea X6 :) call114 .z) .nil))))) (fun γ=>?_)
 refine Qj [9,4] rfl rfl ?_
 refine Qh 5 [] rfl (Vd (vs:=e32 YJ.toList) 0 YQ) (fun _=>rfl) (fun _=>?_)
 refine Vi ?_
 refine Z7 (Y7 ?_)
 obtain rfl:=sj H
 exact SF (vs:=[_]) rfl ⟨(Wm (n:=8) rfl (by simp) (.o 0) isAgg142 YQ rfl (Wl (f:=v32) YJ)),trivial⟩
def M6 (which:Int) (a_ b:Vx 32 8):Option (Vx 32 8) :=
 (NV which a_).bind fun Zu=>((X4 which Zu b).bind fun YJ=>(some YJ))
theorem qm {which:Int} {a_:Vx 32 8} {b:Vx 32 8} {r:Vx 32 8} (H:M6 which a_ b=some r) :
  Does Tryz.prog 97 [vi which,aG [(8,e32 a_.toList)],aG [(8,e32 b.toList)]] [] [] (Γ:=Unit) (fun g=>aG [(8,e32 r.toList)]) (fun g=>[]):=by
 intro w hmem hro hd
 refine Zn func97 rfl ntmps97 rfl hmem hro hd ?_
 unfold M6 at H
 refine Z_ (YE (UN [(8,e32 a_.toList)] rfl rfl ⟨(Wl (f:=v32) a_),trivial⟩) (fun b1=>?_))
 refine YE (UN [(8,e32 b.toList)] rfl rfl ⟨(Wl (f:=v32) b),trivial⟩) (fun b2=>?_)
 refine YE (Q7 8 YQ TE) (fun b3=>?_)
 refine Z6 (ZY ?_)
 have ⟨Zu,Yk,H⟩:=Z9 H
 have ⟨YJ,X6,H⟩:=Z9 H
 refine U3 [] 7 rfl ?_
 refine PX 1 [] (.v 0 [] rfl rfl (ZO rfl) (.v 1 [] rfl rfl (ZO rfl) (.v 2 [] rfl rfl (Wi (.o 2) isAgg142 YQ) (.e 3 [1,2] rfl rfl (Qg (wB Yk :) call115 .z) (.v 4 [] rfl rfl (Wi (.o 1) isAgg142 YQ) (.e 5 [3,4,0] rfl rfl (Qg (Ea X6 :) call114 .z) .nil)))))) (fun γ=>?_)
 refine Qj [12,6] rfl rfl ?_
 refine Qh 6 [] rfl (Vd (vs:=e32 YJ.toList) 0 YQ) (fun _=>rfl) (fun _=>?_)
 refine Vi ?_
 refine Z7 (Y7 ?_)
 obtain rfl:=sj H
 exact SF (vs:=[_]) rfl ⟨(Wm (n:=8) rfl (by simp) (.o 0) isAgg142 YQ rfl (Wl (f:=v32) YJ)),trivial⟩
def QU (how which:Int) (a_ b:Str):Option (Str × Int) :=
 (U9 which a_).bind fun Zu=>((U9 which b).bind fun YJ=>((if (!Zu.2)=true then (some true) else (some (!YJ.2))).bind fun j1=>(if j1=true then (some (([]:Str),900)) else (X5 (decide (how=0)) fun x1=>(if x1=true then ((QA which Zu.1 YJ.1).bind fun X7=>((VT X7).bind fun Xu=>(some (Xu,0)))) else (X5 (decide (how=1)) fun x2=>(if x2=true then ((M8 which Zu.1 YJ.1).bind fun UC=>((VT UC).bind fun MV=>(some (MV,0)))) else ((M6 which Zu.1 YJ.1).bind fun JM=>((VT JM).bind fun JY=>(some (JY,0)))))))))))
theorem rf {how:Int} {which:Int} {a_:Str} {b:Str} {r:Str × Int} (H:QU how which a_ b=some r) :
  Does Tryz.prog 77 [vi how,vi which,vs a_,vs b] [] [] (Γ:=Unit) (fun g=>Value.tuple [vs r.1,vi r.2].toArray) (fun g=>[]):=by
 intro w hmem hro hd
 refine Zn func77 rfl ntmps77 rfl hmem hro hd ?_
 unfold QU at H
 refine Z_ (Zj 2 rfl ?_)
 refine Z6 (Z_ (Zj 2 rfl ?_))
 have ⟨Zu,Yk,H⟩:=Z9 H
 refine YE (Y4 (BC Yk :) call93 .z) (fun Re=>?_)
 refine Zj 3 rfl ?_
 refine YE (Q7 8 YQ TE) (fun b1=>?_)
 refine VM (Vd (vs:=e32 Zu.1.toList) 0 YQ) (fun _=>?_)
 refine Y2 ?_
 refine Z6 (Z_ (Zj 2 rfl ?_))
 have ⟨YJ,X6,H⟩:=Z9 H
 refine YE (Y4 (BC X6 :) call93 .z) (fun UD=>?_)
 refine Zj 3 rfl ?_
 refine YE (Q7 8 YQ TE) (fun b2=>?_)
 refine VM (Vd (vs:=e32 YJ.1.toList) 0 YQ) (fun _=>?_)
 refine Y2 ?_
 refine Z6 (ZY (Z_ (YP ?_)))
 refine ZV (UF T_) ?_
 refine YP ?_
 have ⟨j1,Hj,H⟩:=Z9 H
 refine VH (Γ:=Unit) (fun Sc=>[(0,vi how),(1,vi which),(10,ptr (some (b1,0)) 0),(12,ptr (some (b2,0)) 0),(31,vb j1)]) (fun Sc=>[⟨some (b1,0),e32 Zu.1.toList⟩,⟨some (b2,0),e32 YJ.1.toList⟩]) ?_ ?_
 ·intro Sc
  refine Z7 (Sn H (fun hc H=>?_) (fun hc H=>?_))
  ·refine Z_ (Zj 2 rfl ?_)
   refine Zq (ZZ ?_)
   obtain rfl:=sj H
   exact IA
  refine ZN (Z7 (ZY (Z_ (YP ?_))))
  refine Z6 (ZP (Z_ (ZV (ZT Xr) ?_)))
  refine Y2 ?_
  have ⟨x1,TK,H⟩:=ZX H
  refine WN 33 (congrArg vb TK) ?_
  refine Z6 (Sn H (fun hc H=>?_) (fun hc H=>?_))
  ·refine Z_ (YP ?_)
   refine ZV (Wi (.o 0) isAgg142 YQ) ?_
   refine ZV (Wi (.o 1) isAgg142 YQ) ?_
   have ⟨X7,Vt,H⟩:=Z9 H
   refine YE (Y4 (pO Vt :) call95 .z) (fun Pm=>?_)
   have ⟨Xu,UH,H⟩:=Z9 H
   refine YE (Y4 (F4 UH :) call94 .z) (fun JV=>?_)
   refine Zj 2 rfl ?_
   refine Zq (ZE (ZZ ?_))
   obtain rfl:=sj H
   exact IA
  refine Z_ (ZV (ZT Xr) ?_)
  refine Y2 ?_
  have ⟨x2,KO,H⟩:=ZX H
  refine WN 40 (congrArg vb KO) ?_
  refine Z6 (Sn H (fun hc H=>?_) (fun hc H=>?_))
  ·refine Z_ (YP ?_)
   refine ZV (Wi (.o 0) isAgg142 YQ) ?_
   refine ZV (Wi (.o 1) isAgg142 YQ) ?_
   have ⟨UC,Qi,H⟩:=Z9 H
   refine YE (Y4 (rC Qi :) call96 .z) (fun zM=>?_)
   have ⟨MV,KG,H⟩:=Z9 H
   refine YE (Y4 (F4 KG :) call94 .z) (fun jV=>?_)
   refine Zj 2 rfl ?_
   refine Zq (ZE (ZZ ?_))
   obtain rfl:=sj H
   exact IA
  refine ZN (ZW (Z7 (Z_ (YP ?_))))
  refine ZV (Wi (.o 0) isAgg142 YQ) ?_
  refine ZV (Wi (.o 1) isAgg142 YQ) ?_
  have ⟨JM,L_,H⟩:=Z9 H
  refine YE (Y4 (qm L_ :) call97 .z) (fun rE=>?_)
  have ⟨JY,JL,H⟩:=Z9 H
  refine YE (Y4 (F4 JL :) call94 .z) (fun jY=>?_)
  refine Zj 2 rfl ?_
  refine Zq ?_
  obtain rfl:=sj H
  exact IA
 intro hJ
 replace H:=Hj
 refine Mg (d:=28) H (fun hc H=>?_) (fun hc H=>?_)
 ·refine Zj 3 rfl ?_
  refine ZK ?_
  obtain rfl:=sj H
  exact WW [1,0] (hJ ())
 refine Zc (ZO rfl) ?_
 refine Zc (UF T_) ?_
 refine FE ?_
 refine ZK ?_
 obtain rfl:=sj H
 exact WW [1,0] (hJ ())
def WZ.b0 (xs:List (Str)) (s0:Int):Option ((Int) ⊕ ((Unit) ⊕ (Bool))) :=
 if s0<((xs).length:Int) then (if 0≤s0∧s0<((xs).length:Int) then ((if ((lg xs ((s0).toNat)).length:Int)<1 then (some true) else (if 0≤s0∧s0<((xs).length:Int) then (some (decide (16384<((lg xs ((s0).toNat)).length:Int)))) else none)).bind fun j1=>(if j1=true then (some (.inr (.inr false))) else (some (.inl (ZJ (s0+1)))))) else none) else (some (.inr (.inl ())))
def WZ (xs:List (Str)):Option (Bool) :=
 (loop (WZ.b0 xs) BIG 0).bind fun Yw=>(match Yw with | .inl Yw=>(X5 (decide (((xs).length:Int)≤8)) fun x1=>(some x1)) | .inr rv=>some rv)
theorem T9 {Axs:Y6} {cxs:Nat} {xs:List (Str)} (Gf:(xs).length≤cxs) {r:Bool} (H:WZ xs=some r) :
  Does Tryz.prog 78 [sl Axs ((xs).length) cxs] [] [⟨Axs,eS xs⟩] (Γ:=Unit) (fun g=>vb r) (fun g=>[]):=by
 intro w hmem hro hd
 refine Zn func78 rfl ntmps78 rfl hmem hro hd ?_
 unfold WZ at H
 refine Z_ (Y2 ?_)
 refine Z6 (ZY (Z_ (Y2 ?_)))
 refine Z6 (ZP ?_)
 have ⟨Yw,Hl,H⟩:=Z9 H
 refine Wz [0,3] [] rfl rfl ?_
 refine U0 (id:=0) (body:=(WZ.b0 xs)) (σ:=Int) (Γ:=Unit) (Γx:=Unit) (fun s0 WG=>[(0,sl Axs ((xs).length) cxs),(3,vi s0)]) (fun s0 WG=>[]) (fun t g=>[(0,sl Axs ((xs).length) cxs)]) (fun t g=>[]) r ?_ BIG 0 () Yw Hl ?_
 ·intro s0 WG r1 H K hK hE MK
  unfold WZ.b0 at H
  refine ZY (Z_ (Zj 2 rfl ?_))
  refine ZV (ZG rfl underlying23) ?_
  refine ZV (ZT WV) ?_
  refine Z6 (UK H (fun hc H=>?_) (fun hc H=>?_))
  ·refine ZN (Z7 (ZY (ZP (Z_ (Zj 2 rfl ?_)))))
   have ⟨h1,H⟩:=Z4 H
   refine ZV (YK (i:=s0) rfl rfl underlying23 Xe rfl (.r 0) (Uf (tl h1)) h1.1 h1.2 (k:=(s0).toNat) (JZ _)) ?_
   refine ZV (Z8 rfl (.r 0) (UL (f:=vs) (l:=xs) (tl h1)) isAgg9) ?_
   refine ZV (Zf rfl underlying9) ?_
   refine ZV (ZT WV) ?_
   refine YP ?_
   have ⟨j1,Hj,H⟩:=Z9 H
   refine VH (Γ:=Unit) (fun Sc=>[(0,sl Axs ((xs).length) cxs),(3,vi s0),(23,vb j1)]) (fun Sc=>[]) ?_ ?_
   ·intro Sc
    refine Z7 (Sn H (fun hc H=>?_) (fun hc H=>?_))
    ·refine Z_ (Y2 ?_)
     refine Zq (ZE (ZZ (ZZ (ZE (ZZ ?_)))))
     have M3:=(MK _ (Option.some.inj H).symm)
     subst M3
     exact Wj
    refine ZN (ZW (Z7 (ZH (YP ?_))))
    refine ZV (ZT XN) ?_
    refine Y2 ?_
    refine ZK ?_
    obtain rfl:=sj H
    exact Ri [] (hK (ZJ (s0+1)) rfl ())
   intro hJ
   replace H:=Hj
   refine Td (d:=16) H (fun hc H=>?_) (fun hc H=>?_)
   ·refine Zj 7 rfl ?_
    refine ZK ?_
    obtain rfl:=sj H
    exact WW [] (hJ ())
   refine Zj 2 rfl ?_
   have ⟨h2,H⟩:=Z4 H
   refine Zc (YK (i:=s0) rfl rfl underlying23 Xe rfl (.r 0) (Uf (tl h2)) h2.1 h2.2 (k:=(s0).toNat) (JZ _)) ?_
   refine Zc (Z8 rfl (.r 0) (UL (f:=vs) (l:=xs) (tl h2)) isAgg9) ?_
   refine Zc (Zf rfl underlying9) ?_
   refine Zc (ZT Sv) ?_
   refine FE ?_
   refine ZK ?_
   obtain rfl:=sj H
   exact WW [] (hJ ())
  refine YW (Z0 (Z0 ?_))
  obtain rfl:=sj H
  exact WW [] (hE () rfl ())
 rcases Yw with Yw | rv
 ·intro Fe
  dsimp only at H
  refine ZL (Z7 (Z_ (YP ?_)))
  refine ZV (ZG rfl underlying23) ?_
  refine ZV (ZT RH) ?_
  refine Y2 ?_
  have ⟨x1,TK,H⟩:=ZX H
  refine WN 2 (congrArg vb TK) ?_
  refine Zq ?_
  obtain rfl:=sj H
  exact Wj
 exact (Option.some.inj H)
end Go.Proofs
end

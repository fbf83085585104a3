/-
  Part 11 of the proof of what several laws share.
-/
import Derived.Test.YtkgeoekcnlgfnaaGreatDoorKh10
set_option maxHeartbeats 4000000
set_option maxRecDepth 20000
set_option linter.unusedVariables false
set_option linter.unusedSimpArgs false
section
namespace Go.Proofs
open Go Go.Kx
open Vector (replicate)
open TryzI Tryz
def ZF.k1:Str:=([99#8,124#8,119#8,123#8,242#8,107#8,111#8,197#8,48#8,1#8,103#8,43#8,254#8,215#8,171#8,118#8,202#8,130#8,201#8,125#8,250#8,89#8,71#8,240#8,173#8,212#8,162#8,175#8,156#8,164#8,114#8,192#8,183#8,253#8,147#8,38#8,54#8,63#8,247#8,204#8,52#8,165#8,229#8,241#8,113#8,216#8,49#8,21#8,4#8,199#8,35#8,195#8,24#8,150#8,5#8,154#8,7#8,18#8,128#8,226#8,235#8,39#8,178#8,117#8,9#8,131#8,44#8,26#8,27#8,110#8,90#8,160#8,82#8,59#8,214#8,179#8,41#8,227#8,47#8,132#8,83#8,209#8,0#8,237#8,32#8,252#8,177#8,91#8,106#8,203#8,190#8,57#8,74#8,76#8,88#8,207#8,208#8,239#8,170#8,251#8,67#8,77#8,51#8,133#8,69#8,249#8,2#8,127#8,80#8,60#8,159#8,168#8,81#8,163#8,64#8,143#8,146#8,157#8,56#8,245#8,188#8,182#8,218#8,33#8,16#8,255#8,243#8,210#8,205#8,12#8,19#8,236#8,95#8,151#8,68#8,23#8,196#8,167#8,126#8,61#8,100#8,93#8,25#8,115#8,96#8,129#8,79#8,220#8,34#8,42#8,144#8,136#8,70#8,238#8,184#8,20#8,222#8,94#8,11#8,219#8,224#8,50#8,58#8,10#8,73#8,6#8,36#8,92#8,194#8,211#8,172#8,98#8,145#8,149#8,228#8,121#8,231#8,200#8,55#8,109#8,141#8,213#8,78#8,169#8,108#8,86#8,244#8,234#8,101#8,122#8,174#8,8#8,186#8,120#8,37#8,46#8,28#8,166#8,180#8,198#8,232#8,221#8,116#8,31#8,75#8,189#8,139#8,138#8,112#8,62#8,181#8,102#8,72#8,3#8,246#8,14#8,97#8,53#8,87#8,185#8,134#8,193#8,29#8,158#8,225#8,248#8,152#8,17#8,105#8,217#8,142#8,148#8,155#8,30#8,135#8,233#8,206#8,85#8,40#8,223#8,140#8,161#8,137#8,13#8,191#8,230#8,66#8,104#8,65#8,153#8,45#8,15#8,176#8,84#8,187#8,22#8]:Str)
def ZF.b0 (w_:List (Vx 8 4)) (s_:Str) (s0:Int × Vx 8 16):Option ((Int × Vx 8 16) ⊕ (Vx 8 16)) :=
 if s0.1<16 then (if 0≤s0.1∧s0.1<((s_).length:Int) then (if 0≤ZJ (s0.1.tdiv 4)∧ZJ (s0.1.tdiv 4)<((w_).length:Int) then (if 0≤s0.1.tmod 4∧s0.1.tmod 4<(4:Int) then (if 0≤s0.1∧s0.1<(16:Int) then (X5 (vp s0.2 ((s0.1).toNat) ((sg s_ s0.1) ^^^ (vg (lg w_ ((ZJ (s0.1.tdiv 4)).toNat)) ((s0.1.tmod 4).toNat)))) fun Xi=>(X5 (ZJ (s0.1+1)) fun i1=>(some (.inl (i1,Xi))))) else none) else none) else none) else none) else (some (.inr s0.2))
def ZF.b2 (s1 s2:Int × Vx 8 16):Option ((Int × Vx 8 16) ⊕ (Vx 8 16)) :=
 if s2.1<16 then (if 0≤(ZJ (s2.1+(ZJ (4 * (s2.1.tmod 4))))).tmod 16∧(ZJ (s2.1+(ZJ (4 * (s2.1.tmod 4))))).tmod 16<(16:Int) then (if 0≤((vg s1.2 (((ZJ (s2.1+(ZJ (4 * (s2.1.tmod 4))))).tmod 16).toNat)).toNat:Int)∧((vg s1.2 (((ZJ (s2.1+(ZJ (4 * (s2.1.tmod 4))))).tmod 16).toNat)).toNat:Int)<((ZF.k1).length:Int) then (if 0≤s2.1∧s2.1<(16:Int) then (X5 (vp s2.2 ((s2.1).toNat) (sg ZF.k1 ((vg s1.2 (((ZJ (s2.1+(ZJ (4 * (s2.1.tmod 4))))).tmod 16).toNat)).toNat:Int))) fun SV=>(X5 (ZJ (s2.1+1)) fun i2=>(some (.inl (i2,SV))))) else none) else none) else none) else (some (.inr s2.2))
def ZF.b3 (w_:List (Vx 8 4)) (s1:Int × Vx 8 16) (j1:Vx 8 16) (s3:Int × Vx 8 16):Option ((Int × Vx 8 16) ⊕ (Vx 8 16)) :=
 if s3.1<16 then (if 0≤s3.1∧s3.1<(16:Int) then (if 0≤ZJ ((ZJ (4 * s1.1))+(ZJ (s3.1.tdiv 4)))∧ZJ ((ZJ (4 * s1.1))+(ZJ (s3.1.tdiv 4)))<((w_).length:Int) then (if 0≤s3.1.tmod 4∧s3.1.tmod 4<(4:Int) then (if 0≤s3.1∧s3.1<(16:Int) then (X5 (vp s3.2 ((s3.1).toNat) ((vg j1 ((s3.1).toNat)) ^^^ (vg (lg w_ ((ZJ ((ZJ (4 * s1.1))+(ZJ (s3.1.tdiv 4)))).toNat)) ((s3.1.tmod 4).toNat)))) fun IV=>(X5 (ZJ (s3.1+1)) fun i3=>(some (.inl (i3,IV))))) else none) else none) else none) else none) else (some (.inr s3.2))
def ZF.b5 (s4:Int × Vx 8 16) (K8:BitVec 8) (s5:Int × Vx 8 16):Option ((Int × Vx 8 16) ⊕ (Vx 8 16)) :=
 if s5.1<3 then (if 0≤ZJ (s4.1+s5.1)∧ZJ (s4.1+s5.1)<(16:Int) then (if 0≤ZJ (s4.1+s5.1)∧ZJ (s4.1+s5.1)<(16:Int) then (if 0≤ZJ ((ZJ (s4.1+s5.1))+1)∧ZJ ((ZJ (s4.1+s5.1))+1)<(16:Int) then ((UG ((vg s5.2 ((ZJ (s4.1+s5.1)).toNat)) ^^^ (vg s5.2 ((ZJ ((ZJ (s4.1+s5.1))+1)).toNat)))).bind fun YJ=>(if 0≤ZJ (s4.1+s5.1)∧ZJ (s4.1+s5.1)<(16:Int) then (X5 (vp s5.2 ((ZJ (s4.1+s5.1)).toNat) (((vg s5.2 ((ZJ (s4.1+s5.1)).toNat)) ^^^ K8) ^^^ YJ)) fun FL=>(X5 (ZJ (s5.1+1)) fun i4=>(some (.inl (i4,FL))))) else none)) else none) else none) else none) else (some (.inr s5.2))
def ZF.b4  (s4:Int × Vx 8 16):Option ((Int × Vx 8 16) ⊕ (Vx 8 16)) :=
 if s4.1<16 then (if 0≤s4.1∧s4.1<(16:Int) then (if 0≤ZJ (s4.1+1)∧ZJ (s4.1+1)<(16:Int) then (if 0≤ZJ (s4.1+2)∧ZJ (s4.1+2)<(16:Int) then (if 0≤ZJ (s4.1+3)∧ZJ (s4.1+3)<(16:Int) then (X5 ((((vg s4.2 ((s4.1).toNat)) ^^^ (vg s4.2 ((ZJ (s4.1+1)).toNat))) ^^^ (vg s4.2 ((ZJ (s4.1+2)).toNat))) ^^^ (vg s4.2 ((ZJ (s4.1+3)).toNat))) fun K8=>(if 0≤s4.1∧s4.1<(16:Int) then (X5 (vg s4.2 ((s4.1).toNat)) fun zQ=>((loop (ZF.b5 s4 K8) BIG (0,s4.2)).bind fun jJ=>(if 0≤ZJ (s4.1+3)∧ZJ (s4.1+3)<(16:Int) then (if 0≤ZJ (s4.1+3)∧ZJ (s4.1+3)<(16:Int) then ((UG ((vg jJ ((ZJ (s4.1+3)).toNat)) ^^^ zQ)).bind fun X7=>(if 0≤ZJ (s4.1+3)∧ZJ (s4.1+3)<(16:Int) then (X5 (vp jJ ((ZJ (s4.1+3)).toNat) (((vg jJ ((ZJ (s4.1+3)).toNat)) ^^^ K8) ^^^ X7)) fun BH=>(X5 (ZJ (s4.1+4)) fun c1=>(some (.inl (c1,BH))))) else none)) else none) else none))) else none)) else none) else none) else none) else none) else (some (.inr s4.2))
def ZF.b1 (w_:List (Vx 8 4)) (Rc:Int) (s1:Int × Vx 8 16):Option ((Int × Vx 8 16) ⊕ (Vx 8 16)) :=
 if s1.1≤Rc then ((loop (ZF.b2 s1) BIG (0,replicate 16 0#8)).bind fun KI=>((if s1.1<Rc then ((loop (ZF.b4) BIG (0,KI)).bind fun bP=>(some bP)) else (some KI)).bind fun j1=>((loop (ZF.b3 w_ s1 j1) BIG (0,s1.2)).bind fun Gu=>(X5 (ZJ (s1.1+1)) fun Zu=>(some (.inl (Zu,Gu))))))) else (some (.inr s1.2))
def ZF (w_:List (Vx 8 4)) (s_:Str):Option (Str) :=
 (loop (ZF.b0 w_ s_) BIG (0,replicate 16 0#8)).bind fun Yw=>(X5 (ZJ ((ZJ (((w_).length:Int).tdiv 4)) - 1)) fun Rc=>((loop (ZF.b1 w_ Rc) BIG (1,Yw)).bind fun M7=>(some M7.toList)))
theorem B_ {Aw_:Y6} {cw_:Nat} {w_:List (Vx 8 4)} {s_:Str} (mo:(w_).length≤cw_) {r:Str} (H:ZF w_ s_=some r) :
  Does Tryz.prog 99 [sl Aw_ ((w_).length) cw_,vs s_] [] [⟨Aw_,eF (fun V:Vx 8 4=>e8 V.toList) w_⟩] (Γ:=Unit) (fun g=>vs r) (fun g=>[]):=by
 intro w hmem hro hd
 refine Zn func99 rfl ntmps99 rfl hmem hro hd ?_
 unfold ZF at H
 refine Z_ (Y2 ?_)
 refine Z6 (Z_ (YE (Wh [(16,e8 ((replicate 16 0#8).toList))] UW Pp ⟨(Wl (f:=v8) (replicate 16 0#8)),trivial⟩) (fun b1=>?_)))
 refine Z6 (ZY (Z_ (Y2 ?_)))
 refine Z6 (ZP ?_)
 have ⟨Yw,Hl,H⟩:=Z9 H
 refine Wz [0,1,5,6] [0] rfl rfl ?_
 refine Yv (id:=0) (body:=(ZF.b0 w_ s_)) (σ:=Int × Vx 8 16) (Γ:=Unit) (Γx:=Unit) (fun s0 WG=>[(0,sl Aw_ ((w_).length) cw_),(1,vs s_),(5,ptr (some (b1,0)) 0),(6,vi s0.1)]) (fun s0 WG=>[⟨some (b1,0),e8 s0.2.toList⟩]) (fun t g=>[(0,sl Aw_ ((w_).length) cw_),(5,ptr (some (b1,0)) 0)]) (fun t g=>[⟨some (b1,0),e8 t.toList⟩]) ?_ BIG (0,replicate 16 0#8) () Yw Hl ?_
 ·intro s0 WG r1 H K hK hE
  unfold ZF.b0 at H
  refine ZY (Z_ (YP ?_))
  refine ZV (ZT WV) ?_
  refine Z6 (UK H (fun hc H=>?_) (fun hc H=>?_))
  ·refine ZN (Z7 (ZY (ZP ?_)))
   have ⟨h1,H⟩:=Z4 H
   have ⟨h2,H⟩:=Z4 H
   have ⟨h3,H⟩:=Z4 H
   have ⟨h4,H⟩:=Z4 H
   have ⟨Xi,hm_1,H⟩:=ZX H
   refine U3 [] 15 rfl ?_
   refine PX 1 [] (.v 0 [] rfl rfl (ZO rfl) (.v 1 [] rfl rfl (ZO rfl) (.v 2 [] rfl rfl (ZO rfl) (.v 3 [1,2] rfl rfl (U2 rfl rfl (i:=s0.1) underlying9 h1.1 h1.2) (.v 4 [] rfl rfl (ZO rfl) (.v 5 [] rfl rfl (ZO rfl) (.v 6 [5] rfl rfl (Zg rfl rfl (fun w=>Lh w s0.1 4 (by decide))) (.v 7 [] rfl rfl (ZO rfl) (.v 8 [7] rfl rfl (Zg rfl rfl (fun w=>Jg w s0.1 4 (by decide))) (.v 9 [4,6] rfl rfl (YK (i:=ZJ (s0.1.tdiv 4)) rfl rfl underlying127 TM rfl (.r 0) (VC (s:=4) (fun _=>by simp) rfl (tl h2)) h2.1 h2.2 (k:=((ZJ (s0.1.tdiv 4)).toNat) * 4) rfl) (.v 10 [8,9] rfl rfl (Zw (i:=s0.1.tmod 4) rfl rfl underlying147 Yn rfl h3.1 h3.2 (k:=((ZJ (s0.1.tdiv 4)).toNat) * 4+(s0.1.tmod 4).toNat) (k1 _ _)) (.v 11 [10] rfl rfl (Z8 rfl (.r 0) ((UM (g:=fun V:Vx 8 4=>e8 V.toList) (s:=4) (fun _=>by simp) w_ ((ZJ (s0.1.tdiv 4)).toNat) ((s0.1.tmod 4).toNat) (tl h2) (tl h3)).trans (YL (tl h3))) isAgg5) (.v 12 [11,3] rfl rfl (V9 Sr rfl rfl) (.v 13 [0] rfl rfl (Zw (i:=s0.1) rfl rfl underlying171 Yn rfl h4.1 h4.2 (k:=(s0.1).toNat) (Tz _)) .nil)))))))))))))) (fun γ=>?_)
   refine Qj [33,32,0,1,5,6] rfl rfl ?_
   refine Qh 14 [] rfl (YR (j:=0) rfl rfl Yn rfl rfl rfl (by simpa using (tl h4)) (cs':=e8 ((vp s0.2 ((s0.1).toNat) ((sg s_ s0.1) ^^^ (vg (lg w_ ((ZJ (s0.1.tdiv 4)).toNat)) ((s0.1.tmod 4).toNat)))).toList)) VR) (fun _=>rfl) (fun _=>?_)
   refine Iy 0 (congrArg (fun z:Vx 8 16=>e8 (Vector.toList z)) hm_1) ?_
   refine Vi ?_
   refine ZW (Z7 (ZH (YP ?_)))
   refine ZV (ZT XN) ?_
   refine Y2 ?_
   have ⟨i1,Ll,H⟩:=ZX H
   refine WN 6 (congrArg vi Ll) ?_
   refine ZK ?_
   obtain rfl:=sj H
   exact Ri [0] (hK (i1,Xi) rfl ())
  refine YW (Z0 (Z0 ?_))
  obtain rfl:=sj H
  exact WW [0] (hE s0.2 rfl ())
 intro g
 refine ZL (Z7 (Z_ (YP ?_)))
 refine ZV (ZG rfl underlying127) ?_
 refine ZV (Zg rfl rfl (fun w=>Lh w ((w_).length:Int) 4 (by decide))) ?_
 refine ZV (ZT OX) ?_
 refine Y2 ?_
 have ⟨Rc,hrounds1,H⟩:=ZX H
 refine WN 7 (congrArg vi hrounds1) ?_
 refine Z6 (ZY (Z_ (Y2 ?_)))
 refine Z6 (ZP ?_)
 have ⟨M7,Hl,H⟩:=Z9 H
 refine Wz [0,5,7,8] [0] rfl rfl ?_
 refine Yv (id:=2) (body:=(ZF.b1 w_ Rc)) (σ:=Int × Vx 8 16) (Γ:=Unit) (Γx:=Unit) (fun s1 ME=>[(0,sl Aw_ ((w_).length) cw_),(5,ptr (some (b1,0)) 0),(7,vi Rc),(8,vi s1.1)]) (fun s1 ME=>[⟨some (b1,0),e8 s1.2.toList⟩]) (fun t g=>[(5,ptr (some (b1,0)) 0)]) (fun t g=>[⟨some (b1,0),e8 t.toList⟩]) ?_ BIG (1,Yw) () M7 Hl ?_
 ·intro s1 ME r1 H K hK hE
  unfold ZF.b1 at H
  refine ZY (Z_ (Zj 2 rfl ?_))
  refine ZV (ZT RH) ?_
  refine Z6 (UK H (fun hc H=>?_) (fun hc H=>?_))
  ·refine ZN (Z7 (ZY (ZP (Z_ (YE (Wh [(16,e8 ((replicate 16 0#8).toList))] UW Pp ⟨(Wl (f:=v8) (replicate 16 0#8)),trivial⟩) (fun b2=>?_))))))
   refine Z6 (ZY (Z_ (Y2 ?_)))
   refine Z6 (ZP ?_)
   have ⟨KI,Hl,H⟩:=Z9 H
   refine Wz [0,5,7,8,9,10] [1,0] rfl rfl ?_
   refine Yv (id:=4) (body:=(ZF.b2 s1)) (σ:=Int × Vx 8 16) (Γ:=Unit) (Γx:=Unit) (fun s2 y_=>[(0,sl Aw_ ((w_).length) cw_),(5,ptr (some (b1,0)) 0),(7,vi Rc),(8,vi s1.1),(9,ptr (some (b2,0)) 0),(10,vi s2.1)]) (fun s2 y_=>[⟨some (b1,0),e8 s1.2.toList⟩,⟨some (b2,0),e8 s2.2.toList⟩]) (fun t g=>[(0,sl Aw_ ((w_).length) cw_),(5,ptr (some (b1,0)) 0),(7,vi Rc),(8,vi s1.1),(9,ptr (some (b2,0)) 0)]) (fun t g=>[⟨some (b1,0),e8 s1.2.toList⟩,⟨some (b2,0),e8 t.toList⟩]) ?_ BIG (0,replicate 16 0#8) () KI Hl ?_
   ·intro s2 y_ r1 H K hK hE
    unfold ZF.b2 at H
    refine ZY (Z_ (YP ?_))
    refine ZV (ZT WV) ?_
    refine Z6 (UK H (fun hc H=>?_) (fun hc H=>?_))
    ·refine ZN (Z7 (ZY (ZP (ZH (Zj 3 rfl ?_)))))
     refine ZV (Zg rfl rfl (fun w=>Jg w s2.1 4 (by decide))) ?_
     refine ZV (ZT Ma) ?_
     refine ZV (ZT XN) ?_
     refine ZV (Zg rfl rfl (fun w=>Jg w (ZJ (s2.1+(ZJ (4 * (s2.1.tmod 4))))) 16 (by decide))) ?_
     have ⟨h5,H⟩:=Z4 H
     refine ZV (Zw (i:=(ZJ (s2.1+(ZJ (4 * (s2.1.tmod 4))))).tmod 16) rfl rfl underlying171 Yn rfl h5.1 h5.2 (k:=((ZJ (s2.1+(ZJ (4 * (s2.1.tmod 4))))).tmod 16).toNat) (Tz _)) ?_
     refine ZV (Z8 rfl (.o 0) (YL (f:=v8) (V:=s1.2) (tl h5)) isAgg5) ?_
     have ⟨h6,H⟩:=Z4 H
     refine ZV (U2 rfl rfl (i:=((vg s1.2 (((ZJ (s2.1+(ZJ (4 * (s2.1.tmod 4))))).tmod 16).toNat)).toNat:Int)) underlying9 h6.1 h6.2) ?_
     have ⟨h7,H⟩:=Z4 H
     refine ZV (Zw (i:=s2.1) rfl rfl underlying171 Yn rfl h7.1 h7.2 (k:=(s2.1).toNat) (Tz _)) ?_
     refine VM (YR (j:=1) rfl rfl Yn rfl rfl rfl (by simpa using (tl h7)) (cs':=e8 ((vp s2.2 ((s2.1).toNat) (sg ZF.k1 ((vg s1.2 (((ZJ (s2.1+(ZJ (4 * (s2.1.tmod 4))))).tmod 16).toNat)).toNat:Int))).toList)) VR) (fun _=>?_)
     have ⟨SV,hm_2,H⟩:=ZX H
     refine Ta 1 (congrArg (fun z:Vx 8 16=>e8 (Vector.toList z)) hm_2) ?_
     refine ZK (ZW (Z7 (ZH (YP ?_))))
     refine ZV (ZT XN) ?_
     refine Y2 ?_
     have ⟨i2,Ca,H⟩:=ZX H
     refine WN 10 (congrArg vi Ca) ?_
     refine ZK ?_
     obtain rfl:=sj H
     exact Ri [0,0] (hK (i2,SV) rfl ())
    refine YW (Z0 (Z0 ?_))
    obtain rfl:=sj H
    exact WW [0,0] (hE s2.2 rfl ())
   intro g
   refine ZL (Z7 (ZY (Z_ (Zj 2 rfl ?_))))
   refine ZV (ZT WV) ?_
   refine Z6 ?_
   have ⟨j1,Hj,H⟩:=Z9 H
   refine Ns (Γ:=Unit) (fun Sc=>[(0,sl Aw_ ((w_).length) cw_),(5,ptr (some (b1,0)) 0),(7,vi Rc),(8,vi s1.1),(9,ptr (some (b2,0)) 0)]) (fun Sc=>[⟨some (b1,0),e8 s1.2.toList⟩,⟨some (b2,0),e8 j1.toList⟩]) ?_ ?_
   ·intro Sc
    refine Z7 (Z_ (Y2 ?_))
    refine Z6 (ZP ?_)
    have ⟨Gu,Hl,H⟩:=Z9 H
    refine Wz [0,5,7,8,9,15] [0,0] rfl rfl ?_
    refine Yv (id:=10) (body:=(ZF.b3 w_ s1 j1)) (σ:=Int × Vx 8 16) (Γ:=Unit) (Γx:=Unit) (fun s3 uz=>[(0,sl Aw_ ((w_).length) cw_),(5,ptr (some (b1,0)) 0),(7,vi Rc),(8,vi s1.1),(9,ptr (some (b2,0)) 0),(15,vi s3.1)]) (fun s3 uz=>[⟨some (b1,0),e8 s3.2.toList⟩,⟨some (b2,0),e8 j1.toList⟩]) (fun t g=>[(0,sl Aw_ ((w_).length) cw_),(5,ptr (some (b1,0)) 0),(7,vi Rc),(8,vi s1.1)]) (fun t g=>[⟨some (b1,0),e8 t.toList⟩]) ?_ BIG (0,s1.2) () Gu Hl ?_
    ·intro s3 uz r1 H K hK hE
     unfold ZF.b3 at H
     refine ZY (Z_ (YP ?_))
     refine ZV (ZT WV) ?_
     refine Z6 (UK H (fun hc H=>?_) (fun hc H=>?_))
     ·refine ZN (Z7 (ZY (ZP ?_)))
      have ⟨h8,H⟩:=Z4 H
      have ⟨h9,H⟩:=Z4 H
      have ⟨JN,H⟩:=Z4 H
      have ⟨h11,H⟩:=Z4 H
      have ⟨IV,hm_3,H⟩:=ZX H
      refine U3 [] 18 rfl ?_
      refine PX 1 [] (.v 0 [] rfl rfl (ZO rfl) (.v 1 [] rfl rfl (ZO rfl) (.v 2 [1] rfl rfl (Zw (i:=s3.1) rfl rfl underlying171 Yn rfl h8.1 h8.2 (k:=(s3.1).toNat) (Tz _)) (.v 3 [2] rfl rfl (Z8 rfl (.o 1) (YL (f:=v8) (V:=j1) (tl h8)) isAgg5) (.v 4 [] rfl rfl (ZO rfl) (.v 5 [] rfl rfl (ZO rfl) (.v 6 [5] rfl rfl (V9 Ma rfl rfl) (.v 7 [] rfl rfl (ZO rfl) (.v 8 [7] rfl rfl (Zg rfl rfl (fun w=>Lh w s3.1 4 (by decide))) (.v 9 [8,6] rfl rfl (V9 XN rfl rfl) (.v 10 [] rfl rfl (ZO rfl) (.v 11 [10] rfl rfl (Zg rfl rfl (fun w=>Jg w s3.1 4 (by decide))) (.v 12 [9,4] rfl rfl (YK (i:=ZJ ((ZJ (4 * s1.1))+(ZJ (s3.1.tdiv 4)))) rfl rfl underlying127 TM rfl (.r 0) (VC (s:=4) (fun _=>by simp) rfl (tl h9)) h9.1 h9.2 (k:=((ZJ ((ZJ (4 * s1.1))+(ZJ (s3.1.tdiv 4)))).toNat) * 4) rfl) (.v 13 [11,12] rfl rfl (Zw (i:=s3.1.tmod 4) rfl rfl underlying147 Yn rfl JN.1 JN.2 (k:=((ZJ ((ZJ (4 * s1.1))+(ZJ (s3.1.tdiv 4)))).toNat) * 4+(s3.1.tmod 4).toNat) (k1 _ _)) (.v 14 [13] rfl rfl (Z8 rfl (.r 0) ((UM (g:=fun V:Vx 8 4=>e8 V.toList) (s:=4) (fun _=>by simp) w_ ((ZJ ((ZJ (4 * s1.1))+(ZJ (s3.1.tdiv 4)))).toNat) ((s3.1.tmod 4).toNat) (tl h9) (tl JN)).trans (YL (tl JN))) isAgg5) (.v 15 [3,14] rfl rfl (V9 Sr rfl rfl) (.v 16 [0] rfl rfl (Zw (i:=s3.1) rfl rfl underlying171 Yn rfl h11.1 h11.2 (k:=(s3.1).toNat) (Tz _)) .nil))))))))))))))))) (fun γ=>?_)
      refine Qj [152,151,0,5,7,8,9,15] rfl rfl ?_
      refine Qh 17 [] rfl (YR (j:=0) rfl rfl Yn rfl rfl rfl (by simpa using (tl h11)) (cs':=e8 ((vp s3.2 ((s3.1).toNat) ((vg j1 ((s3.1).toNat)) ^^^ (vg (lg w_ ((ZJ ((ZJ (4 * s1.1))+(ZJ (s3.1.tdiv 4)))).toNat)) ((s3.1.tmod 4).toNat)))).toList)) VR) (fun _=>rfl) (fun _=>?_)
      refine Iy 0 (congrArg (fun z:Vx 8 16=>e8 (Vector.toList z)) hm_3) ?_
      refine Vi ?_
      refine ZW (Z7 (ZH (YP ?_)))
      refine ZV (ZT XN) ?_
      refine Y2 ?_
      have ⟨i3,hi3,H⟩:=ZX H
      refine WN 15 (congrArg vi hi3) ?_
      refine ZK ?_
      obtain rfl:=sj H
      exact Ri [0,0] (hK (i3,IV) rfl ())
     refine YW (Z0 (Z0 ?_))
     obtain rfl:=sj H
     exact WW [0] (hE s3.2 rfl ())
    intro g
    refine ZL (ZW (Z7 (ZH (YP ?_))))
    refine ZV (ZT XN) ?_
    refine Y2 ?_
    have ⟨Zu,Yk,H⟩:=ZX H
    refine WN 8 (congrArg vi Yk) ?_
    refine ZK ?_
    obtain rfl:=sj H
    exact Ri [0] (hK (Zu,Gu) rfl ())
   intro hJ
   replace H:=Hj
   refine UK H (fun hc H=>?_) (fun hc H=>?_)
   ·refine Z_ (Y2 ?_)
    refine Z6 (ZP ?_)
    have ⟨bP,Hl,H⟩:=Z9 H
    refine Wz [0,5,7,8,9,11] [0,0] rfl rfl ?_
    refine Yv (id:=6) (body:=(ZF.b4)) (σ:=Int × Vx 8 16) (Γ:=Unit) (Γx:=Unit) (fun s4 g4_=>[(0,sl Aw_ ((w_).length) cw_),(5,ptr (some (b1,0)) 0),(7,vi Rc),(8,vi s1.1),(9,ptr (some (b2,0)) 0),(11,vi s4.1)]) (fun s4 g4_=>[⟨some (b1,0),e8 s1.2.toList⟩,⟨some (b2,0),e8 s4.2.toList⟩]) (fun t g=>[(0,sl Aw_ ((w_).length) cw_),(5,ptr (some (b1,0)) 0),(7,vi Rc),(8,vi s1.1),(9,ptr (some (b2,0)) 0)]) (fun t g=>[⟨some (b1,0),e8 s1.2.toList⟩,⟨some (b2,0),e8 t.toList⟩]) ?_ BIG (0,KI) () bP Hl ?_
    ·intro s4 g4_ r1 H K hK hE
     unfold ZF.b4 at H
     refine ZY (Z_ (YP ?_))
     refine ZV (ZT WV) ?_
     refine Z6 (UK H (fun hc H=>?_) (fun hc H=>?_))
     ·refine ZN (Z7 (ZY (ZP (ZY ?_))))
      have ⟨h12,H⟩:=Z4 H
      have ⟨h13,H⟩:=Z4 H
      have ⟨h14,H⟩:=Z4 H
      have ⟨h15,H⟩:=Z4 H
      have ⟨K8,hall1,H⟩:=ZX H
      refine U3 [] 19 rfl ?_
      refine PX 1 [] (.v 0 [] rfl rfl (ZO rfl) (.v 1 [0] rfl rfl (Zw (i:=s4.1) rfl rfl underlying171 Yn rfl h12.1 h12.2 (k:=(s4.1).toNat) (Tz _)) (.v 2 [1] rfl rfl (Z8 rfl (.o 1) (YL (f:=v8) (V:=s4.2) (tl h12)) isAgg5) (.v 3 [] rfl rfl (ZO rfl) (.v 4 [3] rfl rfl (V9 XN rfl rfl) (.v 5 [4] rfl rfl (Zw (i:=ZJ (s4.1+1)) rfl rfl underlying171 Yn rfl h13.1 h13.2 (k:=(ZJ (s4.1+1)).toNat) (Tz _)) (.v 6 [5] rfl rfl (Z8 rfl (.o 1) (YL (f:=v8) (V:=s4.2) (tl h13)) isAgg5) (.v 7 [2,6] rfl rfl (V9 Sr rfl rfl) (.v 8 [] rfl rfl (ZO rfl) (.v 9 [8] rfl rfl (V9 XN rfl rfl) (.v 10 [9] rfl rfl (Zw (i:=ZJ (s4.1+2)) rfl rfl underlying171 Yn rfl h14.1 h14.2 (k:=(ZJ (s4.1+2)).toNat) (Tz _)) (.v 11 [10] rfl rfl (Z8 rfl (.o 1) (YL (f:=v8) (V:=s4.2) (tl h14)) isAgg5) (.v 12 [7,11] rfl rfl (V9 Sr rfl rfl) (.v 13 [] rfl rfl (ZO rfl) (.v 14 [13] rfl rfl (V9 XN rfl rfl) (.v 15 [14] rfl rfl (Zw (i:=ZJ (s4.1+3)) rfl rfl underlying171 Yn rfl h15.1 h15.2 (k:=(ZJ (s4.1+3)).toNat) (Tz _)) (.v 16 [15] rfl rfl (Z8 rfl (.o 1) (YL (f:=v8) (V:=s4.2) (tl h15)) isAgg5) (.v 17 [16,12] rfl rfl (V9 Sr rfl rfl) .nil)))))))))))))))))) (fun γ=>?_)
      refine Qj [82,0,5,7,8,9,11] rfl rfl ?_
      refine qc 18 [] rfl (XL rfl) rfl ?_
      refine Xb 12 (congrArg v8 hall1) ?_
      refine Vi ?_
      refine Z7 (Z_ (YP ?_))
      have ⟨h16,H⟩:=Z4 H
      refine ZV (Zw (i:=s4.1) rfl rfl underlying171 Yn rfl h16.1 h16.2 (k:=(s4.1).toNat) (Tz _)) ?_
      refine ZV (Z8 rfl (.o 1) (YL (f:=v8) (V:=s4.2) (tl h16)) isAgg5) ?_
      refine Y2 ?_
      have ⟨zQ,hfirst1,H⟩:=ZX H
      refine WN 13 (congrArg v8 hfirst1) ?_
      refine Z6 (ZY (Z_ (Y2 ?_)))
      refine Z6 (ZP ?_)
      have ⟨jJ,Hl,H⟩:=Z9 H
      refine Wz [0,5,7,8,9,11,12,13,14] [0,0] rfl rfl ?_
      refine Yv (id:=8) (body:=(ZF.b5 s4 K8)) (σ:=Int × Vx 8 16) (Γ:=Unit) (Γx:=Unit) (fun s5 g5_=>[(0,sl Aw_ ((w_).length) cw_),(5,ptr (some (b1,0)) 0),(7,vi Rc),(8,vi s1.1),(9,ptr (some (b2,0)) 0),(11,vi s4.1),(12,v8 K8),(13,v8 zQ),(14,vi s5.1)]) (fun s5 g5_=>[⟨some (b1,0),e8 s1.2.toList⟩,⟨some (b2,0),e8 s5.2.toList⟩]) (fun t g=>[(0,sl Aw_ ((w_).length) cw_),(5,ptr (some (b1,0)) 0),(7,vi Rc),(8,vi s1.1),(9,ptr (some (b2,0)) 0),(11,vi s4.1),(12,v8 K8),(13,v8 zQ)]) (fun t g=>[⟨some (b1,0),e8 s1.2.toList⟩,⟨some (b2,0),e8 t.toList⟩]) ?_ BIG (0,s4.2) () jJ Hl ?_
      ·intro s5 g5_ r1 H K hK hE
       unfold ZF.b5 at H
       refine ZY (Z_ (YP ?_))
       refine ZV (ZT WV) ?_
       refine Z6 (UK H (fun hc H=>?_) (fun hc H=>?_))
       ·refine ZN (Z7 (ZY (ZP ?_)))
        have ⟨h17,H⟩:=Z4 H
        have ⟨h18,H⟩:=Z4 H
        have ⟨h19,H⟩:=Z4 H
        have ⟨YJ,X6,H⟩:=Z9 H
        have ⟨h20,H⟩:=Z4 H
        have ⟨FL,hm_4,H⟩:=ZX H
        refine U3 [] 26 rfl ?_
        refine PX 1 [] (.v 0 [] rfl rfl (ZO rfl) (.v 1 [] rfl rfl (ZO rfl) (.v 2 [0,1] rfl rfl (V9 XN rfl rfl) (.v 3 [] rfl rfl (ZO rfl) (.v 4 [] rfl rfl (ZO rfl) (.v 5 [3,4] rfl rfl (V9 XN rfl rfl) (.v 6 [5] rfl rfl (Zw (i:=ZJ (s4.1+s5.1)) rfl rfl underlying171 Yn rfl h17.1 h17.2 (k:=(ZJ (s4.1+s5.1)).toNat) (Tz _)) (.v 7 [6] rfl rfl (Z8 rfl (.o 1) (YL (f:=v8) (V:=s5.2) (tl h17)) isAgg5) (.v 8 [] rfl rfl (ZO rfl) (.v 9 [7,8] rfl rfl (V9 Sr rfl rfl) (.v 10 [] rfl rfl (ZO rfl) (.v 11 [] rfl rfl (ZO rfl) (.v 12 [10,11] rfl rfl (V9 XN rfl rfl) (.v 13 [12] rfl rfl (Zw (i:=ZJ (s4.1+s5.1)) rfl rfl underlying171 Yn rfl h18.1 h18.2 (k:=(ZJ (s4.1+s5.1)).toNat) (Tz _)) (.v 14 [13] rfl rfl (Z8 rfl (.o 1) (YL (f:=v8) (V:=s5.2) (tl h18)) isAgg5) (.v 15 [] rfl rfl (ZO rfl) (.v 16 [] rfl rfl (ZO rfl) (.v 17 [15,16] rfl rfl (V9 XN rfl rfl) (.v 18 [17] rfl rfl (V9 XN rfl rfl) (.v 19 [18] rfl rfl (Zw (i:=ZJ ((ZJ (s4.1+s5.1))+1)) rfl rfl underlying171 Yn rfl h19.1 h19.2 (k:=(ZJ ((ZJ (s4.1+s5.1))+1)).toNat) (Tz _)) (.v 20 [19] rfl rfl (Z8 rfl (.o 1) (YL (f:=v8) (V:=s5.2) (tl h19)) isAgg5) (.v 21 [14,20] rfl rfl (V9 Sr rfl rfl) (.e 22 [21] rfl rfl (Qg (Ga X6 :) call98 .z) (.v 23 [22,9] rfl rfl (V9 Sr rfl rfl) (.v 24 [2] rfl rfl (Zw (i:=ZJ (s4.1+s5.1)) rfl rfl underlying171 Yn rfl h20.1 h20.2 (k:=(ZJ (s4.1+s5.1)).toNat) (Tz _)) .nil))))))))))))))))))))))))) (fun γ=>?_)
        refine Qj [114,113,0,5,7,8,9,11,12,13,14] rfl rfl ?_
        refine Qh 25 [] rfl (YR (j:=1) rfl rfl Yn rfl rfl rfl (by simpa using (tl h20)) (cs':=e8 ((vp s5.2 ((ZJ (s4.1+s5.1)).toNat) (((vg s5.2 ((ZJ (s4.1+s5.1)).toNat)) ^^^ K8) ^^^ YJ)).toList)) VR) (fun _=>rfl) (fun _=>?_)
        refine Iy 1 (congrArg (fun z:Vx 8 16=>e8 (Vector.toList z)) hm_4) ?_
        refine Vi ?_
        refine ZW (Z7 (ZH (YP ?_)))
        refine ZV (ZT XN) ?_
        refine Y2 ?_
        have ⟨i4,hi4,H⟩:=ZX H
        refine WN 14 (congrArg vi hi4) ?_
        refine ZK ?_
        obtain rfl:=sj H
        exact Ri [0,0] (hK (i4,FL) rfl ())
       refine YW (Z0 (Z0 ?_))
       obtain rfl:=sj H
       exact WW [0,0] (hE s5.2 rfl ())
      intro g
      refine ZL (Z7 ?_)
      have ⟨h21,H⟩:=Z4 H
      have ⟨h22,H⟩:=Z4 H
      have ⟨X7,Vt,H⟩:=Z9 H
      have ⟨h23,H⟩:=Z4 H
      have ⟨BH,hm_5,H⟩:=ZX H
      refine U3 [] 18 rfl ?_
      refine PX 1 [] (.v 0 [] rfl rfl (ZO rfl) (.v 1 [0] rfl rfl (V9 XN rfl rfl) (.v 2 [] rfl rfl (ZO rfl) (.v 3 [2] rfl rfl (V9 XN rfl rfl) (.v 4 [3] rfl rfl (Zw (i:=ZJ (s4.1+3)) rfl rfl underlying171 Yn rfl h21.1 h21.2 (k:=(ZJ (s4.1+3)).toNat) (Tz _)) (.v 5 [4] rfl rfl (Z8 rfl (.o 1) (YL (f:=v8) (V:=jJ) (tl h21)) isAgg5) (.v 6 [] rfl rfl (ZO rfl) (.v 7 [5,6] rfl rfl (V9 Sr rfl rfl) (.v 8 [] rfl rfl (ZO rfl) (.v 9 [8] rfl rfl (V9 XN rfl rfl) (.v 10 [9] rfl rfl (Zw (i:=ZJ (s4.1+3)) rfl rfl underlying171 Yn rfl h22.1 h22.2 (k:=(ZJ (s4.1+3)).toNat) (Tz _)) (.v 11 [10] rfl rfl (Z8 rfl (.o 1) (YL (f:=v8) (V:=jJ) (tl h22)) isAgg5) (.v 12 [] rfl rfl (ZO rfl) (.v 13 [11,12] rfl rfl (V9 Sr rfl rfl) (.e 14 [13] rfl rfl (Qg (Ga Vt :) call98 .z) (.v 15 [14,7] rfl rfl (V9 Sr rfl rfl) (.v 16 [1] rfl rfl (Zw (i:=ZJ (s4.1+3)) rfl rfl underlying171 Yn rfl h23.1 h23.2 (k:=(ZJ (s4.1+3)).toNat) (Tz _)) .nil))))))))))))))))) (fun γ=>?_)
      refine Qj [131,130,0,5,7,8,9,11] rfl rfl ?_
      refine Qh 17 [] rfl (YR (j:=1) rfl rfl Yn rfl rfl rfl (by simpa using (tl h23)) (cs':=e8 ((vp jJ ((ZJ (s4.1+3)).toNat) (((vg jJ ((ZJ (s4.1+3)).toNat)) ^^^ K8) ^^^ X7)).toList)) VR) (fun _=>rfl) (fun _=>?_)
      refine Iy 1 (congrArg (fun z:Vx 8 16=>e8 (Vector.toList z)) hm_5) ?_
      refine Vi ?_
      refine ZW (Z7 (ZH (YP ?_)))
      refine ZV (ZT XN) ?_
      refine Y2 ?_
      have ⟨c1,hc1,H⟩:=ZX H
      refine WN 11 (congrArg vi hc1) ?_
      refine ZK ?_
      obtain rfl:=sj H
      exact Ri [0,0] (hK (c1,BH) rfl ())
     refine YW (Z0 (Z0 ?_))
     obtain rfl:=sj H
     exact WW [0,0] (hE s4.2 rfl ())
    intro g
    refine ZL ?_
    obtain rfl:=sj H
    exact WW [0,0] (hJ ())
   refine ZN ?_
   obtain rfl:=sj H
   exact WW [0,0] (hJ ())
  refine YW (Z0 (Z0 ?_))
  obtain rfl:=sj H
  exact WW [0] (hE s1.2 rfl ())
 intro g
 refine ZL (Z7 (Z_ (ZV (P6 rfl (by simp) underlying171 Yn rfl) ?_)))
 refine ZV (QY rfl underlying86 underlying5 underlying9 (.o 0) (by simp)) ?_
 refine Y2 ?_
 refine Zq ?_
 obtain rfl:=sj H
 exact Wj
open TryzI Tryz
def TD (s_:Str):Option (Str) :=
 if 0≤(ZJ (16 - (((s_).length:Int).tmod 16))).tmod 16∧(ZJ (16 - (((s_).length:Int).tmod 16))).tmod 16≤17592186044416 then (if (List.replicate (((ZJ (16 - (((s_).length:Int).tmod 16))).tmod 16).toNat) 0#8).length=((ZJ (16 - (((s_).length:Int).tmod 16))).tmod 16).toNat then (if (s_).length+(List.replicate (((ZJ (16 - (((s_).length:Int).tmod 16))).tmod 16).toNat) 0#8).length≤4611686018427387904 then (X5 (s_++(List.replicate (((ZJ (16 - (((s_).length:Int).tmod 16))).tmod 16).toNat) 0#8)) fun x1=>(some x1)) else none) else none) else none
theorem Dk {s_:Str} {r:Str} (H:TD s_=some r) :
  Does Tryz.prog 101 [vs s_] [] [] (Γ:=Unit) (fun g=>vs r) (fun g=>[]):=by
 intro w hmem hro hd
 refine Zn func101 rfl ntmps101 rfl hmem hro hd ?_
 unfold TD at H
 refine Z_ (Y2 ?_)
 refine Z6 (Z_ (Zj 2 rfl ?_))
 refine ZV (Zf rfl underlying9) ?_
 refine ZV (Zg rfl rfl (fun w=>Jg w ((s_).length:Int) 16 (by decide))) ?_
 refine ZV (ZT OX) ?_
 refine ZV (Zg rfl rfl (fun w=>Jg w (ZJ (16 - (((s_).length:Int).tmod 16))) 16 (by decide))) ?_
 have ⟨h1,H⟩:=Z4 H
 refine YE (OA rfl rfl underlying86 Yn (z:=v8 0#8) rfl rfl rfl (B:=1) rfl h1.1 (Int.le_refl _) (wV 1 rfl h1) (ww h1) (n':=((ZJ (16 - (((s_).length:Int).tmod 16))).tmod 16).toNat) (c':=((ZJ (16 - (((s_).length:Int).tmod 16))).tmod 16).toNat) rfl rfl (cs:=e8 (List.replicate (((ZJ (16 - (((s_).length:Int).tmod 16))).tmod 16).toNat) 0#8)) (Ti (f:=v8))) (fun b1=>?_)
 have ⟨h2,H⟩:=Z4 H
 refine ZV (QY rfl underlying86 underlying5 underlying9 (.o 0) h2) ?_
 have ⟨h3,H⟩:=Z4 H
 refine ZV (Zg rfl rfl (fun w=>G9 w s_ (List.replicate (((ZJ (16 - (((s_).length:Int).tmod 16))).tmod 16).toNat) 0#8) h3)) ?_
 refine Y2 ?_
 have ⟨x1,TK,H⟩:=ZX H
 refine WN 2 (congrArg vs TK) ?_
 refine Zq ?_
 obtain rfl:=sj H
 exact Wj
open TryzI Tryz
def V8.b0 (s_:Str) (s0:BitVec 64 × BitVec 64 × Int):Option ((BitVec 64 × BitVec 64 × Int) ⊕ (BitVec 64 × BitVec 64)) :=
 if s0.2.2<8 then (if 0≤s0.2.2∧s0.2.2<((s_).length:Int) then (X5 ((s0.1 <<< 8) ||| ((sg s_ s0.2.2).setWidth 64)) fun a_1=>(if 0≤ZJ (8+s0.2.2)∧ZJ (8+s0.2.2)<((s_).length:Int) then (X5 ((s0.2.1 <<< 8) ||| ((sg s_ (ZJ (8+s0.2.2))).setWidth 64)) fun b1=>(X5 (ZJ (s0.2.2+1)) fun i1=>(some (.inl (a_1,b1,i1))))) else none)) else none) else (some (.inr (s0.1,s0.2.1)))
def V8 (s_:Str):Option (BitVec 64 × BitVec 64) :=
 (loop (V8.b0 s_) BIG (0#64,0#64,0)).bind fun Yw=>(some (Yw.1,Yw.2))
theorem Ew {s_:Str} {r:BitVec 64 × BitVec 64} (H:V8 s_=some r) :
  Does Tryz.prog 116 [vs s_] [] [] (Γ:=Unit) (fun g=>Value.tuple [v64 r.1,v64 r.2].toArray) (fun g=>[]):=by
 intro w hmem hro hd
 refine Zn func116 rfl ntmps116 rfl hmem hro hd ?_
 unfold V8 at H
 refine Z_ (Zj 2 rfl ?_)
 refine Z6 (Z_ (Zj 2 rfl ?_))
 refine Z6 (ZY (Z_ (Y2 ?_)))
 refine Z6 (ZP ?_)
 have ⟨Yw,Hl,H⟩:=Z9 H
 refine Wz [0,4,5,6] [] rfl rfl ?_
 refine Yv (id:=0) (body:=(V8.b0 s_)) (σ:=BitVec 64 × BitVec 64 × Int) (Γ:=Unit) (Γx:=Unit) (fun s0 WG=>[(0,vs s_),(4,v64 s0.1),(5,v64 s0.2.1),(6,vi s0.2.2)]) (fun s0 WG=>[]) (fun t g=>[(4,v64 t.1),(5,v64 t.2)]) (fun t g=>[]) ?_ BIG (0#64,0#64,0) () Yw Hl ?_
 ·intro s0 WG r1 H K hK hE
  unfold V8.b0 at H
  refine ZY (Z_ (YP ?_))
  refine ZV (ZT WV) ?_
  refine Z6 (UK H (fun hc H=>?_) (fun hc H=>?_))
  ·refine ZN (Z7 (ZY (ZP (Z_ (YP ?_)))))
   refine ZV (Zg rfl rfl (fun w=>Iw w s0.1 .u64 8 (by decide))) ?_
   refine Zj 2 rfl ?_
   have ⟨h1,H⟩:=Z4 H
   refine ZV (U2 rfl rfl (i:=s0.2.2) underlying9 h1.1 h1.2) ?_
   refine ZV (Vu rfl (fun w=>GV w _ _ underlying115 (zh) (sg s_ s0.2.2))) ?_
   refine ZV (ZT zg) ?_
   refine Y2 ?_
   have ⟨a_1,ha_1,H⟩:=ZX H
   refine WN 4 (congrArg v64 ha_1) ?_
   refine Z6 (ZH (YP ?_))
   refine ZV (Zg rfl rfl (fun w=>Iw w s0.2.1 .u64 8 (by decide))) ?_
   refine Zj 2 rfl ?_
   refine ZV (ZT XN) ?_
   have ⟨h2,H⟩:=Z4 H
   refine ZV (U2 rfl rfl (i:=ZJ (8+s0.2.2)) underlying9 h2.1 h2.2) ?_
   refine ZV (Vu rfl (fun w=>GV w _ _ underlying115 (zh) (sg s_ (ZJ (8+s0.2.2))))) ?_
   refine ZV (ZT zg) ?_
   refine Y2 ?_
   have ⟨b1,hb1,H⟩:=ZX H
   refine WN 5 (congrArg v64 hb1) ?_
   refine ZK (ZW (Z7 (ZH (YP ?_))))
   refine ZV (ZT XN) ?_
   refine Y2 ?_
   have ⟨i1,Ll,H⟩:=ZX H
   refine WN 6 (congrArg vi Ll) ?_
   refine ZK ?_
   obtain rfl:=sj H
   exact Ri [] (hK (a_1,b1,i1) rfl ())
  refine YW (Z0 (Z0 ?_))
  obtain rfl:=sj H
  exact WW [] (hE (s0.1,s0.2.1) rfl ())
 intro g
 refine ZL (Z7 (Z_ (Zj 4 rfl ?_)))
 refine Zq ?_
 obtain rfl:=sj H
 exact IA
open TryzI Tryz
def Vy.b0  (s0:BitVec 64 × BitVec 64 × Int × List (BitVec 8)):Option ((BitVec 64 × BitVec 64 × Int × List (BitVec 8)) ⊕ (List (BitVec 8))) :=
 if 0≤s0.2.2.1 then (if 0≤s0.2.2.1∧s0.2.2.1<(16:Int) then (if (s0.2.2.1).toNat<(s0.2.2.2).length then (X5 (s0.2.2.2.set ((s0.2.2.1).toNat) ((s0.1 &&& 255#64).setWidth 8)) fun Xi=>(if 0≤ZJ (8+s0.2.2.1)∧ZJ (8+s0.2.2.1)<(16:Int) then (if (ZJ (8+s0.2.2.1)).toNat<(Xi).length then (X5 (Xi.set ((ZJ (8+s0.2.2.1)).toNat) ((s0.2.1 &&& 255#64).setWidth 8)) fun SV=>(X5 (ZJ (s0.2.2.1 - 1)) fun i1=>(some (.inl (s0.1 >>> 8,s0.2.1 >>> 8,i1,SV))))) else none) else none)) else none) else none) else (some (.inr s0.2.2.2))
def Vy (a_ b:BitVec 64):Option (Str) :=
 (loop (Vy.b0) BIG (a_,b,7,List.replicate 16 0#8)).bind fun Yw=>(if (Yw).length=16 then (some Yw) else none)
theorem xh {a_:BitVec 64} {b:BitVec 64} {r:Str} (H:Vy a_ b=some r) :
  Does Tryz.prog 118 [v64 a_,v64 b] [] [] (Γ:=Unit) (fun g=>vs r) (fun g=>[]):=by
 intro w hmem hro hd
 refine Zn func118 rfl ntmps118 rfl hmem hro hd ?_
 unfold Vy at H
 refine Z_ (Y2 ?_)
 refine Z6 (Z_ (YE (OA rfl rfl underlying86 Yn (z:=v8 0#8) rfl rfl rfl (B:=1) rfl (by decide) (Int.le_refl _) (by decide) (by decide) (n':=16) (c':=16) rfl rfl (cs:=e8 (List.replicate 16 0#8)) (Ti (f:=v8))) (fun b1=>?_)))
 refine Y2 ?_
 refine Z6 (ZY (Z_ (Y2 ?_)))
 refine Z6 (ZP ?_)
 have ⟨Yw,Hl,H⟩:=Z9 H
 refine Wz [0,1,5,6] [0] rfl rfl ?_
 refine Yv (id:=0) (body:=(Vy.b0)) (σ:=BitVec 64 × BitVec 64 × Int × List (BitVec 8)) (Γ:=Unit) (Γx:=Unit) (fun s0 WG=>[(0,v64 s0.1),(1,v64 s0.2.1),(5,sl (some (b1,0)) 16 16),(6,vi s0.2.2.1)]) (fun s0 WG=>[⟨some (b1,0),e8 s0.2.2.2⟩]) (fun t g=>[(5,sl (some (b1,0)) 16 16)]) (fun t g=>[⟨some (b1,0),e8 t⟩]) ?_ BIG (a_,b,7,List.replicate 16 0#8) () Yw Hl ?_
 ·intro s0 WG r1 H K hK hE
  unfold Vy.b0 at H
  refine ZY (Z_ (YP ?_))
  refine ZV (ZT LD) ?_
  refine Z6 (UK H (fun hc H=>?_) (fun hc H=>?_))
  ·refine ZN (Z7 (ZY (ZP (Z_ (Zj 3 rfl ?_)))))
   refine ZV (Zg rfl rfl (fun w=>MZ w s0.1 255#64)) ?_
   refine ZV (Vu rfl (fun w=>ES w _ _ underlying5 (Hu) (s0.1 &&& 255#64))) ?_
   have ⟨h1,H⟩:=Z4 H
   have ⟨h2,H⟩:=Z4 H
   refine ZV (RQ (i:=s0.2.2.1) rfl rfl underlying86 Yn rfl (fun _ h=>by cases h) h1.1 h1.2 (k:=(s0.2.2.1).toNat) (JZ _)) ?_
   refine VM (YR (j:=0) rfl rfl Yn rfl rfl rfl (by simpa using h2) (cs':=e8 (s0.2.2.2.set ((s0.2.2.1).toNat) ((s0.1 &&& 255#64).setWidth 8))) (I1 (f:=v8) (l:=s0.2.2.2) (k:=((s0.2.2.1).toNat)) (x:=((s0.1 &&& 255#64).setWidth 8)))) (fun _=>?_)
   have ⟨Xi,hm_1,H⟩:=ZX H
   refine Ta 0 (congrArg (e8) hm_1) ?_
   refine Z6 (Z_ (Zj 2 rfl ?_))
   refine ZV (ZT XN) ?_
   refine YP ?_
   refine ZV (Zg rfl rfl (fun w=>MZ w s0.2.1 255#64)) ?_
   refine ZV (Vu rfl (fun w=>ES w _ _ underlying5 (Hu) (s0.2.1 &&& 255#64))) ?_
   have ⟨h3,H⟩:=Z4 H
   have ⟨h4,H⟩:=Z4 H
   refine ZV (RQ (i:=ZJ (8+s0.2.2.1)) rfl rfl underlying86 Yn rfl (fun _ h=>by cases h) h3.1 h3.2 (k:=(ZJ (8+s0.2.2.1)).toNat) (JZ _)) ?_
   refine VM (YR (j:=0) rfl rfl Yn rfl rfl rfl (by simpa using h4) (cs':=e8 (Xi.set ((ZJ (8+s0.2.2.1)).toNat) ((s0.2.1 &&& 255#64).setWidth 8))) (I1 (f:=v8) (l:=Xi) (k:=((ZJ (8+s0.2.2.1)).toNat)) (x:=((s0.2.1 &&& 255#64).setWidth 8)))) (fun _=>?_)
   have ⟨SV,hm_2,H⟩:=ZX H
   refine Ta 0 (congrArg (e8) hm_2) ?_
   refine Z6 (Z_ (YP ?_))
   refine ZV (Zg rfl rfl (fun w=>Pi w s0.1 .u64 8 (by decide))) ?_
   refine Y2 ?_
   refine Z6 (ZH (YP ?_))
   refine ZV (Zg rfl rfl (fun w=>Pi w s0.2.1 .u64 8 (by decide))) ?_
   refine Y2 ?_
   refine ZK (ZW (Z7 (ZH (YP ?_))))
   refine ZV (ZT OX) ?_
   refine Y2 ?_
   have ⟨i1,Ll,H⟩:=ZX H
   refine WN 6 (congrArg vi Ll) ?_
   refine ZK ?_
   obtain rfl:=sj H
   exact Ri [0] (hK (s0.1 >>> 8,s0.2.1 >>> 8,i1,SV) rfl ())
  refine YW (Z0 (Z0 ?_))
  obtain rfl:=sj H
  exact WW [0] (hE s0.2.2.2 rfl ())
 intro g
 refine ZL (Z7 (Z_ (YP ?_)))
 have ⟨h5,H⟩:=Z4 H
 refine ZV (QY rfl underlying86 underlying5 underlying9 (.o 0) h5) ?_
 refine Y2 ?_
 refine Zq ?_
 obtain rfl:=sj H
 exact Wj
open TryzI Tryz
def VQ.b0 (s_:Str) (Zu:BitVec 64 × BitVec 64) (s0:BitVec 64 × BitVec 64 × Int):Option ((BitVec 64 × BitVec 64 × Int) ⊕ (BitVec 64 × BitVec 64)) :=
 if (ZJ (s0.2.2+16))≤((s_).length:Int) then (if 0≤ZJ (s0.2.2+16) then (if 0≤s0.2.2 then (if (ZJ (s0.2.2+16)).toNat≤(s_).length then (if (s0.2.2).toNat≤(ZJ (s0.2.2+16)).toNat then ((V8 (sub s_ ((s0.2.2).toNat) ((ZJ (s0.2.2+16)).toNat))).bind fun YJ=>((Vz (s0.1 ^^^ YJ.1) (s0.2.1 ^^^ YJ.2) Zu.1 Zu.2).bind fun X7=>(X5 (ZJ (s0.2.2+16)) fun i1=>(some (.inl (X7.1,X7.2,i1)))))) else none) else none) else none) else none) else (some (.inr (s0.1,s0.2.1)))
def VQ (h s_:Str):Option (Str) :=
 (V8 h).bind fun Zu=>((loop (VQ.b0 s_ Zu) BIG (0#64,0#64,0)).bind fun Yw=>((Vy Yw.1 Yw.2).bind fun Xu=>(some Xu)))
theorem xA {h:Str} {s_:Str} {r:Str} (H:VQ h s_=some r) :
  Does Tryz.prog 100 [vs h,vs s_] [] [] (Γ:=Unit) (fun g=>vs r) (fun g=>[]):=by
 intro w hmem hro hd
 refine Zn func100 rfl ntmps100 rfl hmem hro hd ?_
 unfold VQ at H
 refine Z_ (Y2 ?_)
 refine Z6 (Z_ (YP ?_))
 have ⟨Zu,Yk,H⟩:=Z9 H
 refine YE (Y4 (Ew Yk :) call116 .z) (fun Re=>?_)
 refine Zj 5 rfl ?_
 refine Z6 (Z_ (Zj 2 rfl ?_))
 refine Z6 (ZY (Z_ (Y2 ?_)))
 refine Z6 (ZP ?_)
 have ⟨Yw,Hl,H⟩:=Z9 H
 refine Wz [1,5,6,7,8,9] [] rfl rfl ?_
 refine Yv (id:=0) (body:=(VQ.b0 s_ Zu)) (σ:=BitVec 64 × BitVec 64 × Int) (Γ:=Unit) (Γx:=Unit) (fun s0 WG=>[(1,vs s_),(5,v64 Zu.1),(6,v64 Zu.2),(7,v64 s0.1),(8,v64 s0.2.1),(9,vi s0.2.2)]) (fun s0 WG=>[]) (fun t g=>[(7,v64 t.1),(8,v64 t.2)]) (fun t g=>[]) ?_ BIG (0#64,0#64,0) () Yw Hl ?_
 ·intro s0 WG r1 H K hK hE
  unfold VQ.b0 at H
  refine ZY (Z_ (YP ?_))
  refine ZV (ZT XN) ?_
  refine YP ?_
  refine ZV (Zf rfl underlying9) ?_
  refine ZV (ZT RH) ?_
  refine Z6 (UK H (fun hc H=>?_) (fun hc H=>?_))
  ·refine ZN (Z7 (ZY (ZP (Z_ (Zj 3 rfl ?_)))))
   refine ZV (ZT XN) ?_
   have ⟨h1,H⟩:=Z4 H
   have ⟨h2,H⟩:=Z4 H
   have ⟨h3,H⟩:=Z4 H
   have ⟨h4,H⟩:=Z4 H
   refine ZV (Uq (l:=(s0.2.2).toNat) (h:=(ZJ (s0.2.2+16)).toNat) rfl underlying9 (OZ.some' (i:=s0.2.2) rfl h2) (OZ.some' (i:=ZJ (s0.2.2+16)) rfl h1) h4 h3) ?_
   have ⟨YJ,X6,H⟩:=Z9 H
   refine YE (Y4 (Ew X6 :) call116 .z) (fun UD=>?_)
   refine Zj 5 rfl ?_
   refine Z6 (ZH (Zj 2 rfl ?_))
   refine ZV (ZT K3) ?_
   refine Zj 2 rfl ?_
   refine ZV (ZT K3) ?_
   refine Zj 2 rfl ?_
   have ⟨X7,Vt,H⟩:=Z9 H
   refine YE (Y4 (xq Vt :) call117 .z) (fun Pm=>?_)
   refine Zj 5 rfl ?_
   refine ZK (ZW (Z7 (N7 [1,5,6,7,8,9] rfl rfl ?_)))
   refine ZH (YP ?_)
   refine ZV (ZT XN) ?_
   refine Y2 ?_
   have ⟨i1,Ll,H⟩:=ZX H
   refine WN 9 (congrArg vi Ll) ?_
   refine ZK ?_
   obtain rfl:=sj H
   exact Ri [] (hK (X7.1,X7.2,i1) rfl ())
  refine YW (Z0 (Z0 ?_))
  obtain rfl:=sj H
  exact WW [] (hE (s0.1,s0.2.1) rfl ())
 intro g
 refine ZL (Z7 (Z_ (Zj 2 rfl ?_)))
 have ⟨Xu,UH,H⟩:=Z9 H
 refine YE (Y4 (xh UH :) call118 .z) (fun JV=>?_)
 refine Y2 ?_
 refine Zq ?_
 obtain rfl:=sj H
 exact Wj
open TryzI Tryz
def Yt.b1 (s_:Str) (s0:Int × List (BitVec 8)) (YJ:Str) (s1:Int × List (BitVec 8)):Option ((Int × List (BitVec 8)) ⊕ (List (BitVec 8))) :=
 if s1.1<16 then (if (ZJ (s0.1+s1.1))<((s_).length:Int) then (if 0≤ZJ (s0.1+s1.1)∧ZJ (s0.1+s1.1)<((s_).length:Int) then (if 0≤s1.1∧s1.1<((YJ).length:Int) then (if 0≤ZJ (s0.1+s1.1)∧ZJ (s0.1+s1.1)<((((s_).length:Int)).toNat:Int) then (if (ZJ (s0.1+s1.1)).toNat<(s1.2).length then (X5 (s1.2.set ((ZJ (s0.1+s1.1)).toNat) ((sg s_ (ZJ (s0.1+s1.1))) ^^^ (sg YJ s1.1))) fun Xi=>(X5 (ZJ (s1.1+1)) fun j1=>(some (.inl (j1,Xi))))) else none) else none) else none) else none) else (some (.inr s1.2))) else (some (.inr s1.2))
def Yt.b0 (w_:List (Vx 8 4)) (ZA:Str) (from_:Int) (s_:Str) (s0:Int × List (BitVec 8)):Option ((Int × List (BitVec 8)) ⊕ (List (BitVec 8))) :=
 if s0.1<((s_).length:Int) then ((Wt (ZJ (from_+(ZJ (s0.1.tdiv 16)))) 4).bind fun Zu=>(if (ZA).length+(Zu).length≤4611686018427387904 then ((ZF w_ (ZA++Zu)).bind fun YJ=>((loop (Yt.b1 s_ s0 YJ) BIG (0,s0.2)).bind fun M7=>(X5 (ZJ (s0.1+16)) fun i1=>(some (.inl (i1,M7)))))) else none)) else (some (.inr s0.2))
def Yt (w_:List (Vx 8 4)) (ZA:Str) (from_:Int) (s_:Str):Option (Str) :=
 if 0≤((s_).length:Int)∧((s_).length:Int)≤17592186044416 then ((loop (Yt.b0 w_ ZA from_ s_) BIG (0,List.replicate ((((s_).length:Int)).toNat) 0#8)).bind fun Yw=>(if (Yw).length=(((s_).length:Int)).toNat then (some Yw) else none)) else none
theorem F9 {Aw_:Y6} {cw_:Nat} {w_:List (Vx 8 4)} {ZA:Str} {from_:Int} {s_:Str} (mo:(w_).length≤cw_) {r:Str} (H:Yt w_ ZA from_ s_=some r) :
  Does Tryz.prog 81 [sl Aw_ ((w_).length) cw_,vs ZA,vi from_,vs s_] [] [⟨Aw_,eF (fun V:Vx 8 4=>e8 V.toList) w_⟩] (Γ:=Unit) (fun g=>vs r) (fun g=>[]):=by
 intro w hmem hro hd
 refine Zn func81 rfl ntmps81 rfl hmem hro hd ?_
 unfold Yt at H
 refine Z_ (Y2 ?_)
 refine Z6 (Z_ (YP ?_))
 refine ZV (Zf rfl underlying9) ?_
 have ⟨h1,H⟩:=Z4 H
 refine YE (OA rfl rfl underlying86 Yn (z:=v8 0#8) rfl rfl rfl (B:=1) rfl h1.1 (Int.le_refl _) (wV 1 rfl h1) (ww h1) (n':=(((s_).length:Int)).toNat) (c':=(((s_).length:Int)).toNat) rfl rfl (cs:=e8 (List.replicate ((((s_).length:Int)).toNat) 0#8)) (Ti (f:=v8))) (fun b1=>?_)
 refine Y2 ?_
 refine Z6 (ZY (Z_ (Y2 ?_)))
 refine Z6 (ZP ?_)
 have ⟨Yw,Hl,H⟩:=Z9 H
 refine Wz [0,1,2,3,9,10] [0] rfl rfl ?_
 refine Yv (id:=0) (body:=(Yt.b0 w_ ZA from_ s_)) (σ:=Int × List (BitVec 8)) (Γ:=Unit) (Γx:=Unit) (fun s0 WG=>[(0,sl Aw_ ((w_).length) cw_),(1,vs ZA),(2,vi from_),(3,vs s_),(9,sl (some (b1,0)) ((((s_).length:Int)).toNat) ((((s_).length:Int)).toNat)),(10,vi s0.1)]) (fun s0 WG=>[⟨some (b1,0),e8 s0.2⟩]) (fun t g=>[(9,sl (some (b1,0)) ((((s_).length:Int)).toNat) ((((s_).length:Int)).toNat))]) (fun t g=>[⟨some (b1,0),e8 t⟩]) ?_ BIG (0,List.replicate ((((s_).length:Int)).toNat) 0#8) () Yw Hl ?_
 ·intro s0 WG r1 H K hK hE
  unfold Yt.b0 at H
  refine ZY (Z_ (Zj 2 rfl ?_))
  refine ZV (Zf rfl underlying9) ?_
  refine ZV (ZT WV) ?_
  refine Z6 (UK H (fun hc H=>?_) (fun hc H=>?_))
  ·refine ZN (Z7 (ZY (ZP (Z_ (Zj 4 rfl ?_)))))
   refine ZV (Zg rfl rfl (fun w=>Lh w s0.1 16 (by decide))) ?_
   refine ZV (ZT XN) ?_
   have ⟨Zu,Yk,H⟩:=Z9 H
   refine YE (Y4 (ML Yk :) call60 .z) (fun Re=>?_)
   have ⟨h2,H⟩:=Z4 H
   refine ZV (Zg rfl rfl (fun w=>G9 w ZA Zu h2)) ?_
   have ⟨YJ,X6,H⟩:=Z9 H
   refine YE (Y4 (B_ mo X6 :) call99 ⟨.r 0,trivial⟩) (fun UD=>?_)
   refine Y2 ?_
   refine Z6 (Z_ (Y2 ?_))
   refine Z6 (ZP ?_)
   have ⟨M7,Hl,H⟩:=Z9 H
   refine Wz [0,1,2,3,9,10,11,12] [0] rfl rfl ?_
   refine Yv (id:=2) (body:=(Yt.b1 s_ s0 YJ)) (σ:=Int × List (BitVec 8)) (Γ:=Unit) (Γx:=Unit) (fun s1 ME=>[(0,sl Aw_ ((w_).length) cw_),(1,vs ZA),(2,vi from_),(3,vs s_),(9,sl (some (b1,0)) ((((s_).length:Int)).toNat) ((((s_).length:Int)).toNat)),(10,vi s0.1),(11,vs YJ),(12,vi s1.1)]) (fun s1 ME=>[⟨some (b1,0),e8 s1.2⟩]) (fun t g=>[(0,sl Aw_ ((w_).length) cw_),(1,vs ZA),(2,vi from_),(3,vs s_),(9,sl (some (b1,0)) ((((s_).length:Int)).toNat) ((((s_).length:Int)).toNat)),(10,vi s0.1)]) (fun t g=>[⟨some (b1,0),e8 t⟩]) ?_ BIG (0,s0.2) () M7 Hl ?_
   ·intro s1 ME r1 H K hK hE
    unfold Yt.b1 at H
    refine ZY (Z_ (YP ?_))
    refine ZV (ZT WV) ?_
    refine YP ?_
    refine Td (d:=33) H (fun hc H=>?_) (fun hc H=>?_)
    ·refine Zj 2 rfl ?_
     refine Zc (ZT XN) ?_
     refine Zc (ZO rfl) ?_
     refine Zc (Zf rfl underlying9) ?_
     refine Zc (ZT WV) ?_
     refine ak ?_
     refine Z6 (UK H (fun hc H=>?_) (fun hc H=>?_))
     ·refine ZN (Z7 (ZY (ZP ?_)))
      have ⟨h3,H⟩:=Z4 H
      have ⟨h4,H⟩:=Z4 H
      have ⟨h5,H⟩:=Z4 H
      have ⟨h6,H⟩:=Z4 H
      have ⟨Xi,hm_1,H⟩:=ZX H
      refine U3 [] 15 rfl ?_
      refine PX 1 [] (.v 0 [] rfl rfl (ZO rfl) (.v 1 [] rfl rfl (ZO rfl) (.v 2 [] rfl rfl (ZO rfl) (.v 3 [1,2] rfl rfl (V9 XN rfl rfl) (.v 4 [] rfl rfl (ZO rfl) (.v 5 [] rfl rfl (ZO rfl) (.v 6 [] rfl rfl (ZO rfl) (.v 7 [5,6] rfl rfl (V9 XN rfl rfl) (.v 8 [7,4] rfl rfl (U2 rfl rfl (i:=ZJ (s0.1+s1.1)) underlying9 h3.1 h3.2) (.v 9 [] rfl rfl (ZO rfl) (.v 10 [] rfl rfl (ZO rfl) (.v 11 [9,10] rfl rfl (U2 rfl rfl (i:=s1.1) underlying9 h4.1 h4.2) (.v 12 [8,11] rfl rfl (V9 Sr rfl rfl) (.v 13 [0,3] rfl rfl (RQ (i:=ZJ (s0.1+s1.1)) rfl rfl underlying86 Yn rfl (fun _ h=>by cases h) h5.1 h5.2 (k:=(ZJ (s0.1+s1.1)).toNat) (JZ _)) .nil)))))))))))))) (fun γ=>?_)
      refine Qj [56,55,0,1,2,3,9,10,11,12] rfl rfl ?_
      refine Qh 14 [] rfl (YR (j:=0) rfl rfl Yn rfl rfl rfl (by simpa using h6) (cs':=e8 (s1.2.set ((ZJ (s0.1+s1.1)).toNat) ((sg s_ (ZJ (s0.1+s1.1))) ^^^ (sg YJ s1.1)))) (I1 (f:=v8) (l:=s1.2) (k:=((ZJ (s0.1+s1.1)).toNat)) (x:=((sg s_ (ZJ (s0.1+s1.1))) ^^^ (sg YJ s1.1))))) (fun _=>rfl) (fun _=>?_)
      refine Iy 0 (congrArg (e8) hm_1) ?_
      refine Vi ?_
      refine ZW (Z7 (ZH (YP ?_)))
      refine ZV (ZT XN) ?_
      refine Y2 ?_
      have ⟨j1,hj1,H⟩:=ZX H
      refine WN 12 (congrArg vi hj1) ?_
      refine ZK ?_
      obtain rfl:=sj H
      exact Ri [0] (hK (j1,Xi) rfl ())
     refine YW (Z0 (Z0 ?_))
     obtain rfl:=sj H
     exact WW [0] (hE s1.2 rfl ())
    refine Zj 7 rfl ?_
    refine Z6 (KJ rfl ?_)
    refine YW (Z0 (Z0 ?_))
    obtain rfl:=sj H
    exact WW [0] (hE s1.2 rfl ())
   intro g
   refine ZL (ZW (Z7 (ZH (YP ?_))))
   refine ZV (ZT XN) ?_
   refine Y2 ?_
   have ⟨i1,Ll,H⟩:=ZX H
   refine WN 10 (congrArg vi Ll) ?_
   refine ZK ?_
   obtain rfl:=sj H
   exact Ri [0] (hK (i1,M7) rfl ())
  refine YW (Z0 (Z0 ?_))
  obtain rfl:=sj H
  exact WW [0] (hE s0.2 rfl ())
 intro g
 refine ZL (Z7 (Z_ (YP ?_)))
 have ⟨h7,H⟩:=Z4 H
 refine ZV (QY rfl underlying86 underlying5 underlying9 (.o 0) h7) ?_
 refine Y2 ?_
 refine Zq ?_
 obtain rfl:=sj H
 exact Wj
end Go.Proofs
end

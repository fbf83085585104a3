/-
  Part 14 of the proof of what several laws share.
-/
import Derived.Test.YtkgeoekcnlgfnaaGreatDoorKh13
set_option maxHeartbeats 4000000
set_option maxRecDepth 20000
set_option linter.unusedVariables false
set_option linter.unusedSimpArgs false
section
namespace Go.Proofs
open Go Go.Kx
open Vector (replicate)
open TryzI Tryz
def ZU.k1:Str:=([99#8,124#8,119#8,123#8,242#8,107#8,111#8,197#8,48#8,1#8,103#8,43#8,254#8,215#8,171#8,118#8,202#8,130#8,201#8,125#8,250#8,89#8,71#8,240#8,173#8,212#8,162#8,175#8,156#8,164#8,114#8,192#8,183#8,253#8,147#8,38#8,54#8,63#8,247#8,204#8,52#8,165#8,229#8,241#8,113#8,216#8,49#8,21#8,4#8,199#8,35#8,195#8,24#8,150#8,5#8,154#8,7#8,18#8,128#8,226#8,235#8,39#8,178#8,117#8,9#8,131#8,44#8,26#8,27#8,110#8,90#8,160#8,82#8,59#8,214#8,179#8,41#8,227#8,47#8,132#8,83#8,209#8,0#8,237#8,32#8,252#8,177#8,91#8,106#8,203#8,190#8,57#8,74#8,76#8,88#8,207#8,208#8,239#8,170#8,251#8,67#8,77#8,51#8,133#8,69#8,249#8,2#8,127#8,80#8,60#8,159#8,168#8,81#8,163#8,64#8,143#8,146#8,157#8,56#8,245#8,188#8,182#8,218#8,33#8,16#8,255#8,243#8,210#8,205#8,12#8,19#8,236#8,95#8,151#8,68#8,23#8,196#8,167#8,126#8,61#8,100#8,93#8,25#8,115#8,96#8,129#8,79#8,220#8,34#8,42#8,144#8,136#8,70#8,238#8,184#8,20#8,222#8,94#8,11#8,219#8,224#8,50#8,58#8,10#8,73#8,6#8,36#8,92#8,194#8,211#8,172#8,98#8,145#8,149#8,228#8,121#8,231#8,200#8,55#8,109#8,141#8,213#8,78#8,169#8,108#8,86#8,244#8,234#8,101#8,122#8,174#8,8#8,186#8,120#8,37#8,46#8,28#8,166#8,180#8,198#8,232#8,221#8,116#8,31#8,75#8,189#8,139#8,138#8,112#8,62#8,181#8,102#8,72#8,3#8,246#8,14#8,97#8,53#8,87#8,185#8,134#8,193#8,29#8,158#8,225#8,248#8,152#8,17#8,105#8,217#8,142#8,148#8,155#8,30#8,135#8,233#8,206#8,85#8,40#8,223#8,140#8,161#8,137#8,13#8,191#8,230#8,66#8,104#8,65#8,153#8,45#8,15#8,176#8,84#8,187#8,22#8]:Str)
def ZU.b0 (key:Str) (Qe:Int) (s0:Int × List (Vx 8 4)):Option ((Int × List (Vx 8 4)) ⊕ (List (Vx 8 4))) :=
 if s0.1<Qe then (if 0≤ZJ (4 * s0.1)∧ZJ (4 * s0.1)<((key).length:Int) then (if 0≤ZJ ((ZJ (4 * s0.1))+1)∧ZJ ((ZJ (4 * s0.1))+1)<((key).length:Int) then (if 0≤ZJ ((ZJ (4 * s0.1))+2)∧ZJ ((ZJ (4 * s0.1))+2)<((key).length:Int) then (if 0≤ZJ ((ZJ (4 * s0.1))+3)∧ZJ ((ZJ (4 * s0.1))+3)<((key).length:Int) then (if (s0.2).length+(([(#v[sg key (ZJ (4 * s0.1)),sg key (ZJ ((ZJ (4 * s0.1))+1)),sg key (ZJ ((ZJ (4 * s0.1))+2)),sg key (ZJ ((ZJ (4 * s0.1))+3))]:Vx 8 4)]:List (Vx 8 4))).length≤35184372088832 then (X5 (s0.2++([(#v[sg key (ZJ (4 * s0.1)),sg key (ZJ ((ZJ (4 * s0.1))+1)),sg key (ZJ ((ZJ (4 * s0.1))+2)),sg key (ZJ ((ZJ (4 * s0.1))+3))]:Vx 8 4)]:List (Vx 8 4))) fun l1=>(X5 (ZJ (s0.1+1)) fun i1=>(some (.inl (i1,l1))))) else none) else none) else none) else none) else none) else (some (.inr s0.2))
def ZU.b2 (Qe:Int) (s1:BitVec 8 × Int × List (Vx 8 4)) (s2:Int × Vx 8 4):Option ((Int × Vx 8 4) ⊕ (Vx 8 4)) :=
 if s2.1<4 then (if 0≤s2.1∧s2.1<(4:Int) then (if 0≤ZJ (s1.2.1 - Qe)∧ZJ (s1.2.1 - Qe)<((s1.2.2).length:Int) then (if 0≤s2.1∧s2.1<(4:Int) then (if 0≤s2.1∧s2.1<(4:Int) then (X5 (vp s2.2 ((s2.1).toNat) ((vg s2.2 ((s2.1).toNat)) ^^^ (vg (lg s1.2.2 ((ZJ (s1.2.1 - Qe)).toNat)) ((s2.1).toNat)))) fun SV=>(X5 (ZJ (s2.1+1)) fun j2=>(some (.inl (j2,SV))))) else none) else none) else none) else none) else (some (.inr s2.2))
def ZU.b1 (Qe:Int) (s1:BitVec 8 × Int × List (Vx 8 4)):Option ((BitVec 8 × Int × List (Vx 8 4)) ⊕ (List (Vx 8 4))) :=
 if s1.2.1<(ZJ (4 * (ZJ (Qe+7)))) then (if 0≤ZJ (s1.2.1 - 1)∧ZJ (s1.2.1 - 1)<((s1.2.2).length:Int) then (X5 (lg s1.2.2 ((ZJ (s1.2.1 - 1)).toNat)) fun Xi=>(if Qe ≠ 0 then (X5 (decide ((s1.2.1.tmod Qe)=0)) fun x1=>((if x1=true then (if 0≤((vg Xi 1).toNat:Int)∧((vg Xi 1).toNat:Int)<((ZU.k1).length:Int) then (if 0≤((vg Xi 2).toNat:Int)∧((vg Xi 2).toNat:Int)<((ZU.k1).length:Int) then (if 0≤((vg Xi 3).toNat:Int)∧((vg Xi 3).toNat:Int)<((ZU.k1).length:Int) then (if 0≤((vg Xi 0).toNat:Int)∧((vg Xi 0).toNat:Int)<((ZU.k1).length:Int) then (X5 ((#v[(sg ZU.k1 ((vg Xi 1).toNat:Int)) ^^^ s1.1,sg ZU.k1 ((vg Xi 2).toNat:Int),sg ZU.k1 ((vg Xi 3).toNat:Int),sg ZU.k1 ((vg Xi 0).toNat:Int)]:Vx 8 4)) fun IV=>((UG s1.1).bind fun Zu=>(some (Zu,IV)))) else none) else none) else none) else none) else (if 6<Qe then (if Qe ≠ 0 then (X5 (decide ((s1.2.1.tmod Qe)=4)) fun x2=>(if x2=true then (if 0≤((vg Xi 0).toNat:Int)∧((vg Xi 0).toNat:Int)<((ZU.k1).length:Int) then (if 0≤((vg Xi 1).toNat:Int)∧((vg Xi 1).toNat:Int)<((ZU.k1).length:Int) then (if 0≤((vg Xi 2).toNat:Int)∧((vg Xi 2).toNat:Int)<((ZU.k1).length:Int) then (if 0≤((vg Xi 3).toNat:Int)∧((vg Xi 3).toNat:Int)<((ZU.k1).length:Int) then (X5 ((#v[sg ZU.k1 ((vg Xi 0).toNat:Int),sg ZU.k1 ((vg Xi 1).toNat:Int),sg ZU.k1 ((vg Xi 2).toNat:Int),sg ZU.k1 ((vg Xi 3).toNat:Int)]:Vx 8 4)) fun FL=>(some (s1.1,FL))) else none) else none) else none) else none) else (some (s1.1,Xi)))) else none) else (some (s1.1,Xi)))).bind fun j1=>((loop (ZU.b2 Qe s1) BIG (0,j1.2)).bind fun KI=>(if (s1.2.2).length+(([KI]:List (Vx 8 4))).length≤35184372088832 then (X5 (s1.2.2++([KI]:List (Vx 8 4))) fun l2=>(X5 (ZJ (s1.2.1+1)) fun i2=>(some (.inl (j1.1,i2,l2))))) else none)))) else none)) else none) else (some (.inr s1.2.2))
def ZU (key:Str):Option (List (Vx 8 4)) :=
 X5 (ZJ (((key).length:Int).tdiv 4)) fun Qe=>((loop (ZU.b0 key Qe) BIG (0,([]:List (Vx 8 4)))).bind fun Yw=>((loop (ZU.b1 Qe) BIG (1#8,Qe,Yw)).bind fun M7=>(some M7)))
theorem Cs {key:Str} {r:List (Vx 8 4)} (H:ZU key=some r) :
  Does Tryz.prog 80 [vs key] [] [] (Γ:=Y6 × List (Vx 8 4)) (fun g=>sl g.1 ((r).length) ((r++g.2).length)) (fun g=>[⟨g.1,eF (fun V:Vx 8 4=>e8 V.toList) (r++g.2)⟩]):=by
 intro w hmem hro hd
 refine Zn func80 rfl ntmps80 rfl hmem hro hd ?_
 unfold ZU at H
 refine Z_ (YE (FM rfl (z:=eF (fun V:Vx 8 4=>e8 V.toList) (([]:List (Vx 8 4))++([]:List (Vx 8 4)))) rfl) (fun A1=>?_))
 refine Z6 (Z_ (YP ?_))
 refine ZV (Zf rfl underlying9) ?_
 refine ZV (Zg rfl rfl (fun w=>Lh w ((key).length:Int) 4 (by decide))) ?_
 refine Y2 ?_
 have ⟨Qe,hk_1,H⟩:=ZX H
 refine WN 3 (congrArg vi hk_1) ?_
 refine Z6 (Z_ (YE (FM rfl (z:=eF (fun V:Vx 8 4=>e8 V.toList) (([]:List (Vx 8 4))++([]:List (Vx 8 4)))) rfl) (fun A2=>?_)))
 refine Z6 (ZY (Z_ (Y2 ?_)))
 refine Z6 (ZP ?_)
 have ⟨Yw,Hl,H⟩:=Z9 H
 refine Wz [0,3,4,5] [0] rfl rfl ?_
 refine Yv (id:=0) (body:=(ZU.b0 key Qe)) (σ:=Int × List (Vx 8 4)) (Γ:=Y6 × List (Vx 8 4)) (Γx:=Y6 × List (Vx 8 4)) (fun s0 WG=>[(0,vs key),(3,vi Qe),(4,sl WG.1 ((s0.2).length) ((s0.2++WG.2).length)),(5,vi s0.1)]) (fun s0 WG=>[⟨WG.1,eF (fun V:Vx 8 4=>e8 V.toList) (s0.2++WG.2)⟩]) (fun t g=>[(3,vi Qe),(4,sl g.1 ((t).length) ((t++g.2).length))]) (fun t g=>[⟨g.1,eF (fun V:Vx 8 4=>e8 V.toList) (t++g.2)⟩]) ?_ BIG (0,([]:List (Vx 8 4))) (A2,([]:List (Vx 8 4))) Yw Hl ?_
 ·intro s0 WG r1 H K hK hE
  unfold ZU.b0 at H
  refine ZY (Z_ (Zj 2 rfl ?_))
  refine ZV (ZT WV) ?_
  refine Z6 (UK H (fun hc H=>?_) (fun hc H=>?_))
  ·refine ZN (Z7 (ZY (ZP ?_)))
   have ⟨h1,H⟩:=Z4 H
   have ⟨h2,H⟩:=Z4 H
   have ⟨h3,H⟩:=Z4 H
   have ⟨h4,H⟩:=Z4 H
   have ⟨h5,H⟩:=Z4 H
   have ⟨l1,AO,H⟩:=ZX H
   refine U3 [] 24 rfl ?_
   refine PX 2 [] (.v 0 [] rfl rfl (ZO rfl) (.v 1 [] rfl rfl (ZO rfl) (.v 2 [] rfl rfl (ZO rfl) (.v 3 [2] rfl rfl (V9 Ma rfl rfl) (.v 4 [1,3] rfl rfl (U2 rfl rfl (i:=ZJ (4 * s0.1)) underlying9 h1.1 h1.2) (.v 5 [] rfl rfl (ZO rfl) (.v 6 [] rfl rfl (ZO rfl) (.v 7 [6] rfl rfl (V9 Ma rfl rfl) (.v 8 [7] rfl rfl (V9 XN rfl rfl) (.v 9 [8,5] rfl rfl (U2 rfl rfl (i:=ZJ ((ZJ (4 * s0.1))+1)) underlying9 h2.1 h2.2) (.v 10 [] rfl rfl (ZO rfl) (.v 11 [] rfl rfl (ZO rfl) (.v 12 [11] rfl rfl (V9 Ma rfl rfl) (.v 13 [12] rfl rfl (V9 XN rfl rfl) (.v 14 [10,13] rfl rfl (U2 rfl rfl (i:=ZJ ((ZJ (4 * s0.1))+2)) underlying9 h3.1 h3.2) (.v 15 [] rfl rfl (ZO rfl) (.v 16 [] rfl rfl (ZO rfl) (.v 17 [16] rfl rfl (V9 Ma rfl rfl) (.v 18 [17] rfl rfl (V9 XN rfl rfl) (.v 19 [15,18] rfl rfl (U2 rfl rfl (i:=ZJ ((ZJ (4 * s0.1))+3)) underlying9 h4.1 h4.2) (.v 20 [14,9,19,4] rfl rfl (VJ (pv:=[(0,v8 (sg key (ZJ (4 * s0.1)))),(1,v8 (sg key (ZJ ((ZJ (4 * s0.1))+1)))),(2,v8 (sg key (ZJ ((ZJ (4 * s0.1))+2)))),(3,v8 (sg key (ZJ ((ZJ (4 * s0.1))+3))))]) rfl rfl underlying147 TM Yn rfl MH (cs:=e8 ((#v[sg key (ZJ (4 * s0.1)),sg key (ZJ ((ZJ (4 * s0.1))+1)),sg key (ZJ ((ZJ (4 * s0.1))+2)),sg key (ZJ ((ZJ (4 * s0.1))+3))]:Vx 8 4).toList)) (by kernel_rfl)) (.c ⟨21,39,fun _ b1=>sl (some (b1,0)) 1 1,fun b1=>[⟨some (b1,0),eF (fun V:Vx 8 4=>e8 V.toList) ([(#v[sg key (ZJ (4 * s0.1)),sg key (ZJ ((ZJ (4 * s0.1))+1)),sg key (ZJ ((ZJ (4 * s0.1))+2)),sg key (ZJ ((ZJ (4 * s0.1))+3))]:Vx 8 4)]:List (Vx 8 4))⟩],[20],none⟩ rfl (fun _ _=>(Ya (pv:=[(0,aG [(4,e8 ((#v[sg key (ZJ (4 * s0.1)),sg key (ZJ ((ZJ (4 * s0.1))+1)),sg key (ZJ ((ZJ (4 * s0.1))+2)),sg key (ZJ ((ZJ (4 * s0.1))+3))]:Vx 8 4).toList))])]) rfl rfl underlying127 TM (s:=4) rfl MH (by kernel_rfl) rfl rfl (cs:=eF (fun V:Vx 8 4=>e8 V.toList) ([(#v[sg key (ZJ (4 * s0.1)),sg key (ZJ ((ZJ (4 * s0.1))+1)),sg key (ZJ ((ZJ (4 * s0.1))+2)),sg key (ZJ ((ZJ (4 * s0.1))+3))]:Vx 8 4)]:List (Vx 8 4))) (sN (g:=fun V:Vx 8 4=>e8 V.toList) 4 (NN [] [] rfl rfl trivial rfl (by kernel_rfl) (Wl (f:=v8) (#v[sg key (ZJ (4 * s0.1)),sg key (ZJ ((ZJ (4 * s0.1))+1)),sg key (ZJ ((ZJ (4 * s0.1))+2)),sg key (ZJ ((ZJ (4 * s0.1))+3))]:Vx 8 4)) KN)))) .nil)))))))))))))))))))))) (fun γ=>?_)
   refine Qj [39,18,0,3,4,5] rfl rfl ?_
   generalize γ 21=b1
   refine Xb (v':=sl (some (b1,0)) ((([(#v[sg key (ZJ (4 * s0.1)),sg key (ZJ ((ZJ (4 * s0.1))+1)),sg key (ZJ ((ZJ (4 * s0.1))+2)),sg key (ZJ ((ZJ (4 * s0.1))+3))]:Vx 8 4)]:List (Vx 8 4))).length) 1) 39 (congrArg (fun n=>sl (some (b1,0)) n 1) rfl) ?_
   refine Tm 22 [] rfl (I8 (g:=fun V:Vx 8 4=>e8 V.toList) (s:=4) (j:=1) (l:=s0.2) (sp:=WG.2) (ds:=([(#v[sg key (ZJ (4 * s0.1)),sg key (ZJ ((ZJ (4 * s0.1))+1)),sg key (ZJ ((ZJ (4 * s0.1))+2)),sg key (ZJ ((ZJ (4 * s0.1))+3))]:Vx 8 4)]:List (Vx 8 4))) (replicate 4 0#8) rfl rfl rfl (fun _=>by simp) rfl (fun _=>S_.map (fun _=>rfl) _) (.o 0) underlying127 underlying127 TM rfl (MH.trans rfl) (bytes:=4) rfl (by have:=h5; omega) (by have:=h5; omega) AO) (fun _=>rfl) (fun q1=>?_)
   refine qc 23 [] rfl (XL rfl) rfl ?_
   refine Vi ?_
   refine ZW (Z7 (ZH (YP ?_)))
   refine ZV (ZT XN) ?_
   refine Y2 ?_
   have ⟨i1,Ll,H⟩:=ZX H
   refine WN 5 (congrArg vi Ll) ?_
   refine ZK ?_
   obtain rfl:=sj H
   exact Ri [1] (hK (i1,l1) rfl (q1.1,q1.2))
  refine YW (Z0 (Z0 ?_))
  obtain rfl:=sj H
  exact WW [0] (hE s0.2 rfl (WG.1,WG.2))
 intro g
 obtain ⟨Fe,hgx⟩ : ∃ z,z=g:=⟨g,rfl⟩; subst hgx
 refine ZL (Z7 (Z_ (Y2 ?_)))
 refine Z6 (ZY (Z_ (Zj 2 rfl ?_)))
 refine Z6 (ZP ?_)
 have ⟨M7,Hl,H⟩:=Z9 H
 refine Wz [3,4,6,7] [0] rfl rfl ?_
 refine Yv (id:=2) (body:=(ZU.b1 Qe)) (σ:=BitVec 8 × Int × List (Vx 8 4)) (Γ:=Y6 × List (Vx 8 4)) (Γx:=Y6 × List (Vx 8 4)) (fun s1 ME=>[(3,vi Qe),(4,sl ME.1 ((s1.2.2).length) ((s1.2.2++ME.2).length)),(6,v8 s1.1),(7,vi s1.2.1)]) (fun s1 ME=>[⟨ME.1,eF (fun V:Vx 8 4=>e8 V.toList) (s1.2.2++ME.2)⟩]) (fun t g=>[(4,sl g.1 ((t).length) ((t++g.2).length))]) (fun t g=>[⟨g.1,eF (fun V:Vx 8 4=>e8 V.toList) (t++g.2)⟩]) ?_ BIG (1#8,Qe,Yw) (Fe.1,Fe.2) M7 Hl ?_
 ·intro s1 ME r1 H K hK hE
  unfold ZU.b1 at H
  refine ZY (Z_ (Zj 2 rfl ?_))
  refine ZV (ZT XN) ?_
  refine ZV (ZT Ma) ?_
  refine ZV (ZT WV) ?_
  refine Z6 (UK H (fun hc H=>?_) (fun hc H=>?_))
  ·refine ZN (Z7 (ZY (ZP (Z_ (Zj 2 rfl ?_)))))
   refine ZV (ZT OX) ?_
   have ⟨h6,H⟩:=Z4 H
   refine ZV (YK (i:=ZJ (s1.2.1 - 1)) rfl rfl underlying127 TM rfl (.o 0) (VC (s:=4) (fun _=>by simp) rfl (Si (tl h6))) h6.1 h6.2 (k:=((ZJ (s1.2.1 - 1)).toNat) * 4) rfl) ?_
   refine ZV (UE (n:=4) (ds:=e8 ((lg s1.2.2 ((ZJ (s1.2.1 - 1)).toNat)).toList)) rfl (.o 0) ((RJ (g:=fun V:Vx 8 4=>e8 V.toList) (s:=4) (fun _=>by simp) (s1.2.2++ME.2) ((ZJ (s1.2.1 - 1)).toNat) (Si (tl h6))).trans (congrArg (fun V:Vx 8 4=>e8 V.toList) (FR (tl h6)))) (by simp) rfl isAgg147 TM rfl) ?_
   refine YE (Wh [(4,e8 ((replicate 4 0#8).toList))] TM MH ⟨(Wl (f:=v8) (replicate 4 0#8)),trivial⟩) (fun b2=>?_)
   refine VM (Vd 0 TM) (fun _=>?_)
   have ⟨Xi,hm_1,H⟩:=ZX H
   refine Ta 0 (congrArg (fun z:Vx 8 4=>e8 (Vector.toList z)) hm_1) ?_
   refine Z6 (ZY (ZP (Z_ (Zj 2 rfl ?_))))
   have ⟨h7,H⟩:=Z4 H
   refine ZV (Zg rfl rfl (fun w=>Jg w s1.2.1 Qe h7)) ?_
   refine ZV (ZT Xr) ?_
   refine Y2 ?_
   have ⟨x1,TK,H⟩:=ZX H
   refine WN 54 (congrArg vb TK) ?_
   refine Z6 ?_
   have ⟨j1,Hj,H⟩:=Z9 H
   refine Ns (Γ:=Unit) (fun Sc=>[(3,vi Qe),(4,sl ME.1 ((s1.2.2).length) ((s1.2.2++ME.2).length)),(6,v8 j1.1),(7,vi s1.2.1),(8,ptr (some (b2,0)) 0)]) (fun Sc=>[⟨ME.1,eF (fun V:Vx 8 4=>e8 V.toList) (s1.2.2++ME.2)⟩,⟨some (b2,0),e8 j1.2.toList⟩]) ?_ ?_
   ·intro Sc
    refine ZW (Z7 (ZY (Z_ (Y2 ?_))))
    refine Z6 (ZP ?_)
    have ⟨KI,Hl,H⟩:=Z9 H
    refine Wz [3,4,6,7,8,9] [0,0] rfl rfl ?_
    refine Yv (id:=5) (body:=(ZU.b2 Qe s1)) (σ:=Int × Vx 8 4) (Γ:=Unit) (Γx:=Unit) (fun s2 y_=>[(3,vi Qe),(4,sl ME.1 ((s1.2.2).length) ((s1.2.2++ME.2).length)),(6,v8 j1.1),(7,vi s1.2.1),(8,ptr (some (b2,0)) 0),(9,vi s2.1)]) (fun s2 y_=>[⟨ME.1,eF (fun V:Vx 8 4=>e8 V.toList) (s1.2.2++ME.2)⟩,⟨some (b2,0),e8 s2.2.toList⟩]) (fun t g=>[(3,vi Qe),(4,sl ME.1 ((s1.2.2).length) ((s1.2.2++ME.2).length)),(6,v8 j1.1),(7,vi s1.2.1),(8,ptr (some (b2,0)) 0)]) (fun t g=>[⟨ME.1,eF (fun V:Vx 8 4=>e8 V.toList) (s1.2.2++ME.2)⟩,⟨some (b2,0),e8 t.toList⟩]) ?_ BIG (0,j1.2) () KI Hl ?_
    ·intro s2 y_ r1 H K hK hE
     unfold ZU.b2 at H
     refine ZY (Z_ (YP ?_))
     refine ZV (ZT WV) ?_
     refine Z6 (UK H (fun hc H=>?_) (fun hc H=>?_))
     ·refine ZN (Z7 (ZY (ZP ?_)))
      have ⟨h8,H⟩:=Z4 H
      have ⟨h9,H⟩:=Z4 H
      have ⟨JN,H⟩:=Z4 H
      have ⟨h11,H⟩:=Z4 H
      have ⟨SV,hm_2,H⟩:=ZX H
      refine U3 [] 15 rfl ?_
      refine PX 1 [] (.v 0 [] rfl rfl (ZO rfl) (.v 1 [] rfl rfl (ZO rfl) (.v 2 [1] rfl rfl (Zw (i:=s2.1) rfl rfl underlying147 Yn rfl h8.1 h8.2 (k:=(s2.1).toNat) (Tz _)) (.v 3 [2] rfl rfl (Z8 rfl (.o 1) (YL (f:=v8) (V:=s2.2) (tl h8)) isAgg5) (.v 4 [] rfl rfl (ZO rfl) (.v 5 [] rfl rfl (ZO rfl) (.v 6 [] rfl rfl (ZO rfl) (.v 7 [5,6] rfl rfl (V9 OX rfl rfl) (.v 8 [] rfl rfl (ZO rfl) (.v 9 [4,7] rfl rfl (YK (i:=ZJ (s1.2.1 - Qe)) rfl rfl underlying127 TM rfl (.o 0) (VC (s:=4) (fun _=>by simp) rfl (Si (tl h9))) h9.1 h9.2 (k:=((ZJ (s1.2.1 - Qe)).toNat) * 4) rfl) (.v 10 [8,9] rfl rfl (Zw (i:=s2.1) rfl rfl underlying147 Yn rfl JN.1 JN.2 (k:=((ZJ (s1.2.1 - Qe)).toNat) * 4+(s2.1).toNat) (k1 _ _)) (.v 11 [10] rfl rfl (Z8 rfl (.o 0) (((UM (g:=fun V:Vx 8 4=>e8 V.toList) (s:=4) (fun _=>by simp) (s1.2.2++ME.2) ((ZJ (s1.2.1 - Qe)).toNat) ((s2.1).toNat) (Si (tl h9)) (tl JN)).trans (congrArg (fun z=>((fun V:Vx 8 4=>e8 V.toList) z)[(s2.1).toNat]?) (FR (tl h9)))).trans (YL (tl JN))) isAgg5) (.v 12 [3,11] rfl rfl (V9 Sr rfl rfl) (.v 13 [0] rfl rfl (Zw (i:=s2.1) rfl rfl underlying147 Yn rfl h11.1 h11.2 (k:=(s2.1).toNat) (Tz _)) .nil)))))))))))))) (fun γ=>?_)
      refine Qj [115,114,3,4,6,7,8,9] rfl rfl ?_
      refine Qh 14 [] rfl (YR (j:=1) rfl rfl Yn rfl rfl rfl (by simpa using (tl h11)) (cs':=e8 ((vp s2.2 ((s2.1).toNat) ((vg s2.2 ((s2.1).toNat)) ^^^ (vg (lg s1.2.2 ((ZJ (s1.2.1 - Qe)).toNat)) ((s2.1).toNat)))).toList)) VR) (fun _=>rfl) (fun _=>?_)
      refine Iy 1 (congrArg (fun z:Vx 8 4=>e8 (Vector.toList z)) hm_2) ?_
      refine Vi ?_
      refine ZW (Z7 (ZH (YP ?_)))
      refine ZV (ZT XN) ?_
      refine Y2 ?_
      have ⟨j2,hj2,H⟩:=ZX H
      refine WN 9 (congrArg vi hj2) ?_
      refine ZK ?_
      obtain rfl:=sj H
      exact Ri [0,0] (hK (j2,SV) rfl ())
     refine YW (Z0 (Z0 ?_))
     obtain rfl:=sj H
     exact WW [0,0] (hE s2.2 rfl ())
    intro g
    refine ZL (Z7 (ZH (YP ?_)))
    refine ZV (Wi (.o 1) isAgg147 TM) ?_
    refine YE (Ya (pv:=[(0,aG [(4,e8 KI.toList)])]) rfl rfl underlying127 TM (s:=4) rfl MH (by kernel_rfl) rfl rfl (cs:=eF (fun V:Vx 8 4=>e8 V.toList) ([KI]:List (Vx 8 4))) (sN (g:=fun V:Vx 8 4=>e8 V.toList) 4 (NN [] [] rfl rfl trivial rfl (by kernel_rfl) (Wl (f:=v8) KI) KN))) (fun b3=>?_)
    refine WN (v':=sl (some (b3,0)) ((([KI]:List (Vx 8 4))).length) 1) 118 (congrArg (fun n=>sl (some (b3,0)) n 1) rfl) ?_
    have ⟨h12,H⟩:=Z4 H
    have ⟨l2,Cw,H⟩:=ZX H
    refine YE (I8 (g:=fun V:Vx 8 4=>e8 V.toList) (s:=4) (j:=1) (l:=s1.2.2) (sp:=ME.2) (ds:=([KI]:List (Vx 8 4))) (replicate 4 0#8) rfl rfl rfl (fun _=>by simp) rfl (fun _=>S_.map (fun _=>rfl) _) (.o 0) underlying127 underlying127 TM rfl (MH.trans rfl) (bytes:=4) rfl (by have:=h12; omega) (by have:=h12; omega) Cw) (fun q2=>?_)
    refine Y2 ?_
    refine ZK (ZW (Z7 (ZH (YP ?_))))
    refine ZV (ZT XN) ?_
    refine Y2 ?_
    have ⟨i2,Ca,H⟩:=ZX H
    refine WN 7 (congrArg vi Ca) ?_
    refine ZK ?_
    obtain rfl:=sj H
    exact Ri [1] (hK (j1.1,i2,l2) rfl (q2.1,q2.2))
   intro hJ
   replace H:=Hj
   refine Sn H (fun hc H=>?_) (fun hc H=>?_)
   ·refine ZY ?_
    have ⟨h13,H⟩:=Z4 H
    have ⟨h14,H⟩:=Z4 H
    have ⟨h15,H⟩:=Z4 H
    have ⟨h16,H⟩:=Z4 H
    have ⟨IV,hm_3,H⟩:=ZX H
    refine U3 [] 16 rfl ?_
    refine PX 1 [] (.v 0 [] rfl rfl (Zw (i:=1) rfl rfl underlying147 Yn rfl (by decide) (by decide) (k:=1) (Tz _)) (.v 1 [0] rfl rfl (Z8 rfl (.o 0) (YL (f:=v8) (V:=Xi) (by decide:1<4)) isAgg5) (.v 2 [1] rfl rfl (U2 rfl rfl (i:=((vg Xi 1).toNat:Int)) underlying9 h13.1 h13.2) (.v 3 [] rfl rfl (ZO rfl) (.v 4 [2,3] rfl rfl (V9 Sr rfl rfl) (.v 5 [] rfl rfl (Zw (i:=2) rfl rfl underlying147 Yn rfl (by decide) (by decide) (k:=2) (Tz _)) (.v 6 [5] rfl rfl (Z8 rfl (.o 0) (YL (f:=v8) (V:=Xi) (by decide:2<4)) isAgg5) (.v 7 [6] rfl rfl (U2 rfl rfl (i:=((vg Xi 2).toNat:Int)) underlying9 h14.1 h14.2) (.v 8 [] rfl rfl (Zw (i:=3) rfl rfl underlying147 Yn rfl (by decide) (by decide) (k:=3) (Tz _)) (.v 9 [8] rfl rfl (Z8 rfl (.o 0) (YL (f:=v8) (V:=Xi) (by decide:3<4)) isAgg5) (.v 10 [9] rfl rfl (U2 rfl rfl (i:=((vg Xi 3).toNat:Int)) underlying9 h15.1 h15.2) (.v 11 [] rfl rfl (Zw (i:=0) rfl rfl underlying147 Yn rfl (by decide) (by decide) (k:=0) (Tz _)) (.v 12 [11] rfl rfl (Z8 rfl (.o 0) (YL (f:=v8) (V:=Xi) (by decide:0<4)) isAgg5) (.v 13 [12] rfl rfl (U2 rfl rfl (i:=((vg Xi 0).toNat:Int)) underlying9 h16.1 h16.2) (.v 14 [13,7,10,4] rfl rfl (VJ (pv:=[(0,v8 ((sg ZU.k1 ((vg Xi 1).toNat:Int)) ^^^ s1.1)),(1,v8 (sg ZU.k1 ((vg Xi 2).toNat:Int))),(2,v8 (sg ZU.k1 ((vg Xi 3).toNat:Int))),(3,v8 (sg ZU.k1 ((vg Xi 0).toNat:Int)))]) rfl rfl underlying147 TM Yn rfl MH (cs:=e8 ((#v[(sg ZU.k1 ((vg Xi 1).toNat:Int)) ^^^ s1.1,sg ZU.k1 ((vg Xi 2).toNat:Int),sg ZU.k1 ((vg Xi 3).toNat:Int),sg ZU.k1 ((vg Xi 0).toNat:Int)]:Vx 8 4).toList)) (by kernel_rfl)) .nil))))))))))))))) (fun γ=>?_)
    refine Qj [73,8,3,4,6,7] rfl rfl ?_
    refine Qh 15 [] rfl (Vd 0 TM) (fun _=>rfl) (fun _=>?_)
    refine Iy 0 (congrArg (fun z:Vx 8 4=>e8 (Vector.toList z)) hm_3) ?_
    refine Vi ?_
    refine Z7 (ZH (YP ?_))
    have ⟨Zu,Yk,H⟩:=Z9 H
    refine YE (Y4 (Ga Yk :) call98 .z) (fun Re=>?_)
    refine Y2 ?_
    refine ZK ?_
    obtain rfl:=sj H
    exact WW [1,0] (hJ ())
   refine Z_ (YP ?_)
   refine ZV (ZT Sv) ?_
   refine YP ?_
   refine Td (d:=79) H (fun hc H=>?_) (fun hc H=>?_)
   ·refine Zj 2 rfl ?_
    have ⟨h17,H⟩:=Z4 H
    refine Zc (Zg rfl rfl (fun w=>Jg w s1.2.1 Qe h17)) ?_
    refine Zc (ZT Xr) ?_
    refine Zj 2 rfl ?_
    have ⟨x2,KO,H⟩:=ZX H
    refine WN 76 (congrArg vb KO) ?_
    refine Z6 (N7 [3,4,6,7,8,76] rfl rfl ?_)
    refine Sn H (fun hc H=>?_) (fun hc H=>?_)
    ·have ⟨h18,H⟩:=Z4 H
     have ⟨h19,H⟩:=Z4 H
     have ⟨h20,H⟩:=Z4 H
     have ⟨h21,H⟩:=Z4 H
     have ⟨FL,hm_4,H⟩:=ZX H
     refine U3 [] 14 rfl ?_
     refine PX 1 [] (.v 0 [] rfl rfl (Zw (i:=0) rfl rfl underlying147 Yn rfl (by decide) (by decide) (k:=0) (Tz _)) (.v 1 [0] rfl rfl (Z8 rfl (.o 0) (YL (f:=v8) (V:=Xi) (by decide:0<4)) isAgg5) (.v 2 [1] rfl rfl (U2 rfl rfl (i:=((vg Xi 0).toNat:Int)) underlying9 h18.1 h18.2) (.v 3 [] rfl rfl (Zw (i:=1) rfl rfl underlying147 Yn rfl (by decide) (by decide) (k:=1) (Tz _)) (.v 4 [3] rfl rfl (Z8 rfl (.o 0) (YL (f:=v8) (V:=Xi) (by decide:1<4)) isAgg5) (.v 5 [4] rfl rfl (U2 rfl rfl (i:=((vg Xi 1).toNat:Int)) underlying9 h19.1 h19.2) (.v 6 [] rfl rfl (Zw (i:=2) rfl rfl underlying147 Yn rfl (by decide) (by decide) (k:=2) (Tz _)) (.v 7 [6] rfl rfl (Z8 rfl (.o 0) (YL (f:=v8) (V:=Xi) (by decide:2<4)) isAgg5) (.v 8 [7] rfl rfl (U2 rfl rfl (i:=((vg Xi 2).toNat:Int)) underlying9 h20.1 h20.2) (.v 9 [] rfl rfl (Zw (i:=3) rfl rfl underlying147 Yn rfl (by decide) (by decide) (k:=3) (Tz _)) (.v 10 [9] rfl rfl (Z8 rfl (.o 0) (YL (f:=v8) (V:=Xi) (by decide:3<4)) isAgg5) (.v 11 [10] rfl rfl (U2 rfl rfl (i:=((vg Xi 3).toNat:Int)) underlying9 h21.1 h21.2) (.v 12 [11,5,8,2] rfl rfl (VJ (pv:=[(0,v8 (sg ZU.k1 ((vg Xi 0).toNat:Int))),(1,v8 (sg ZU.k1 ((vg Xi 1).toNat:Int))),(2,v8 (sg ZU.k1 ((vg Xi 2).toNat:Int))),(3,v8 (sg ZU.k1 ((vg Xi 3).toNat:Int)))]) rfl rfl underlying147 TM Yn rfl MH (cs:=e8 ((#v[sg ZU.k1 ((vg Xi 0).toNat:Int),sg ZU.k1 ((vg Xi 1).toNat:Int),sg ZU.k1 ((vg Xi 2).toNat:Int),sg ZU.k1 ((vg Xi 3).toNat:Int)]:Vx 8 4).toList)) (by kernel_rfl)) .nil))))))))))))) (fun γ=>?_)
     refine Qj [97,3,4,6,7,8] rfl rfl ?_
     refine Qh 13 [] rfl (Vd 0 TM) (fun _=>rfl) (fun _=>?_)
     refine Iy 0 (congrArg (fun z:Vx 8 4=>e8 (Vector.toList z)) hm_4) ?_
     refine Vi ?_
     obtain rfl:=sj H
     exact WW [1,0] (hJ ())
    refine ZN ?_
    obtain rfl:=sj H
    exact WW [1,0] (hJ ())
   refine Zj 6 rfl ?_
   refine Z6 (N7 [3,4,6,7,8,76] rfl rfl ?_)
   refine KJ rfl ?_
   refine ZN ?_
   obtain rfl:=sj H
   exact WW [1,0] (hJ ())
  refine YW (Z0 (Z0 ?_))
  obtain rfl:=sj H
  exact WW [0] (hE s1.2.2 rfl (ME.1,ME.2))
 intro g
 obtain ⟨gx3,hgx⟩ : ∃ z,z=g:=⟨g,rfl⟩; subst hgx
 refine ZL (Z7 (Z_ (Zj 2 rfl ?_)))
 refine Zq ?_
 obtain rfl:=sj H
 exact JK (gx3.1,gx3.2) [0] (vs:=[_]) rfl ⟨rfl,trivial⟩ rfl
def OY:Vx 8 256:=⟨ZU.k1.toArray,by kernel_rfl⟩
set_option maxRecDepth 100000 in
theorem nH:Py=some OY:=by kernel_rfl
abbrev KA:=Vx 8 16
abbrev V4:=Vx 8 4
def IE (a b:KA):KA:=Vector.ofFn fun i=>vg a i.val ^^^ vg b i.val
def gU (s:KA):KA:=Vector.ofFn fun i=>vg OY (vg s ((i.val+4 * (i.val % 4)) % 16)).toNat
theorem aF (keys:List KA) (b:KA) (h:0<keys.length) (h2:keys.length<1000):loop (Zp.b0 keys) BIG (0,b)=some (IE b (lg keys 0)):=by
 refine Q9 b (fun i=>vg b i ^^^ vg (lg keys 0) i) id (by omega) (fun k v hk hv=>?_) (fun v=>?_)
 ·have e:=hv k (Nat.le_refl _) hk
  simp (disch:=omega) only [Zp.b0,X5,if_pos,Yr,Int.toNat_natCast,e]
  rfl
 ·simp (disch:=omega) only [Zp.b0,X5,if_neg,id]
theorem dL (s1:Int × KA):loop (Zp.b2 OY s1) BIG (0,replicate 16 0#8)=some (gU s1.2):=by
 refine Q9 _ (fun i=>vg OY (vg s1.2 ((i+4 * (i % 4)) % 16)).toNat) id (by omega) (fun k v hk hv=>?_) (fun v=>?_)
 ·have e1:((k:Int).tmod 4)=((k % 4:Nat):Int):=by rw [Int.tmod_eq_emod_of_nonneg (by omega)]; omega
  have e2:((k:Int)+4 * ((k % 4:Nat):Int)).tmod 16=(((k+4 * (k % 4)) % 16:Nat):Int):=by rw [Int.tmod_eq_emod_of_nonneg (by omega)]; omega
  simp (disch:=omega) only [Zp.b2,X5,Yr,e1,e2,if_pos,Int.toNat_natCast]
  rfl
 ·simp (disch:=omega) only [Zp.b2,X5,if_neg,id]
theorem aC (keys:List KA) (s1:Int × KA) (j:KA) (h0:0≤s1.1) (h1:s1.1<keys.length):loop (Zp.b3 keys s1 j) BIG (0,s1.2)=some (IE j (lg keys s1.1.toNat)):=by
 refine Q9 _ (fun i=>vg j i ^^^ vg (lg keys s1.1.toNat) i) id (by omega) (fun k v hk hv=>?_) (fun v=>?_)
 ·simp (disch:=omega) only [Zp.b3,X5,Yr,if_pos,Int.toNat_natCast]
  rfl
 ·simp (disch:=omega) only [Zp.b3,X5,if_neg,id]
def tw (x:BitVec 8):BitVec 8:=(x <<< 1) ^^^ (27#8 &&& (-(x >>> 7)))
theorem JB (x:BitVec 8):PP x=some (tw x):=rfl
theorem FO (x:BitVec 8):UG x=some (tw x):=by
 have : ∀ n:Fin 256,UG (BitVec.ofFin n)=some (tw (BitVec.ofFin n)):=by decide +kernel
 exact this x.toFin
def Bc (k:Nat) (v:KA):KA :=
 vp (vp (vp (vp v (4 * k) (vg v (4 * k) ^^^ (vg v (4 * k) ^^^ vg v (4 * k+1) ^^^ vg v (4 * k+2) ^^^ vg v (4 * k+3) ^^^ tw (vg v (4 * k) ^^^ vg v (4 * k+1)))))
  (4 * k+1) (vg v (4 * k+1) ^^^ (vg v (4 * k) ^^^ vg v (4 * k+1) ^^^ vg v (4 * k+2) ^^^ vg v (4 * k+3) ^^^ tw (vg v (4 * k+1) ^^^ vg v (4 * k+2)))))
  (4 * k+2) (vg v (4 * k+2) ^^^ (vg v (4 * k) ^^^ vg v (4 * k+1) ^^^ vg v (4 * k+2) ^^^ vg v (4 * k+3) ^^^ tw (vg v (4 * k+2) ^^^ vg v (4 * k+3)))))
  (4 * k+3) (vg v (4 * k+3) ^^^ (vg v (4 * k) ^^^ vg v (4 * k+1) ^^^ vg v (4 * k+2) ^^^ vg v (4 * k+3) ^^^ tw (vg v (4 * k+3) ^^^ vg v (4 * k))))
def bq (v:KA):KA:=iter Bc 4 v
theorem yt (k:Nat) (hk:k<4) (u:KA):Zp.b4 (((4 * k:Nat):Int),u)=some (.inl (((4 * (k+1):Nat):Int),Bc k u)):=by
 have e1:ZJ (((4 * k:Nat):Int)+1)=((4 * k+1:Nat):Int):=by rw [Yr (by omega) (by omega)]; omega
 have e2:ZJ (((4 * k:Nat):Int)+2)=((4 * k+2:Nat):Int):=by rw [Yr (by omega) (by omega)]; omega
 have e3:ZJ (((4 * k:Nat):Int)+3)=((4 * k+3:Nat):Int):=by rw [Yr (by omega) (by omega)]; omega
 have e4:ZJ (((4 * k:Nat):Int)+4)=((4 * (k+1):Nat):Int):=by rw [Yr (by omega) (by omega)]; omega
 unfold Zp.b4
 simp only [e1,e2,e3,e4]
 iterate 5 refine ZM (by omega) ?_
 refine Ze fun p hp=>Ze fun q hq=>Ze fun r hr=>Ze fun s hs=>Ze fun all hall=>ZM (by omega) (Z5 (JB _) (ZM (by omega) ?_))
 refine Ze fun m4 h4=>ZM (by omega) (Z5 (JB _) (ZM (by omega) ?_))
 refine Ze fun m5 h5=>ZM (by omega) (Z5 (JB _) (ZM (by omega) ?_))
 refine Ze fun m6 h6=>ZM (by omega) (Z5 (JB _) (ZM (by omega) ?_))
 refine Ze fun m7 h7=>Ze fun i hi=>?_
 subst hi
 simp only [Int.toNat_natCast] at *
 have a5:vg m4 (4 * k+1)=q:=by rw [h4,Qr (by omega) (by omega),if_neg (by omega),hq]
 have a6:vg m5 (4 * k+2)=r:=by rw [h5,Qr (by omega) (by omega),if_neg (by omega),h4,Qr (by omega) (by omega),if_neg (by omega),hr]
 have a7:vg m6 (4 * k+3)=s:=by rw [h6,Qr (by omega) (by omega),if_neg (by omega),h5,Qr (by omega) (by omega),if_neg (by omega),h4,Qr (by omega) (by omega),if_neg (by omega),hs]
 have:m7=Bc k u:=by
  rw [h7,a7,h6,a6,h5,a5,h4, ← hp,hall]
  unfold Bc
  rw [← hp, ← hq, ← hr, ← hs]
 rw [this]
theorem aS (v:KA):loop Zp.b4 BIG (0,v)=some (bq v):=by
 refine RY (fun k=>(((4 * k:Nat):Int),iter Bc k v)) 4 _ (by omega) (fun k hk=>yt k hk _) ?_
 show (if (((4 * 4:Nat):Int))<16 then _ else _)=_
 rw [if_neg (by omega)]
 rfl
def NG (keys:List KA) (r:Nat) (v:KA):KA:=IE (if r+1<keys.length then bq (gU v) else gU v) (lg keys r)
def rO (keys:List KA) (b:KA):KA:=iter (fun k v=>NG keys (k+1) v) (keys.length - 1) (IE b (lg keys 0))
theorem dM (keys:List KA) (b:KA) (h:0<keys.length) (h2:keys.length<1000):Zp OY keys b=some (rO keys b):=by
 have hl:loop (Zp.b1 OY keys) BIG (1,IE b (lg keys 0))=some (rO keys b):=by
  refine RY (fun k=>(((k+1:Nat):Int),iter (fun k v=>NG keys (k+1) v) k (IE b (lg keys 0)))) (keys.length - 1) _ (by omega) (fun k hk=>?_) ?_
  ·generalize hu:iter (fun k v=>NG keys (k+1) v) k (IE b (lg keys 0))=u
   have uM:iter (fun k v=>NG keys (k+1) v) (k+1) (IE b (lg keys 0))=NG keys (k+1) u:=by rw [← hu]; rfl
   have e1:ZJ (((k+1:Nat):Int)+1)=((k+1+1:Nat):Int):=by rw [Yr (by omega) (by omega)]; omega
   have e2:ZJ ((keys.length:Int) - 1)=(keys.length:Int) - 1:=Yr (by omega) (by omega)
   have h3:=fun j=>aC keys (((k+1:Nat):Int),u) j (by omega) (by show ((k+1:Nat):Int)<_; omega)
   simp only [uM,Zp.b1,X5,dL,aS,h3,Option.bind_some,e1,e2,Int.toNat_natCast]
   rw [if_pos (by omega)]
   by_cases hc:k+1+1<keys.length
   ·rw [if_pos (by omega)]
    simp only [Option.bind_some,h3,NG,if_pos hc]
   ·rw [if_neg (by omega)]
    simp only [Option.bind_some,h3,NG,if_neg hc]
  ·have e:(((keys.length - 1+1:Nat)):Int)=keys.length:=by omega
   simp (disch:=omega) only [Zp.b1,if_neg]
   rfl
 unfold Zp
 rw [aF keys b h h2]
 simp only [Option.bind_some,hl]
def Fh (w:List V4) (r:Nat):KA:=Vector.ofFn fun i=>vg (lg w (4 * r+i.val / 4)) (i.val % 4)
def keysOf (w:List V4):List KA:=(List.range (w.length / 4)).map (Fh w)
theorem Lm (w:List V4):(keysOf w).length=w.length / 4:=by simp [keysOf]
theorem BM (w:List V4) (r:Nat) (h:r<w.length / 4):lg (keysOf w) r=Fh w r:=by
 simp [lg,keysOf,List.getElem?_range h]
def oF (s:Str):KA:=Vector.ofFn fun i=>s.getD i.val 0#8
theorem Dw (k m:Nat):((k:Int).tmod (m:Int))=((k % m:Nat):Int):=by
 rw [Int.tmod_eq_emod_of_nonneg (by omega)]; omega
theorem Bi (k m:Nat):((k:Int).tdiv (m:Int))=((k / m:Nat):Int):=by
 rw [Int.tdiv_eq_ediv_of_nonneg (by omega)]; omega
theorem bL (w:List V4) (s:Str) (hw:4≤w.length) (hw2:w.length<1000) (hs:s.length=16):loop (ZF.b0 w s) BIG (0,replicate 16 0#8)=some (IE (oF s) (Fh w 0)):=by
 have h:=Q9 (body:=ZF.b0 w s) (replicate 16 0#8) (fun i=>s.getD i 0#8 ^^^ vg (lg w (i / 4)) (i % 4)) id (by omega) (fun k v hk hv=>?_) (fun v=>?_)
 ·refine h.trans (congrArg some (RA fun i hi=>?_))
  simp only [id,Tw hi,IE,oF,Fh,Nat.mul_zero,Nat.zero_add]
 ·have e1:ZJ ((k:Int).tdiv 4)=((k / 4:Nat):Int):=by rw [show (4:Int)=((4:Nat):Int) from rfl,Bi,Nq (by omega)]
  have e2:(k:Int).tmod 4=((k % 4:Nat):Int):=Dw k 4
  have e3:ZJ ((k:Int)+1)=((k+1:Nat):Int):=by rw [Yr (by omega) (by omega)]; omega
  unfold ZF.b0
  simp only [e1,e2,e3]
  iterate 5 refine ZM (by omega) ?_
  refine Ze fun m hm=>Ze fun i hi=>?_
  simp only [hi,hm,Int.toNat_natCast,sg]
 ·unfold ZF.b0
  exact Zi (by omega) rfl
theorem gG:ZF.k1.length=256:=by kernel_rfl
theorem bB (x:BitVec 8):sg ZF.k1 (x.toNat:Int)=vg OY x.toNat:=by
 simp only [sg,Int.toNat_natCast,vg,OY]
 rfl
theorem aab (s1:Int × KA):loop (ZF.b2 s1) BIG (0,replicate 16 0#8)=some (gU s1.2):=by
 refine Q9 _ (fun i=>vg OY (vg s1.2 ((i+4 * (i % 4)) % 16)).toNat) id (by omega) (fun k v hk hv=>?_) (fun v=>?_)
 ·have e1:((k:Int).tmod 4)=((k % 4:Nat):Int):=Dw k 4
  have e2:ZJ (4 * ((k % 4:Nat):Int))=4 * ((k % 4:Nat):Int):=Yr (by omega) (by omega)
  have e3:ZJ ((k:Int)+4 * ((k % 4:Nat):Int))=((k+4 * (k % 4):Nat):Int):=by rw [Yr (by omega) (by omega)]; omega
  have e4:(((k+4 * (k % 4):Nat):Int)).tmod 16=(((k+4 * (k % 4)) % 16:Nat):Int):=Dw _ 16
  have e5:ZJ ((k:Int)+1)=((k+1:Nat):Int):=by rw [Yr (by omega) (by omega)]; omega
  unfold ZF.b2
  simp only [e1,e2,e3,e4,e5,gG,bB,Int.toNat_natCast]
  have hb:=(vg s1.2 ((k+4 * (k % 4)) % 16)).isLt
  iterate 4 refine ZM (by omega) ?_
  refine Ze fun m hm=>Ze fun i hi=>?_
  simp only [hi,hm]
 ·unfold ZF.b2
  exact Zi (by omega) rfl
theorem bI (w:List V4) (u j:KA) (r:Nat) (h1:r<w.length / 4) (hw2:w.length<1000):loop (ZF.b3 w (((r:Nat):Int),u) j) BIG (0,u)=some (IE j (Fh w r)):=by
 have h:=Q9 (body:=ZF.b3 w (((r:Nat):Int),u) j) u (fun i=>vg j i ^^^ vg (lg w (4 * r+i / 4)) (i % 4)) id (by omega) (fun k v hk hv=>?_) (fun v=>?_)
 ·refine h.trans (congrArg some (RA fun i hi=>?_))
  simp only [id,Tw hi,IE,Fh]
 ·have e1:ZJ ((k:Int).tdiv 4)=((k / 4:Nat):Int):=by rw [show (4:Int)=((4:Nat):Int) from rfl,Bi,Nq (by omega)]
  have e2:(k:Int).tmod 4=((k % 4:Nat):Int):=Dw k 4
  have e3:ZJ ((k:Int)+1)=((k+1:Nat):Int):=by rw [Yr (by omega) (by omega)]; omega
  have e4:ZJ (4 * ((r:Nat):Int))=((4 * r:Nat):Int):=by rw [Yr (by omega) (by omega)]; omega
  have e5:ZJ (((4 * r:Nat):Int)+((k / 4:Nat):Int))=((4 * r+k / 4:Nat):Int):=by rw [Yr (by omega) (by omega)]; omega
  unfold ZF.b3
  simp only [e1,e2,e3,e4,e5]
  iterate 5 refine ZM (by omega) ?_
  refine Ze fun m hm=>Ze fun i hi=>?_
  simp only [hi,hm,Int.toNat_natCast]
 ·unfold ZF.b3
  exact Zi (by omega) rfl
theorem dS (k:Nat) (hk:k<4) (u:KA) (all:BitVec 8):loop (ZF.b5 (((4 * k:Nat):Int),u) all) BIG (0,u) =
  some (vp (vp (vp u (4 * k) ((vg u (4 * k) ^^^ all) ^^^ tw (vg u (4 * k) ^^^ vg u (4 * k+1)))) (4 * k+1) ((vg u (4 * k+1) ^^^ all) ^^^ tw (vg u (4 * k+1) ^^^ vg u (4 * k+2)))) (4 * k+2) ((vg u (4 * k+2) ^^^ all) ^^^ tw (vg u (4 * k+2) ^^^ vg u (4 * k+3)))):=by
 refine Ho 3 (fun j v=>vp v (4 * k+j) ((vg u (4 * k+j) ^^^ all) ^^^ tw (vg u (4 * k+j) ^^^ vg u (4 * k+j+1)))) u _ (fun j v => ∀ i,4 * k+j≤i → i<16 → vg v i=vg u i) (by omega) (fun i _ _=>rfl) (fun j v hj hv=>⟨?_,fun i h1 h2=>?_⟩) (fun v hv he=>?_)
 ·have e1:ZJ (((4 * k:Nat):Int)+(j:Int))=((4 * k+j:Nat):Int):=by rw [Yr (by omega) (by omega)]; omega
  have e2:ZJ (((4 * k+j:Nat):Int)+1)=((4 * k+j+1:Nat):Int):=by rw [Yr (by omega) (by omega)]; omega
  have e3:ZJ ((j:Int)+1)=((j+1:Nat):Int):=by rw [Yr (by omega) (by omega)]; omega
  unfold ZF.b5
  simp only [e1,e2,e3,Int.toNat_natCast]
  iterate 4 refine ZM (by omega) ?_
  refine Z5 (FO _) (ZM (by omega) ?_)
  refine Ze fun m hm=>Ze fun i hi=>?_
  rw [hi,hm,hv (4 * k+j) (by omega) (by omega),hv (4 * k+j+1) (by omega) (by omega)]
 ·rw [Qr (by omega) h2,if_neg (by omega)]
  exact hv i (by omega) h2
 ·unfold ZF.b5
  refine Zi (by omega) ?_
  rw [he]
  rfl
theorem x_ (k:Nat) (hk:k<4) (u:KA):ZF.b4 (((4 * k:Nat):Int),u)=some (.inl (((4 * (k+1):Nat):Int),Bc k u)):=by
 have e1:ZJ (((4 * k:Nat):Int)+1)=((4 * k+1:Nat):Int):=by rw [Yr (by omega) (by omega)]; omega
 have e2:ZJ (((4 * k:Nat):Int)+2)=((4 * k+2:Nat):Int):=by rw [Yr (by omega) (by omega)]; omega
 have e3:ZJ (((4 * k:Nat):Int)+3)=((4 * k+3:Nat):Int):=by rw [Yr (by omega) (by omega)]; omega
 have e4:ZJ (((4 * k:Nat):Int)+4)=((4 * (k+1):Nat):Int):=by rw [Yr (by omega) (by omega)]; omega
 unfold ZF.b4
 simp only [e1,e2,e3,e4,Int.toNat_natCast]
 iterate 5 refine ZM (by omega) ?_
 refine Ze fun all hall=>ZM (by omega) (Ze fun first hf=>Z5 (dS k hk u all) ?_)
 iterate 2 refine ZM (by omega) ?_
 refine Z5 (FO _) (ZM (by omega) ?_)
 refine Ze fun m hm=>Ze fun i hi=>?_
 have a3 : ∀ (x y z:BitVec 8),vg (vp (vp (vp u (4 * k) x) (4 * k+1) y) (4 * k+2) z) (4 * k+3)=vg u (4 * k+3):=fun x y z=>by
  rw [Qr (by omega) (by omega),if_neg (by omega),Qr (by omega) (by omega),if_neg (by omega),Qr (by omega) (by omega),if_neg (by omega)]
 rw [a3] at hm
 have:m=Bc k u:=by
  rw [hm,hf,hall]
  unfold Bc
  simp only [BitVec.xor_assoc]
 rw [hi,this]
theorem df (v:KA):loop ZF.b4 BIG (0,v)=some (bq v):=by
 refine RY (fun k=>(((4 * k:Nat):Int),iter Bc k v)) 4 _ (by omega) (fun k hk=>x_ k hk _) ?_
 show (if (((4 * 4:Nat):Int))<16 then _ else _)=_
 rw [if_neg (by omega)]
 rfl
theorem rD (w:List V4) (s:Str) (L:Nat) (hL:w.length=4 * L) (h0:1≤L) (h2:L<200) (hs:s.length=16):ZF w s=some (rO (keysOf w) (oF s)).toList:=by
 have hlen:(keysOf w).length=L:=by rw [Lm]; omega
 have hk : ∀ r,r<L → lg (keysOf w) r=Fh w r:=fun r hr=>BM w r (by omega)
 have e0:ZJ ((ZJ ((w.length:Int).tdiv 4)) - 1)=(L:Int) - 1:=by
  rw [show (4:Int)=((4:Nat):Int) from rfl,Bi,Nq (by omega),Yr (by omega) (by omega)]; omega
 have hl:loop (ZF.b1 w ((L:Int) - 1)) BIG (1,IE (oF s) (Fh w 0))=some (rO (keysOf w) (oF s)):=by
  refine RY (fun k=>(((k+1:Nat):Int),iter (fun k v=>NG (keysOf w) (k+1) v) k (IE (oF s) (Fh w 0)))) (L - 1) _ (by omega) (fun k hk1=>?_) ?_
  ·generalize hu:iter (fun k v=>NG (keysOf w) (k+1) v) k (IE (oF s) (Fh w 0))=u
   have uM:iter (fun k v=>NG (keysOf w) (k+1) v) (k+1) (IE (oF s) (Fh w 0))=NG (keysOf w) (k+1) u:=by rw [← hu]; rfl
   have e1:ZJ (((k+1:Nat):Int)+1)=((k+1+1:Nat):Int):=by rw [Yr (by omega) (by omega)]; omega
   have h3:=fun j=>bI w u j (k+1) (by omega) (by omega)
   simp only [uM,ZF.b1,e1]
   refine ZM (by omega) (Z5 (aab _) ?_)
   by_cases hc:k+1+1<L
   ·refine Z5 (ZM (by omega) (Z5 (df _) rfl)) (Z5 (h3 _) (Ze fun i hi=>?_))
    rw [hi]
    simp only [NG,hlen,if_pos hc,hk (k+1) (by omega)]
   ·refine Z5 (Zi (by omega) rfl) (Z5 (h3 _) (Ze fun i hi=>?_))
    rw [hi]
    simp only [NG,hlen,if_neg hc,hk (k+1) (by omega)]
  ·simp only [ZF.b1]
   refine Zi (by omega) ?_
   unfold rO
   rw [hlen,hk 0 (by omega)]
 unfold ZF
 refine Z5 (bL w s (by omega) (by omega) hs) (Ze fun r hr=>?_)
 rw [hr,e0]
 exact Z5 hl rfl
def jm (t:V4):V4 := #v[vg OY (vg t 0).toNat,vg OY (vg t 1).toNat,vg OY (vg t 2).toNat,vg OY (vg t 3).toNat]
def aP (t:V4) (r:BitVec 8):V4 := #v[vg OY (vg t 1).toNat ^^^ r,vg OY (vg t 2).toNat,vg OY (vg t 3).toNat,vg OY (vg t 0).toNat]
def Ir (n i:Nat) (s:BitVec 8 × List V4):BitVec 8 × V4 :=
 if i % n=0 then (tw s.1,aP (lg s.2 (i - 1)) s.1) else if n=8∧i % n=4 then (s.1,jm (lg s.2 (i - 1))) else (s.1,lg s.2 (i - 1))
def kwV (key:Str) (i:Nat):V4 := #v[key.getD (4 * i) 0#8,key.getD (4 * i+1) 0#8,key.getD (4 * i+2) 0#8,key.getD (4 * i+3) 0#8]
def x9 (a b:V4):V4:=Vector.ofFn fun k=>vg a k.val ^^^ vg b k.val
def JS (key:Str) (n i:Nat) (s:BitVec 8 × List V4):BitVec 8 × List V4 :=
 if i<n then (s.1,s.2++[kwV key i]) else ((Ir n i s).1,s.2++[x9 (Ir n i s).2 (lg s.2 (i - n))])
def II (key:Str) (n i:Nat):BitVec 8 × List V4:=iter (JS key n) i (1#8,[])
theorem Jd (key:Str) (n i:Nat):II key n (i+1)=JS key n i (II key n i):=rfl
theorem KD (key:Str) (n:Nat) : ∀ i,(II key n i).2.length=i
 | 0=>rfl
 | i+1=>by
  rw [Jd]; unfold JS
  have:=KD key n i
  split <;> simp [this]
theorem lQ:ZU.k1.length=256:=by kernel_rfl
theorem gI (x:BitVec 8):sg ZU.k1 (x.toNat:Int)=vg OY x.toNat:=by
 simp only [sg,Int.toNat_natCast,vg,OY]
 rfl
theorem J6 (s:Str) (n:Nat):sg s (n:Int)=s.getD n 0#8:=by unfold sg; rw [Int.toNat_natCast]
theorem lh {a b c d a' b' c' d':BitVec 8} (ha:a=a') (hb:b=b') (hc:c=c') (hd:d=d'):(#v[a,b,c,d]:V4) = #v[a',b',c',d']:=by
 subst ha; subst hb; subst hc; subst hd; rfl
theorem bg (key:Str) (n:Nat) (hn:n=4 ∨ n=8) (hk:key.length=4 * n):loop (ZU.b0 key (n:Int)) BIG (0,[])=some (II key n n).2:=by
 refine RY (fun i=>((i:Int),(II key n i).2)) n _ (by omega) (fun i hi=>?_) ?_
 ·have hl:=KD key n i
  have e0:ZJ (4 * (i:Int))=((4 * i:Nat):Int):=by rw [Yr (by omega) (by omega)]; omega
  have e1:ZJ (ZJ (4 * (i:Int))+1)=((4 * i+1:Nat):Int):=by rw [e0,Yr (by omega) (by omega)]; omega
  have e2:ZJ (ZJ (4 * (i:Int))+2)=((4 * i+2:Nat):Int):=by rw [e0,Yr (by omega) (by omega)]; omega
  have e3:ZJ (ZJ (4 * (i:Int))+3)=((4 * i+3:Nat):Int):=by rw [e0,Yr (by omega) (by omega)]; omega
  have e4:ZJ ((i:Int)+1)=((i+1:Nat):Int):=by rw [Yr (by omega) (by omega)]; omega
  unfold ZU.b0
  dsimp only
  iterate 5 refine ZM (by omega) ?_
  refine ZM (by simp only [hl,List.length_cons,List.length_nil]; omega) ?_
  refine Ze fun m hm=>Ze fun j hj=>?_
  rw [hj,hm,Jd,e4]
  unfold JS
  rw [if_pos hi]
  dsimp only
  rw [lh (by rw [e0,J6]) (by rw [e1,J6]) (by rw [e2,J6]) (by rw [e3,J6])]
  rfl
 ·unfold ZU.b0
  exact Zi (by omega) rfl
theorem bW (n i:Nat) (r:BitVec 8) (ws:List V4) (t:V4) (h:n≤i) (hi:ws.length=i) (hn:0<n) (h2:i<1000):loop (ZU.b2 (n:Int) (r,(i:Int),ws)) BIG (0,t)=some (x9 t (lg ws (i - n))):=by
 refine Q9 _ (fun k=>vg t k ^^^ vg (lg ws (i - n)) k) id (by omega) (fun k v hk hv=>?_) (fun v=>?_)
 ·have e:=hv k (Nat.le_refl _) hk
  have e1:ZJ ((i:Int) - (n:Int))=((i - n:Nat):Int):=by rw [Yr (by omega) (by omega)]; omega
  have e2:ZJ ((k:Int)+1)=((k+1:Nat):Int):=by rw [Yr (by omega) (by omega)]; omega
  unfold ZU.b2
  simp only [e1,e2]
  iterate 5 refine ZM (by omega) ?_
  refine Ze fun m hm=>Ze fun j hj=>?_
  simp only [hj,hm,Int.toNat_natCast,e]
 ·unfold ZU.b2
  exact Zi (by omega) rfl
theorem yw (key:Str) (n i:Nat) (hn:n=4 ∨ n=8) (h:n≤i) (hi:i<4 * (n+7)) :
  ZU.b1 (n:Int) ((II key n i).1,(i:Int),(II key n i).2)=some (.inl ((II key n (i+1)).1,((i+1:Nat):Int),(II key n (i+1)).2)):=by
 have hl:=KD key n i
 rw [Jd]
 generalize II key n i=s at hl
 obtain ⟨r,ws⟩:=s
 simp only at hl
 have e0:ZJ (4 * ZJ ((n:Int)+7))=((4 * (n+7):Nat):Int):=by rw [Yr (x:=(n:Int)+7) (by omega) (by omega),Yr (by omega) (by omega)]; omega
 have e1:ZJ ((i:Int) - 1)=((i - 1:Nat):Int):=by rw [Yr (by omega) (by omega)]; omega
 have e2:(i:Int).tmod (n:Int)=((i % n:Nat):Int):=Dw i n
 have e3:ZJ ((i:Int)+1)=((i+1:Nat):Int):=by rw [Yr (by omega) (by omega)]; omega
 unfold ZU.b1
 simp only [e0,e1,e2,e3,lQ,gI,Int.toNat_natCast]
 iterate 2 refine ZM (by omega) ?_
 refine Ze fun m hm=>ZM (by omega) (Ze fun x1 TK=>?_)
 have hb:=fun k=>(vg m k).isLt
 have hb0:=hb 0
 have hb1:=hb 1
 have gV:=hb 2
 have hb3:=hb 3
 clear hb
 have xz : ∀ j:BitVec 8 × V4,j=Ir n i (r,ws) → ((loop (ZU.b2 (n:Int) (r,(i:Int),ws)) BIG (0,j.2)).bind fun (KI:V4)=>(if (ws).length+(([KI]:List V4)).length≤35184372088832 then (X5 (ws++([KI]:List V4)) fun (l2:List V4)=>(X5 ((i+1:Nat):Int) fun (i2:Int)=>(some (Sum.inl (β:=List V4) (j.1,i2,l2))))) else none))=some (.inl ((JS key n i (r,ws)).1,((i+1:Nat):Int),(JS key n i (r,ws)).2)):=by
  intro j hj
  refine Z5 (bW n i r ws j.2 h hl (by omega) (by omega)) (ZM (by simp only [hl,List.length_cons,List.length_nil]; omega) (Ze fun l2 h2=>Ze fun i2 Ca=>?_))
  rw [h2,Ca,hj]
  unfold JS
  rw [if_neg (by omega)]
 by_cases c0:i % n=0
 ·refine Z5 (v:=(tw r,aP m r)) (ZM (by rw [TK,decide_eq_true_eq]; omega) ?_) (xz _ ?_)
  ·iterate 4 refine ZM (by omega) ?_
   exact Ze fun m3 h3=>Z5 (FO _) (by rw [h3]; rfl)
  ·unfold Ir; rw [if_pos c0,hm]
 ·by_cases c1:n=8∧i % n=4
  ·refine Z5 (v:=(r,jm m)) (Zi (by rw [TK,decide_eq_true_eq]; omega) ?_) (xz _ ?_)
   ·iterate 2 refine ZM (by omega) ?_
    refine Ze fun x2 KO=>ZM (by rw [KO,decide_eq_true_eq]; omega) ?_
    iterate 4 refine ZM (by omega) ?_
    exact Ze fun m3 h3=>(by rw [h3]; rfl)
   ·unfold Ir; rw [if_neg c0,if_pos c1,hm]
  ·refine Z5 (v:=(r,m)) (Zi (by rw [TK,decide_eq_true_eq]; omega) ?_) (xz _ ?_)
   ·by_cases c2:6<(n:Int)
    ·refine ZM c2 (ZM (by omega) (Ze fun x2 KO=>Zi (by rw [KO,decide_eq_true_eq]; omega) rfl))
    ·exact Zi c2 rfl
   ·unfold Ir; rw [if_neg c0,if_neg c1,hm]
theorem aj (key:Str) (n:Nat) (hn:n=4 ∨ n=8) (hk:key.length=4 * n):ZU key=some (II key n (4 * (n+7))).2:=by
 have e0:ZJ ((key.length:Int).tdiv 4)=(n:Int):=by
  rw [show (4:Int)=((4:Nat):Int) from rfl,Bi,Nq (by omega)]; omega
 unfold ZU
 refine Ze fun k hk1=>?_
 rw [hk1,e0]
 refine Z5 (bg key n hn hk) (Z5 (v:=(II key n (4 * (n+7))).2) ?_ rfl)
 have hr:(II key n n).1=1#8:=by
  have : ∀ i,i≤n → (II key n i).1=1#8:=by
   intro i
   induction i with
   | zero=>intro _; rfl
   | succ i ih=>intro h; rw [Jd]; unfold JS; rw [if_pos (by omega)]; exact ih (by omega)
  exact this n (Nat.le_refl _)
 have:=RY (body:=ZU.b1 (n:Int)) (fun k=>((II key n (n+k)).1,(((n+k:Nat)):Int),(II key n (n+k)).2)) (4 * (n+7) - n) (II key n (4 * (n+7))).2 (by omega) (fun k fu=>yw key n (n+k) hn (by omega) (by omega)) ?_
 ·rw [Nat.add_zero,hr] at this
  exact this
 ·have e:n+(4 * (n+7) - n)=4 * (n+7):=by omega
  rw [e]
  unfold ZU.b1
  refine Zi ?_ rfl
  rw [Yr (x:=(n:Int)+7) (by omega) (by omega),Yr (by omega) (by omega)]
  show ¬ (((4 * (n+7):Nat):Int)<_)
  omega
end Go.Proofs
end

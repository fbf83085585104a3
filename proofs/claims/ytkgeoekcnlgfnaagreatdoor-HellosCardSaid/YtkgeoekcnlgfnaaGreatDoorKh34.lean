/-
  Part 34 of the proof of what several laws share.
-/
import Derived.Test.YtkgeoekcnlgfnaaGreatDoorKh31
import Derived.Test.YtkgeoekcnlgfnaaGreatDoorKh33
set_option maxHeartbeats 4000000
set_option maxRecDepth 20000
set_option linter.unusedVariables false
set_option linter.unusedSimpArgs false
section
namespace Go.Proofs
open Go Go.Kx
open TryzI Tryz
def XZ.b0  (s0:Int × (List (Str × Int))):Option ((Int × (List (Str × Int))) ⊕ ((List (Str × Int)))) :=
 if s0.1<((s0.2).length:Int) then (if 0≤s0.1∧s0.1<((s0.2).length:Int) then (if 0≤s0.1∧s0.1<((s0.2).length:Int) then (X5 (s0.2.set ((s0.1).toNat) ((lg s0.2 ((s0.1).toNat)).1,(HZ (· ^^^ ·) ((lg s0.2 ((s0.1).toNat)).2) 90))) fun Xi=>(X5 (ZJ (s0.1+1)) fun i1=>(some (.inl (i1,Xi))))) else none) else none) else (some (.inr s0.2))
def XZ (a_:List (Str × Int)):Option ((List (Str × Int))) :=
 (loop (XZ.b0) BIG (0,a_)).bind fun Yw=>(some Yw)
theorem oJ {Aa_:Y6} {spa_:List (Str × Int)} {a_:List (Str × Int)} {r:(List (Str × Int))} (H:XZ a_=some r) :
  Does Tryz.prog 57 [sl Aa_ ((a_).length) ((a_++spa_).length)] [⟨Aa_,eF (fun p:Str × Int=>[vs p.1,vi p.2]) (a_++spa_)⟩] [] (Γ:=Unit) (fun g=>Value.tuple [].toArray) (fun g=>[⟨Aa_,eF (fun p:Str × Int=>[vs p.1,vi p.2]) (r++spa_)⟩]):=by
 intro w hmem hro hd
 refine Zn func57 rfl ntmps57 rfl hmem hro hd ?_
 unfold XZ at H
 refine Z_ (Y2 ?_)
 refine Z6 (ZP ?_)
 have ⟨Yw,Hl,H⟩:=Z9 H
 refine Wz [0,2] [0] rfl rfl ?_
 refine Yv (id:=0) (body:=(XZ.b0)) (σ:=Int × (List (Str × Int))) (Γ:=Unit) (Γx:=Unit) (fun s0 WG=>[(0,sl Aa_ ((s0.2).length) ((s0.2++spa_).length)),(2,vi s0.1)]) (fun s0 WG=>[⟨Aa_,eF (fun p:Str × Int=>[vs p.1,vi p.2]) (s0.2++spa_)⟩]) (fun t g=>[]) (fun t g=>[⟨Aa_,eF (fun p:Str × Int=>[vs p.1,vi p.2]) (t++spa_)⟩]) ?_ BIG (0,a_) () Yw Hl ?_
 ·intro s0 WG r1 H K hK hE
  unfold XZ.b0 at H
  refine ZY (Z_ (Zj 2 rfl ?_))
  refine ZV (ZG rfl underlying28) ?_
  refine ZV (ZT WV) ?_
  refine Z6 (UK H (fun hc H=>?_) (fun hc H=>?_))
  ·refine ZN (Z7 (ZY (ZP (ZH (Zj 4 rfl ?_)))))
   have ⟨h1,H⟩:=Z4 H
   refine ZV (YK (i:=s0.1) rfl rfl underlying28 LH rfl (.o 0) (VC (s:=2) (fun _=>rfl) rfl (Si (tl h1))) h1.1 h1.2 (k:=((s0.1).toNat) * 2) rfl) ?_
   refine ZV (Vk rfl underlying60 rfl (k:=1) rfl YM rfl) ?_
   refine ZV (Z8 rfl (.o 0) (((UM (g:=fun p:Str × Int=>[vs p.1,vi p.2]) (s:=2) (fun _=>rfl) (s0.2++spa_) ((s0.1).toNat) 1 (Si (tl h1)) (by decide:1<2)).trans (congrArg (fun z=>((fun p:Str × Int=>[vs p.1,vi p.2]) z)[1]?) (FR (tl h1)))).trans rfl) isAgg3) ?_
   refine ZV (ZT abV) ?_
   have ⟨h2,H⟩:=Z4 H
   refine ZV (YK (i:=s0.1) rfl rfl underlying28 LH rfl (.o 0) (VC (s:=2) (fun _=>rfl) rfl (Si (tl h2))) h2.1 h2.2 (k:=((s0.1).toNat) * 2) rfl) ?_
   refine ZV (Vk rfl underlying60 rfl (k:=1) rfl YM rfl) ?_
   refine VM (YR (j:=0) rfl rfl YM rfl rfl rfl (xZ (g:=fun p:Str × Int=>[vs p.1,vi p.2]) (s:=2) (fun _=>rfl) (Si (tl h2)) (by decide:1<2)) (cs':=eF (fun p:Str × Int=>[vs p.1,vi p.2]) ((s0.2.set ((s0.1).toNat) ((lg s0.2 ((s0.1).toNat)).1,(HZ (· ^^^ ·) ((lg s0.2 ((s0.1).toNat)).2) 90)))++spa_)) (xV (g:=fun p:Str × Int=>[vs p.1,vi p.2]) (s:=2) (fun _=>rfl) s0.2 spa_ ((s0.1).toNat) 1 _ _ (tl h2) (by decide:1<2) rfl)) (fun _=>?_)
   have ⟨Xi,hm_1,H⟩:=ZX H
   refine Ta 0 (congrArg (fun z=>eF (fun p:Str × Int=>[vs p.1,vi p.2]) (z++spa_)) hm_1) ?_
   refine WN (v':=sl Aa_ ((Xi).length) ((Xi++spa_).length)) 0 (Rf hm_1) ?_
   refine WN (v':=sl Aa_ ((Xi).length) ((Xi++spa_).length)) 4 (Rf hm_1) ?_
   refine WN (v':=sl Aa_ ((Xi).length) ((Xi++spa_).length)) 9 (Rf hm_1) ?_
   refine WN (v':=sl Aa_ ((Xi).length) ((Xi++spa_).length)) 11 (Rf hm_1) ?_
   refine ZK (ZW (Z7 (ZH (YP ?_))))
   refine ZV (ZT XN) ?_
   refine Y2 ?_
   have ⟨i1,Ll,H⟩:=ZX H
   refine WN 2 (congrArg vi Ll) ?_
   refine ZK ?_
   obtain rfl:=sj H
   exact Ri [0] (hK (i1,Xi) rfl ())
  refine YW (Z0 (Z0 ?_))
  obtain rfl:=sj H
  exact WW [0] (hE s0.2 rfl ())
 intro g
 refine ZL ?_
 obtain rfl:=sj H
 exact Kv (rs:=[]) (vs:=[]) rfl trivial (fun w' hs'=>⟨(),rfl,Step.left (Step.pulled (is:=[0]) (A:=[⟨Aa_,eF (fun p:Str × Int=>[vs p.1,vi p.2]) (Yw++spa_)⟩]) hs' rfl)⟩)
def XK.b0  (s0:Int × List (Str)):Option ((Int × List (Str)) ⊕ (List (Str))) :=
 if s0.1<((s0.2).length:Int) then (if 0≤s0.1∧s0.1<((s0.2).length:Int) then (if (([126#8]:Str)).length+(lg s0.2 ((s0.1).toNat)).length≤4611686018427387904 then (if 0≤s0.1∧s0.1<((s0.2).length:Int) then (X5 (s0.2.set ((s0.1).toNat) (([126#8]:Str)++(lg s0.2 ((s0.1).toNat)))) fun Xi=>(X5 (ZJ (s0.1+1)) fun i1=>(some (.inl (i1,Xi))))) else none) else none) else none) else (some (.inr s0.2))
def XK (a_:List (Str)):Option (List (Str)) :=
 (loop (XK.b0) BIG (0,a_)).bind fun Yw=>(some Yw)
theorem BN {Aa_:Y6} {spa_:List (Str)} {a_:List (Str)} {r:List (Str)} (H:XK a_=some r) :
  Does Tryz.prog 58 [sl Aa_ ((a_).length) ((a_++spa_).length)] [⟨Aa_,eS (a_++spa_)⟩] [] (Γ:=Unit) (fun g=>Value.tuple [].toArray) (fun g=>[⟨Aa_,eS (r++spa_)⟩]):=by
 intro w hmem hro hd
 refine Zn func58 rfl ntmps58 rfl hmem hro hd ?_
 unfold XK at H
 refine Z_ (Y2 ?_)
 refine Z6 (ZP ?_)
 have ⟨Yw,Hl,H⟩:=Z9 H
 refine Wz [0,2] [0] rfl rfl ?_
 refine Yv (id:=0) (body:=(XK.b0)) (σ:=Int × List (Str)) (Γ:=Unit) (Γx:=Unit) (fun s0 WG=>[(0,sl Aa_ ((s0.2).length) ((s0.2++spa_).length)),(2,vi s0.1)]) (fun s0 WG=>[⟨Aa_,eS (s0.2++spa_)⟩]) (fun t g=>[]) (fun t g=>[⟨Aa_,eS (t++spa_)⟩]) ?_ BIG (0,a_) () Yw Hl ?_
 ·intro s0 WG r1 H K hK hE
  unfold XK.b0 at H
  refine ZY (Z_ (Zj 2 rfl ?_))
  refine ZV (ZG rfl underlying23) ?_
  refine ZV (ZT WV) ?_
  refine Z6 (UK H (fun hc H=>?_) (fun hc H=>?_))
  ·refine ZN (Z7 (ZY (ZP (ZH (Zj 4 rfl ?_)))))
   have ⟨h1,H⟩:=Z4 H
   refine ZV (YK (i:=s0.1) rfl rfl underlying23 Xe rfl (.o 0) (Uf (Si (tl h1))) h1.1 h1.2 (k:=(s0.1).toNat) (JZ _)) ?_
   refine ZV (Z8 rfl (.o 0) (Aw (f:=vs) (l:=s0.2) (sp:=spa_) (tl h1)) isAgg9) ?_
   have ⟨h2,H⟩:=Z4 H
   refine ZV (Zg rfl rfl (fun w=>G9 w ([126#8]:Str) (lg s0.2 ((s0.1).toNat)) h2)) ?_
   have ⟨h3,H⟩:=Z4 H
   refine ZV (YK (i:=s0.1) rfl rfl underlying23 Xe rfl (.o 0) (Uf (Si (tl h3))) h3.1 h3.2 (k:=(s0.1).toNat) (JZ _)) ?_
   refine VM (YR (j:=0) rfl rfl Xe rfl rfl rfl (by rw [List.length_map]; exact Si (tl h3)) (cs':=eS ((s0.2.set ((s0.1).toNat) (([126#8]:Str)++(lg s0.2 ((s0.1).toNat))))++spa_)) (AQ (tl h3))) (fun _=>?_)
   have ⟨Xi,hm_1,H⟩:=ZX H
   refine Ta 0 (congrArg (fun z=>eS (z++spa_)) hm_1) ?_
   refine WN (v':=sl Aa_ ((Xi).length) ((Xi++spa_).length)) 0 (Rf hm_1) ?_
   refine WN (v':=sl Aa_ ((Xi).length) ((Xi++spa_).length)) 4 (Rf hm_1) ?_
   refine WN (v':=sl Aa_ ((Xi).length) ((Xi++spa_).length)) 9 (Rf hm_1) ?_
   refine WN (v':=sl Aa_ ((Xi).length) ((Xi++spa_).length)) 11 (Rf hm_1) ?_
   refine ZK (ZW (Z7 (ZH (YP ?_))))
   refine ZV (ZT XN) ?_
   refine Y2 ?_
   have ⟨i1,Ll,H⟩:=ZX H
   refine WN 2 (congrArg vi Ll) ?_
   refine ZK ?_
   obtain rfl:=sj H
   exact Ri [0] (hK (i1,Xi) rfl ())
  refine YW (Z0 (Z0 ?_))
  obtain rfl:=sj H
  exact WW [0] (hE s0.2 rfl ())
 intro g
 refine ZL ?_
 obtain rfl:=sj H
 exact Kv (rs:=[]) (vs:=[]) rfl trivial (fun w' hs'=>⟨(),rfl,Step.left (Step.pulled (is:=[0]) (A:=[⟨Aa_,eS (Yw++spa_)⟩]) hs' rfl)⟩)
def Tn (NR:Int) (Q5 Sy:Str) (Xp:List (Int)) (Sm:Str) (V7 Xo:List (Int)) (VB Un:List (Int)) (Vb:List (Int × Str)) (Xj:List (Str × Int)) (VD:List (Str)) (RS:Int) (U_:List (Int)) (Uk:List (Str)) (Q0:Int) (NS:Str) (Nw KP:Int) (PL:Str) (QV:Int):Option (List (Str) × List (Int) × List (Str) × (List (Str × Int)) × (List (Int × Str)) × List (Int) × List (Int) × List (Int) × List (Int) × List (Int)) :=
 (Yc Xp).bind fun Zu=>(if (Zu).length=(Xp).length then ((Yc V7).bind fun YJ=>(if (YJ).length=(V7).length then ((Yc Xo).bind fun X7=>(if (X7).length=(Xo).length then ((Yc VB).bind fun Xu=>(if (Xu).length=(VB).length then ((Yc Un).bind fun UC=>(if (UC).length=(Un).length then ((XB Vb).bind fun MV=>(if (MV).length=(Vb).length then ((XZ Xj).bind fun JM=>(if (JM).length=(Xj).length then ((XK VD).bind fun JY=>(if (JY).length=(VD).length then ((Yc U_).bind fun xG=>(if (xG).length=(U_).length then ((XK Uk).bind fun IJ=>(if (IJ).length=(Uk).length then (some (IJ,xG,JY,JM,MV,UC,Xu,X7,YJ,Zu)) else none)) else none)) else none)) else none)) else none)) else none)) else none)) else none)) else none)) else none)
theorem rP {Aa_Suites:Y6} {spa_Suites:List (Int)} {Aa_Versions:Y6} {spa_Versions:List (Int)} {Aa_Groups:Y6} {spa_Groups:List (Int)} {Aa_Schemes:Y6} {spa_Schemes:List (Int)} {Aa_Modes:Y6} {spa_Modes:List (Int)} {Aa_Shares:Y6} {spa_Shares:List (Int × Str)} {Aa_Identities:Y6} {spa_Identities:List (Str × Int)} {Aa_Binders:Y6} {spa_Binders:List (Str)} {Aa_Others:Y6} {spa_Others:List (Int)} {Aa_Certs:Y6} {spa_Certs:List (Str)} {NR:Int} {Q5:Str} {Sy:Str} {Xp:List (Int)} {Sm:Str} {V7:List (Int)} {Xo:List (Int)} {VB:List (Int)} {Un:List (Int)} {Vb:List (Int × Str)} {Xj:List (Str × Int)} {VD:List (Str)} {RS:Int} {U_:List (Int)} {Uk:List (Str)} {Q0:Int} {NS:Str} {Nw:Int} {KP:Int} {PL:Str} {QV:Int} {r:List (Str) × List (Int) × List (Str) × (List (Str × Int)) × (List (Int × Str)) × List (Int) × List (Int) × List (Int) × List (Int) × List (Int)} (H:Tn NR Q5 Sy Xp Sm V7 Xo VB Un Vb Xj VD RS U_ Uk Q0 NS Nw KP PL QV=some r) :
  Does Tryz.prog 21 [aG [(1,[vi NR]),(1,[vs Q5]),(1,[vs Sy]),(1,[sl Aa_Suites ((Xp).length) ((Xp++spa_Suites).length)]),(1,[vs Sm]),(1,[sl Aa_Versions ((V7).length) ((V7++spa_Versions).length)]),(1,[sl Aa_Groups ((Xo).length) ((Xo++spa_Groups).length)]),(1,[sl Aa_Schemes ((VB).length) ((VB++spa_Schemes).length)]),(1,[sl Aa_Modes ((Un).length) ((Un++spa_Modes).length)]),(1,[sl Aa_Shares ((Vb).length) ((Vb++spa_Shares).length)]),(1,[sl Aa_Identities ((Xj).length) ((Xj++spa_Identities).length)]),(1,[sl Aa_Binders ((VD).length) ((VD++spa_Binders).length)]),(1,[vi RS]),(1,[sl Aa_Others ((U_).length) ((U_++spa_Others).length)]),(1,[sl Aa_Certs ((Uk).length) ((Uk++spa_Certs).length)]),(1,[vi Q0]),(1,[vs NS]),(1,[vi Nw]),(1,[vi KP]),(1,[vs PL]),(1,[vi QV])]] [⟨Aa_Suites,eI (Xp++spa_Suites)⟩,⟨Aa_Versions,eI (V7++spa_Versions)⟩,⟨Aa_Groups,eI (Xo++spa_Groups)⟩,⟨Aa_Schemes,eI (VB++spa_Schemes)⟩,⟨Aa_Modes,eI (Un++spa_Modes)⟩,⟨Aa_Shares,eF (fun p:Int × Str=>[vi p.1,vs p.2]) (Vb++spa_Shares)⟩,⟨Aa_Identities,eF (fun p:Str × Int=>[vs p.1,vi p.2]) (Xj++spa_Identities)⟩,⟨Aa_Binders,eS (VD++spa_Binders)⟩,⟨Aa_Others,eI (U_++spa_Others)⟩,⟨Aa_Certs,eS (Uk++spa_Certs)⟩] [] (Γ:=Unit) (fun g=>Value.tuple [].toArray) (fun g=>[⟨Aa_Certs,eS (r.1++spa_Certs)⟩,⟨Aa_Others,eI (r.2.1++spa_Others)⟩,⟨Aa_Binders,eS (r.2.2.1++spa_Binders)⟩,⟨Aa_Identities,eF (fun p:Str × Int=>[vs p.1,vi p.2]) (r.2.2.2.1++spa_Identities)⟩,⟨Aa_Shares,eF (fun p:Int × Str=>[vi p.1,vs p.2]) (r.2.2.2.2.1++spa_Shares)⟩,⟨Aa_Modes,eI (r.2.2.2.2.2.1++spa_Modes)⟩,⟨Aa_Schemes,eI (r.2.2.2.2.2.2.1++spa_Schemes)⟩,⟨Aa_Groups,eI (r.2.2.2.2.2.2.2.1++spa_Groups)⟩,⟨Aa_Versions,eI (r.2.2.2.2.2.2.2.2.1++spa_Versions)⟩,⟨Aa_Suites,eI (r.2.2.2.2.2.2.2.2.2++spa_Suites)⟩]):=by
 intro w hmem hro hd
 refine Zn func21 rfl ntmps21 rfl hmem hro hd ?_
 unfold Tn at H
 refine Z_ (YE PT (fun b1=>?_))
 refine Z6 (Z_ (ZV (ZQ 3 underlying30 XO) ?_))
 refine ZV (Z8 rfl (.o 3) rfl isAgg22) ?_
 have ⟨Zu,Yk,H⟩:=Z9 H
 refine YE (Wq (is:=[21]) rfl call55 (MJ Yk :) rfl trivial) (fun Re=>?_)
 have ⟨h1,H⟩:=Z4 H
 refine WN (v':=sl Aa_Suites ((Zu).length) ((Zu++spa_Suites).length)) 3 (VG h1) ?_
 refine Ta 4 (congrArg (fun z=>[z]) (VG h1)) ?_
 refine Z6 (Z_ (ZV (ZQ 5 underlying30 XO) ?_))
 refine ZV (Z8 rfl (.o 6) rfl isAgg22) ?_
 have ⟨YJ,X6,H⟩:=Z9 H
 refine YE (Wq (is:=[22]) rfl call55 (MJ X6 :) rfl trivial) (fun UD=>?_)
 have ⟨h2,H⟩:=Z4 H
 refine WN (v':=sl Aa_Versions ((YJ).length) ((YJ++spa_Versions).length)) 6 (VG h2) ?_
 refine Ta 7 (congrArg (fun z=>[z]) (VG h2)) ?_
 refine Z6 (Z_ (ZV (ZQ 6 underlying30 XO) ?_))
 refine ZV (Z8 rfl (.o 8) rfl isAgg22) ?_
 have ⟨X7,Vt,H⟩:=Z9 H
 refine YE (Wq (is:=[23]) rfl call55 (MJ Vt :) rfl trivial) (fun Pm=>?_)
 have ⟨h3,H⟩:=Z4 H
 refine WN (v':=sl Aa_Groups ((X7).length) ((X7++spa_Groups).length)) 9 (VG h3) ?_
 refine Ta 9 (congrArg (fun z=>[z]) (VG h3)) ?_
 refine Z6 (Z_ (ZV (ZQ 7 underlying30 XO) ?_))
 refine ZV (Z8 rfl (.o 10) rfl isAgg22) ?_
 have ⟨Xu,UH,H⟩:=Z9 H
 refine YE (Wq (is:=[24]) rfl call55 (MJ UH :) rfl trivial) (fun JV=>?_)
 have ⟨h4,H⟩:=Z4 H
 refine WN (v':=sl Aa_Schemes ((Xu).length) ((Xu++spa_Schemes).length)) 12 (VG h4) ?_
 refine Ta 11 (congrArg (fun z=>[z]) (VG h4)) ?_
 refine Z6 (Z_ (ZV (ZQ 8 underlying30 XO) ?_))
 refine ZV (Z8 rfl (.o 12) rfl isAgg22) ?_
 have ⟨UC,Qi,H⟩:=Z9 H
 refine YE (Wq (is:=[25]) rfl call55 (MJ Qi :) rfl trivial) (fun zM=>?_)
 have ⟨h5,H⟩:=Z4 H
 refine WN (v':=sl Aa_Modes ((UC).length) ((UC++spa_Modes).length)) 15 (VG h5) ?_
 refine Ta 13 (congrArg (fun z=>[z]) (VG h5)) ?_
 refine Z6 (Z_ (ZV (ZQ 9 underlying30 QR) ?_))
 refine ZV (Z8 rfl (.o 14) rfl isAgg27) ?_
 have ⟨MV,KG,H⟩:=Z9 H
 refine YE (Wq (is:=[26]) rfl call56 (pW KG :) rfl trivial) (fun jV=>?_)
 have ⟨h6,H⟩:=Z4 H
 refine WN (v':=sl Aa_Shares ((MV).length) ((MV++spa_Shares).length)) 18 (VG h6) ?_
 refine Ta 15 (congrArg (fun z=>[z]) (VG h6)) ?_
 refine Z6 (Z_ (ZV (ZQ 10 underlying30 MX) ?_))
 refine ZV (Z8 rfl (.o 16) rfl isAgg28) ?_
 have ⟨JM,L_,H⟩:=Z9 H
 refine YE (Wq (is:=[27]) rfl call57 (oJ L_ :) rfl trivial) (fun rE=>?_)
 have ⟨h7,H⟩:=Z4 H
 refine WN (v':=sl Aa_Identities ((JM).length) ((JM++spa_Identities).length)) 21 (VG h7) ?_
 refine Ta 17 (congrArg (fun z=>[z]) (VG h7)) ?_
 refine Z6 (Z_ (ZV (ZQ 11 underlying30 Xn) ?_))
 refine ZV (Z8 rfl (.o 18) rfl isAgg23) ?_
 have ⟨JY,JL,H⟩:=Z9 H
 refine YE (Wq (is:=[28]) rfl call58 (BN JL :) rfl trivial) (fun jY=>?_)
 have ⟨h8,H⟩:=Z4 H
 refine WN (v':=sl Aa_Binders ((JY).length) ((JY++spa_Binders).length)) 24 (VG h8) ?_
 refine Ta 19 (congrArg (fun z=>[z]) (VG h8)) ?_
 refine Z6 (N7 [1] rfl rfl ?_)
 refine Z_ (ZV (ZQ 13 underlying30 XO) ?_)
 refine ZV (Z8 rfl (.o 21) rfl isAgg22) ?_
 have ⟨xG,CP,H⟩:=Z9 H
 refine YE (Wq (is:=[29]) rfl call55 (MJ CP :) rfl trivial) (fun g_9=>?_)
 have ⟨h9,H⟩:=Z4 H
 refine WN (v':=sl Aa_Others ((xG).length) ((xG++spa_Others).length)) 27 (VG h9) ?_
 refine Ta 22 (congrArg (fun z=>[z]) (VG h9)) ?_
 refine Z6 (ZH (ZV (ZQ 14 underlying30 Xn) ?_))
 refine ZV (Z8 rfl (.o 23) rfl isAgg23) ?_
 have ⟨IJ,Gx,H⟩:=Z9 H
 refine YE (Wq (is:=[30]) rfl call58 (BN Gx :) rfl trivial) (fun mY=>?_)
 have ⟨JN,H⟩:=Z4 H
 refine WN (v':=sl Aa_Certs ((IJ).length) ((IJ++spa_Certs).length)) 30 (VG JN) ?_
 refine Ta 24 (congrArg (fun z=>[z]) (VG JN)) ?_
 refine ZK ?_
 obtain rfl:=sj H
 exact Kv (rs:=[]) (vs:=[]) rfl trivial (fun w' hs'=>⟨(),rfl,Step.left (Step.pulled (is:=(rp 10 0)) (A:=[⟨Aa_Certs,eS (IJ++spa_Certs)⟩,⟨Aa_Others,eI (xG++spa_Others)⟩,⟨Aa_Binders,eS (JY++spa_Binders)⟩,⟨Aa_Identities,eF (fun p:Str × Int=>[vs p.1,vi p.2]) (JM++spa_Identities)⟩,⟨Aa_Shares,eF (fun p:Int × Str=>[vi p.1,vs p.2]) (MV++spa_Shares)⟩,⟨Aa_Modes,eI (UC++spa_Modes)⟩,⟨Aa_Schemes,eI (Xu++spa_Schemes)⟩,⟨Aa_Groups,eI (X7++spa_Groups)⟩,⟨Aa_Versions,eI (YJ++spa_Versions)⟩,⟨Aa_Suites,eI (Zu++spa_Suites)⟩]) hs' rfl)⟩)
theorem qB : ∀ a:Lf,Lf.eq a a=true:=fun a=>by cases a <;> simp [Lf.eq]
theorem Mh : ∀ l:List Lf,Lf.all l l=true
 | []=>rfl
 | a :: l=>by simp [Lf.all,qB a,Mh l]
theorem Nl (a:List (Int)) (hl:a.length<1152921504606846976):Yo a a=some true:=by
 unfold Yo
 refine Zi (fun h=>h rfl) (Z5 (v := .inl ()) (Vw (fun j=>(j:Int)) a.length _ hl rfl (fun j hj=>?_) ?_) rfl)
 ·have e:=QW hj hl
  unfold Yo.b0
  rw [e,if_pos (by omega),if_pos (by omega),if_pos (by omega)]
  exact Zi (fun h=>h rfl) rfl
 ·unfold Yo.b0
  exact if_neg (by omega)
theorem I_ (a:List (Str)) (hl:a.length<1152921504606846976):XX a a=some true:=by
 unfold XX
 refine Zi (fun h=>h rfl) (Z5 (v := .inl ()) (Vw (fun j=>(j:Int)) a.length _ hl rfl (fun j hj=>?_) ?_) rfl)
 ·have e:=QW hj hl
  unfold XX.b0
  rw [e,if_pos (by omega),if_pos (by omega),if_pos (by omega)]
  exact Zi (fun h=>h rfl) rfl
 ·unfold XX.b0
  exact if_neg (by omega)
theorem v_ (a:List (Int × Str)) (hl:a.length<1152921504606846976):Xl a a=some true:=by
 unfold Xl
 refine Zi (fun h=>h rfl) (Z5 (v := .inl ()) (Vw (fun j=>(j:Int)) a.length _ hl rfl (fun j hj=>?_) ?_) rfl)
 ·have e:=QW hj hl
  unfold Xl.b0
  rw [e,if_pos (by omega),if_pos (by omega),if_pos (by omega)]
  exact Zi (by rw [Mh]; decide) rfl
 ·unfold Xl.b0
  exact if_neg (by omega)
theorem CU (a:List (Str × Int)) (hl:a.length<1152921504606846976):XT a a=some true:=by
 unfold XT
 refine Zi (fun h=>h rfl) (Z5 (v := .inl ()) (Vw (fun j=>(j:Int)) a.length _ hl rfl (fun j hj=>?_) ?_) rfl)
 ·have e:=QW hj hl
  unfold XT.b0
  rw [e,if_pos (by omega),if_pos (by omega),if_pos (by omega)]
  exact Zi (by rw [Mh]; decide) rfl
 ·unfold XT.b0
  exact if_neg (by omega)
theorem nL (a:List (Str × Str × Int × Int × Int × Int)) (hl:a.length<1152921504606846976):WK a a=some true:=by
 unfold WK
 refine Zi (fun h=>h rfl) (Z5 (v := .inl ()) (Vw (fun j=>(j:Int)) a.length _ hl rfl (fun j hj=>?_) ?_) rfl)
 ·have e:=QW hj hl
  unfold WK.b0
  rw [e,if_pos (by omega),if_pos (by omega),if_pos (by omega)]
  exact Zi (by rw [Mh]; decide) rfl
 ·unfold WK.b0
  exact if_neg (by omega)
theorem MI (a:List (Int)) (hl:a.length<1152921504606846976) : ∃ r,Yc a=some r∧r.length=a.length:=by
 unfold Yc
 have hI : ∀ k,k≤a.length → (iter (fun j (l:List (Int))=>l.set j (ZJ ((-9) - (lg l (j))))) k a).length=a.length:=MG (fun _ (l:List (Int))=>l.length=a.length) a.length rfl fun k l hk h=>by rw [List.length_set]; exact h
 refine ⟨iter (fun j (l:List (Int))=>l.set j (ZJ ((-9) - (lg l (j))))) a.length a,Z5 (EM (fun j (l:List (Int))=>((j:Int),l)) a.length (fun j (l:List (Int))=>l.set j (ZJ ((-9) - (lg l (j))))) a _ (fun _ (l:List (Int))=>l.length=a.length) hl rfl (fun j l hj hln=>⟨?_,by rw [List.length_set]; exact hln⟩) (fun l hln e=>?_)) rfl,hI _ (Nat.le_refl _)⟩
 ·have e:=QW hj hl
  unfold Yc.b0
  dsimp only
  rw [e,hln,if_pos (by omega),if_pos (by omega),if_pos (by omega),Int.toNat_natCast]
  exact Ze fun m hm=>Ze fun i hi=>by rw [hm,hi]
 ·unfold Yc.b0
  dsimp only
  rw [hln,if_neg (by omega),e]
theorem pu {α:Type} [Inhabited α] {l:List α} {i j:Nat} {x:α} (h:j ≠ i):lg (l.set j x) i=lg l i:=by
 unfold lg
 rw [List.getD_eq_getElem?_getD,List.getD_eq_getElem?_getD,List.getElem?_set_ne h]
theorem Eu (a:List (Str)) (hl:a.length<1152921504606846976) (ht : ∀ j,j<a.length → (lg a j).length≤1000000) : ∃ r,XK a=some r∧r.length=a.length:=by
 unfold XK
 have hI : ∀ k,k≤a.length → (iter (fun j (l:List (Str))=>l.set j (([126#8]:Str)++lg l j)) k a).length=a.length:=MG (fun _ (l:List (Str))=>l.length=a.length) a.length rfl fun k l hk h=>by rw [List.length_set]; exact h
 refine ⟨iter (fun j (l:List (Str))=>l.set j (([126#8]:Str)++lg l j)) a.length a,Z5 (EM (fun j l=>((j:Int),l)) a.length (fun j (l:List (Str))=>l.set j (([126#8]:Str)++lg l j)) a _ (fun j (l:List (Str))=>l.length=a.length ∧ ∀ i,j≤i → lg l i=lg a i) hl ⟨rfl,fun _ _=>rfl⟩ (fun j l hj hln=>⟨?_,by rw [List.length_set]; exact hln.1,fun i hi=>by rw [pu (by omega)]; exact hln.2 i (by omega)⟩) (fun l hln e=>?_)) rfl,hI _ (Nat.le_refl _)⟩
 ·have e:=QW hj hl
  have ht2:=ht j hj
  rw [← hln.2 j (Nat.le_refl _)] at ht2
  have h1:=hln.1
  unfold XK.b0
  dsimp only
  rw [e,h1,if_pos (by omega),if_pos (by omega),Int.toNat_natCast]
  refine ZM (by simp; omega) (ZM (by omega) (Ze fun m hm=>Ze fun i hi=>by rw [hm,hi]))
 ·unfold XK.b0
  dsimp only
  rw [hln.1,if_neg (by omega),e]
theorem zk (a:List (Int × Str)) (hl:a.length<1152921504606846976) : ∃ r,XB a=some r∧r.length=a.length:=by
 unfold XB
 have hI : ∀ k,k≤a.length → (iter (fun j (l:List (Int × Str))=>l.set j ((HZ (· ^^^ ·) ((lg l (j)).1) 90),(lg l (j)).2)) k a).length=a.length:=MG (fun _ (l:List (Int × Str))=>l.length=a.length) a.length rfl fun k l hk h=>by rw [List.length_set]; exact h
 refine ⟨iter (fun j (l:List (Int × Str))=>l.set j ((HZ (· ^^^ ·) ((lg l (j)).1) 90),(lg l (j)).2)) a.length a,Z5 (EM (fun j (l:List (Int × Str))=>((j:Int),l)) a.length (fun j (l:List (Int × Str))=>l.set j ((HZ (· ^^^ ·) ((lg l (j)).1) 90),(lg l (j)).2)) a _ (fun _ (l:List (Int × Str))=>l.length=a.length) hl rfl (fun j l hj hln=>⟨?_,by rw [List.length_set]; exact hln⟩) (fun l hln e=>?_)) rfl,hI _ (Nat.le_refl _)⟩
 ·have e:=QW hj hl
  unfold XB.b0
  dsimp only
  rw [e,hln,if_pos (by omega),if_pos (by omega),if_pos (by omega),Int.toNat_natCast]
  exact Ze fun m hm=>Ze fun i hi=>by rw [hm,hi]
 ·unfold XB.b0
  dsimp only
  rw [hln,if_neg (by omega),e]
theorem EH (a:List (Str × Int)) (hl:a.length<1152921504606846976) : ∃ r,XZ a=some r∧r.length=a.length:=by
 unfold XZ
 have hI : ∀ k,k≤a.length → (iter (fun j (l:List (Str × Int))=>l.set j ((lg l (j)).1,(HZ (· ^^^ ·) ((lg l (j)).2) 90))) k a).length=a.length:=MG (fun _ (l:List (Str × Int))=>l.length=a.length) a.length rfl fun k l hk h=>by rw [List.length_set]; exact h
 refine ⟨iter (fun j (l:List (Str × Int))=>l.set j ((lg l (j)).1,(HZ (· ^^^ ·) ((lg l (j)).2) 90))) a.length a,Z5 (EM (fun j (l:List (Str × Int))=>((j:Int),l)) a.length (fun j (l:List (Str × Int))=>l.set j ((lg l (j)).1,(HZ (· ^^^ ·) ((lg l (j)).2) 90))) a _ (fun _ (l:List (Str × Int))=>l.length=a.length) hl rfl (fun j l hj hln=>⟨?_,by rw [List.length_set]; exact hln⟩) (fun l hln e=>?_)) rfl,hI _ (Nat.le_refl _)⟩
 ·have e:=QW hj hl
  unfold XZ.b0
  dsimp only
  rw [e,hln,if_pos (by omega),if_pos (by omega),if_pos (by omega),Int.toNat_natCast]
  exact Ze fun m hm=>Ze fun i hi=>by rw [hm,hi]
 ·unfold XZ.b0
  dsimp only
  rw [hln,if_neg (by omega),e]
section
variable {s:Bool} {S G:List Int} {ch:List Str} {key:Str} {ro:List Str} {nm:Str} {tk:Int} {sl:Str} {U4:List (Str × Str × Int × Int × Int × Int)} {tape:Str} {clock pad limit ring:Int} {mK:Int} {mR mS:Str} {LP:List Int} {mN:Str} {mV mG Mk mM:List Int} {Vr:List (Int × Str)} {mI:List (Str × Int)} {mB:List Str} {mP:Int} {mO:List Int} {mC:List Str} {Pn:Int} {mD:Str} {mL mA:Int} {IB:Str} {mU:Int} {again:Bool} {group:Int}
theorem CS (hS:S.length≤17592186044416) (hG:G.length≤17592186044416) (hc:ch.length≤8796093022208) (hr:ro.length≤8796093022208) (hp:U4.length≤2199023255552):Ug s S G ch key ro nm tk sl U4 tape clock pad limit ring=some (s,key,nm,tk,sl,tape,clock,pad,limit,ring,S,G,ch,ro,U4):=by
 unfold Ug
 simp only [List.length_nil,Nat.zero_add,List.nil_append,if_true,if_pos hS,if_pos hG,if_pos hc,if_pos hr,if_pos hp,X5]
theorem xD (h1:LP.length≤17592186044416) (h2:mV.length≤17592186044416) (h3:mG.length≤17592186044416) (h4:Mk.length≤17592186044416) (h5:mM.length≤17592186044416) (h6:Vr.length≤5864062014805) (h7:mI.length≤5864062014805) (h8:mB.length≤8796093022208) (h9:mO.length≤17592186044416) (JN:mC.length≤8796093022208) :
  SY mK mR mS LP mN mV mG Mk mM Vr mI mB mP mO mC Pn mD mL mA IB mU=some (mK,mR,mS,mN,mP,Pn,mD,mL,mA,IB,mU,LP,mV,mG,Mk,mM,Vr,mI,mB,mO,mC):=by
 unfold SY
 simp only [List.length_nil,Nat.zero_add,List.nil_append,if_true,if_pos h1,if_pos h2,if_pos h3,if_pos h4,if_pos h5,if_pos h6,if_pos h7,if_pos h8,if_pos h9,if_pos JN,X5]
theorem JR (hS:S.length<1152921504606846976) (hG:G.length<1152921504606846976) (hc:ch.length<1152921504606846976) (hr:ro.length<1152921504606846976) (hp:U4.length<1152921504606846976):U5 s S G ch key ro nm tk sl U4 tape clock pad limit ring s S G ch key ro nm tk sl U4 tape clock pad limit ring=some true:=by
 unfold U5
 exact ZM (beq_self_eq_true s) (Z5 (Nl S hS) (ZM rfl (Z5 (Nl G hG) (ZM rfl (Z5 (I_ ch hc) (ZM rfl (ZM rfl (Z5 (I_ ro hr) (ZM rfl (ZM rfl (ZM rfl (ZM rfl (Z5 (nL U4 hp) (ZM rfl (ZM rfl (ZM rfl (ZM rfl (ZM rfl (Ze fun z hz=>by rw [hz,decide_eq_true rfl])))))))))))))))))))
theorem Gv (h1:LP.length<1152921504606846976) (h2:mV.length<1152921504606846976) (h3:mG.length<1152921504606846976) (h4:Mk.length<1152921504606846976) (h5:mM.length<1152921504606846976) (h6:Vr.length<1152921504606846976) (h7:mI.length<1152921504606846976) (h8:mB.length<1152921504606846976) (h9:mO.length<1152921504606846976) (JN:mC.length<1152921504606846976) :
  TZ mK mR mS LP mN mV mG Mk mM Vr mI mB mP mO mC Pn mD mL mA IB mU mK mR mS LP mN mV mG Mk mM Vr mI mB mP mO mC Pn mD mL mA IB mU=some true:=by
 unfold TZ
 exact ZM rfl (ZM rfl (ZM rfl (Z5 (Nl LP h1) (ZM rfl (ZM rfl (Z5 (Nl mV h2) (ZM rfl (Z5 (Nl mG h3) (ZM rfl (Z5 (Nl Mk h4) (ZM rfl (Z5 (Nl mM h5) (ZM rfl (Z5 (v_ Vr h6) (ZM rfl (Z5 (CU mI h7) (ZM rfl (Z5 (I_ mB h8) (ZM rfl (ZM rfl (Z5 (Nl mO h9) (ZM rfl (Z5 (I_ mC JN) (ZM rfl (ZM rfl (ZM rfl (ZM rfl (ZM rfl (ZM rfl (Ze fun z hz=>by rw [hz,decide_eq_true rfl]))))))))))))))))))))))))))))))
theorem yG (h1:LP.length<1152921504606846976) (h2:mV.length<1152921504606846976) (h3:mG.length<1152921504606846976) (h4:Mk.length<1152921504606846976) (h5:mM.length<1152921504606846976) (h6:Vr.length<1152921504606846976) (h7:mI.length<1152921504606846976) (h8:mB.length<1152921504606846976) (h9:mO.length<1152921504606846976) (JN:mC.length<1152921504606846976) (t8 : ∀ j,j<mB.length → (lg mB j).length≤1000000) (t10 : ∀ j,j<mC.length → (lg mC j).length≤1000000) :
  ∃ r10 r9 r8 r7 r6 r5 r4 r3 r2 r1,Tn mK mR mS LP mN mV mG Mk mM Vr mI mB mP mO mC Pn mD mL mA IB mU=some (r10,r9,r8,r7,r6,r5,r4,r3,r2,r1)∧r1.length=LP.length∧r2.length=mV.length∧r3.length=mG.length∧r4.length=Mk.length∧r5.length=mM.length∧r6.length=Vr.length∧r7.length=mI.length∧r8.length=mB.length∧r9.length=mO.length∧r10.length=mC.length:=by
 obtain ⟨r1,a1,b1⟩:=MI LP h1
 obtain ⟨r2,a2,b2⟩:=MI mV h2
 obtain ⟨r3,a3,b3⟩:=MI mG h3
 obtain ⟨r4,a4,b4⟩:=MI Mk h4
 obtain ⟨r5,a5,b5⟩:=MI mM h5
 obtain ⟨r6,a6,b6⟩:=zk Vr h6
 obtain ⟨r7,a7,b7⟩:=EH mI h7
 obtain ⟨r8,a8,b8⟩:=Eu mB h8 t8
 obtain ⟨r9,a9,b9⟩:=MI mO h9
 obtain ⟨r10,a10,qy⟩:=Eu mC JN t10
 refine ⟨r10,r9,r8,r7,r6,r5,r4,r3,r2,r1,?_,b1,b2,b3,b4,b5,b6,b7,b8,b9,qy⟩
 unfold Tn
 exact Z5 a1 (ZM b1 (Z5 a2 (ZM b2 (Z5 a3 (ZM b3 (Z5 a4 (ZM b4 (Z5 a5 (ZM b5 (Z5 a6 (ZM b6 (Z5 a7 (ZM b7 (Z5 a8 (ZM b8 (Z5 a9 (ZM b9 (Z5 a10 (ZM qy rfl)))))))))))))))))))
end
end Go.Proofs
end

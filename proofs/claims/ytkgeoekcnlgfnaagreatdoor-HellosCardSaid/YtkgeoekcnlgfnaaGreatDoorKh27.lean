/-
  Part 27 of the proof of what several laws share.
-/
import Derived.Test.YtkgeoekcnlgfnaaGreatDoorKh26
set_option maxHeartbeats 4000000
set_option maxRecDepth 20000
set_option linter.unusedVariables false
set_option linter.unusedSimpArgs false
section
namespace Go.Proofs
open Go Go.Kx
open TryzI Tryz
def Zl.b0 (s_:List (Int × Str)) (RX:Int) (UJ:Str) (s0:Int):Option ((Int) ⊕ ((Unit) ⊕ (Int))) :=
 if s0<((s_).length:Int) then (if 0≤s0∧s0<((s_).length:Int) then ((Sa ((lg s_ ((s0).toNat)).1) ((lg s_ ((s0).toNat)).2) RX UJ).bind fun Zu=>(if Zu=true then (some (.inr (.inr s0))) else (some (.inl (ZJ (s0+1)))))) else none) else (some (.inr (.inl ())))
def Zl (s_:List (Int × Str)) (RX:Int) (UJ:Str):Option (Int) :=
 (loop (Zl.b0 s_ RX UJ) BIG 0).bind fun Yw=>(match Yw with | .inl Yw=>(some (-1)) | .inr rv=>some rv)
def Zo.b0 (s_:List (Int × Str)) (QI:Bool) (SK SC:List (Int)) (Rx:List (Str)) (Nu:Str) (Rt:List (Str)) (OH:Str) (Rq:Int) (OM:Str) (Px:List (Str × Str × Int × Int × Int × Int)) (OG:Str) (PU NT:Int) (Qc OO OW:Int) (QM Rn:Str) (SA:List (Int)) (OI:Str) (Uh SI:List (Int)) (Tt Rw:List (Int)) (SG:List (Int × Str)) (U6:List (Str × Int)) (Tv:List (Str)) (NQ:Int) (SB:List (Int)) (RN:List (Str)) (QJ:Int) (OL:Str) (OJ NP:Int) (P7:Str) (QO:Int) (Nz:Bool) (NH Rk Rj:Int) (Rp:Str) (Rs Qd:Bool) (Rl s0:Int):Option ((Int) ⊕ ((Unit) ⊕ (Int))) :=
 if s0<((s_).length:Int) then (if 0≤s0∧s0<((s_).length:Int) then ((R_ ((lg s_ ((s0).toNat)).1) ((lg s_ ((s0).toNat)).2) QI SK SC Rx Nu Rt OH Rq OM Px OG PU NT Qc OO OW QM Rn SA OI Uh SI Tt Rw SG U6 Tv NQ SB RN QJ OL OJ NP P7 QO Nz NH Rk Rj Rp Rs Qd Rl).bind fun Zu=>(if Zu=true then (some (.inr (.inr s0))) else (some (.inl (ZJ (s0+1)))))) else none) else (some (.inr (.inl ())))
def Zo (s_:List (Int × Str)) (QI:Bool) (SK SC:List (Int)) (Rx:List (Str)) (Nu:Str) (Rt:List (Str)) (OH:Str) (Rq:Int) (OM:Str) (Px:List (Str × Str × Int × Int × Int × Int)) (OG:Str) (PU NT:Int) (Qc OO OW:Int) (QM Rn:Str) (SA:List (Int)) (OI:Str) (Uh SI:List (Int)) (Tt Rw:List (Int)) (SG:List (Int × Str)) (U6:List (Str × Int)) (Tv:List (Str)) (NQ:Int) (SB:List (Int)) (RN:List (Str)) (QJ:Int) (OL:Str) (OJ NP:Int) (P7:Str) (QO:Int) (Nz:Bool) (NH Rk Rj:Int) (Rp:Str) (Rs Qd:Bool) (Rl:Int):Option (Int) :=
 (loop (Zo.b0 s_ QI SK SC Rx Nu Rt OH Rq OM Px OG PU NT Qc OO OW QM Rn SA OI Uh SI Tt Rw SG U6 Tv NQ SB RN QJ OL OJ NP P7 QO Nz NH Rk Rj Rp Rs Qd Rl) BIG 0).bind fun Yw=>(match Yw with | .inl Yw=>(some (-1)) | .inr rv=>some rv)
theorem FK {As_:Y6} {cs_:Nat} {bfc0:Nat} {obfc0:Nat} {s_:List (Int × Str)} {RX:Int} {UJ:Str} (FN:(s_).length≤cs_) {r:Int} (H:Zl s_ RX UJ=some r) :
  Does Tryz.prog 65 [sl As_ ((s_).length) cs_,Value.func (.func 64) #[] #[ptr (some (bfc0,obfc0)) 0]] [] [⟨As_,eF (fun p:Int × Str=>[vi p.1,vs p.2]) s_⟩,⟨some (bfc0,obfc0),[vi RX]⟩,⟨some (bfc0,obfc0+1),[vs UJ]⟩] (Γ:=Unit) (fun g=>vi r) (fun g=>[]):=by
 intro w hmem hro hd
 refine Zn func65 rfl ntmps65 rfl hmem hro hd ?_
 unfold Zl at H
 refine Z_ (Y2 ?_)
 refine Z6 (ZY (Z_ (YP ?_)))
 refine ZV (ZG rfl underlying27) ?_
 refine YP ?_
 refine Z6 (ZP ?_)
 have ⟨Yw,Hl,H⟩:=Z9 H
 refine Wz [0,1,7,8] [] rfl rfl ?_
 refine U0 (id:=0) (body:=(Zl.b0 s_ RX UJ)) (σ:=Int) (Γ:=Unit) (Γx:=Unit) (fun s0 WG=>[(0,sl As_ ((s_).length) cs_),(1,Value.func (.func 64) #[] #[ptr (some (bfc0,obfc0)) 0]),(7,vi ((s_).length:Int)),(8,vi s0)]) (fun s0 WG=>[]) (fun t g=>[]) (fun t g=>[]) r ?_ BIG 0 () Yw Hl ?_
 ·intro s0 WG r1 H K hK hE MK
  unfold Zl.b0 at H
  refine Z_ (ZV (ZT WV) ?_)
  refine Z6 (ZY (UK H (fun hc H=>?_) (fun hc H=>?_)))
  ·refine ZN (Z7 (ZY (ZP (Z_ (Zj 2 rfl ?_)))))
   refine Z6 (Z_ (Zj 3 rfl ?_))
   have ⟨h1,H⟩:=Z4 H
   refine ZV (YK (i:=s0) rfl rfl underlying27 Rv rfl (.r 0) (VC (s:=2) (fun _=>rfl) rfl (tl h1)) h1.1 h1.2 (k:=((s0).toNat) * 2) rfl) ?_
   refine ZV (UE (n:=2) (ds:=[vi ((lg s_ ((s0).toNat)).1),vs ((lg s_ ((s0).toNat)).2)]) rfl (.r 0) (RJ (g:=fun p:Int × Str=>[vi p.1,vs p.2]) (s:=2) (fun _=>rfl) s_ ((s0).toNat) (tl h1)) rfl rfl isAgg50 Rv rfl) ?_
   have ⟨Zu,Yk,H⟩:=Z9 H
   refine YE (Cg (vs:=[aG [(1,[vi ((lg s_ ((s0).toNat)).1)]),(1,[vs ((lg s_ ((s0).toNat)).2)])]]) (cap:=[ptr (some (bfc0,obfc0)) 0]) (qZ Yk :) call64 ⟨.r 1, .r 2,trivial⟩) (fun Re=>?_)
   refine Z6 (Sn H (fun hc H=>?_) (fun hc H=>?_))
   ·refine Z_ (Zj 2 rfl ?_)
    refine Zq (ZE (ZZ (ZZ (ZE (ZZ ?_)))))
    have M3:=(MK _ (Option.some.inj H).symm)
    subst M3
    exact Wj
   refine ZN (ZW (Z7 (ZH (ZV (ZT XN) ?_))))
   refine YP ?_
   refine ZK ?_
   obtain rfl:=sj H
   exact Ri [] (hK (ZJ (s0+1)) rfl ())
  refine YW (Z0 (Z0 ?_))
  obtain rfl:=sj H
  exact WW [] (hE () rfl ())
 rcases Yw with Yw | rv
 ·intro Fe
  dsimp only at H
  refine ZL (Z7 (Z_ (Y2 ?_)))
  refine Zq ?_
  obtain rfl:=sj H
  exact Wj
 exact (Option.some.inj H)
theorem La {As_:Y6} {cs_:Nat} {bfc0:Nat} {obfc0:Nat} {bfc02:Nat} {obfc02:Nat} {bfc0_c:Nat} {obfc0_c:Nat} {Afc0_c_Suites:Y6} {cfc0_c_Suites:Nat} {Afc0_c_Groups:Y6} {cfc0_c_Groups:Nat} {Afc0_c_Chain:Y6} {cfc0_c_Chain:Nat} {Afc0_c_Roots:Y6} {cfc0_c_Roots:Nat} {Afc0_c_Psk:Y6} {cfc0_c_Psk:Nat} {bfc0_m:Nat} {obfc0_m:Nat} {Afc0_m_Suites:Y6} {cfc0_m_Suites:Nat} {Afc0_m_Versions:Y6} {cfc0_m_Versions:Nat} {Afc0_m_Groups:Y6} {cfc0_m_Groups:Nat} {Afc0_m_Schemes:Y6} {cfc0_m_Schemes:Nat} {Afc0_m_Modes:Y6} {cfc0_m_Modes:Nat} {Afc0_m_Shares:Y6} {cfc0_m_Shares:Nat} {Afc0_m_Identities:Y6} {cfc0_m_Identities:Nat} {Afc0_m_Binders:Y6} {cfc0_m_Binders:Nat} {Afc0_m_Others:Y6} {cfc0_m_Others:Nat} {Afc0_m_Certs:Y6} {cfc0_m_Certs:Nat} {s_:List (Int × Str)} {QI:Bool} {SK:List (Int)} {SC:List (Int)} {Rx:List (Str)} {Nu:Str} {Rt:List (Str)} {OH:Str} {Rq:Int} {OM:Str} {Px:List (Str × Str × Int × Int × Int × Int)} {OG:Str} {PU:Int} {NT:Int} {Qc:Int} {OO:Int} {OW:Int} {QM:Str} {Rn:Str} {SA:List (Int)} {OI:Str} {Uh:List (Int)} {SI:List (Int)} {Tt:List (Int)} {Rw:List (Int)} {SG:List (Int × Str)} {U6:List (Str × Int)} {Tv:List (Str)} {NQ:Int} {SB:List (Int)} {RN:List (Str)} {QJ:Int} {OL:Str} {OJ:Int} {NP:Int} {P7:Str} {QO:Int} {Nz:Bool} {NH:Int} {Rk:Int} {Rj:Int} {Rp:Str} {Rs:Bool} {Qd:Bool} {Rl:Int} (FN:(s_).length≤cs_) (Eh:(SK).length≤cfc0_c_Suites) (DX:(SC).length≤cfc0_c_Groups) (CV:(Rx).length≤cfc0_c_Chain) (CY:(Rt).length≤cfc0_c_Roots) (yO:(Px).length≤cfc0_c_Psk) (Dp:(SA).length≤cfc0_m_Suites) (F_:(Uh).length≤cfc0_m_Versions) (D9:(SI).length≤cfc0_m_Groups) (Fb:(Tt).length≤cfc0_m_Schemes) (CW:(Rw).length≤cfc0_m_Modes) (DV:(SG).length≤cfc0_m_Shares) (H5:(U6).length≤cfc0_m_Identities) (Fg:(Tv).length≤cfc0_m_Binders) (Da:(SB).length≤cfc0_m_Others) (CQ:(RN).length≤cfc0_m_Certs) {r:Int} (H:Zo s_ QI SK SC Rx Nu Rt OH Rq OM Px OG PU NT Qc OO OW QM Rn SA OI Uh SI Tt Rw SG U6 Tv NQ SB RN QJ OL OJ NP P7 QO Nz NH Rk Rj Rp Rs Qd Rl=some r) :
  Does Tryz.prog 65 [sl As_ ((s_).length) cs_,Value.func (.func 66) #[] #[ptr (some (bfc0,obfc0)) 0]] [] [⟨As_,eF (fun p:Int × Str=>[vi p.1,vs p.2]) s_⟩,⟨some (bfc0,obfc0),[ptr (some (bfc02,obfc02)) 0]⟩,⟨some (bfc02,obfc02),[ptr (some (bfc0_c,obfc0_c)) 0]⟩,⟨some (bfc02,obfc02+1),[ptr (some (bfc0_m,obfc0_m)) 0]⟩,⟨some (bfc02,obfc02+2),[vb Nz]⟩,⟨some (bfc02,obfc02+3),[vi NH]⟩,⟨some (bfc02,obfc02+4),[vi Rk]⟩,⟨some (bfc02,obfc02+5),[vi Rj]⟩,⟨some (bfc02,obfc02+6),[vs Rp]⟩,⟨some (bfc02,obfc02+7),[vb Rs]⟩,⟨some (bfc02,obfc02+8),[vb Qd]⟩,⟨some (bfc02,obfc02+9),[vi Rl]⟩,⟨some (bfc0_c,obfc0_c),[vb QI]⟩,⟨some (bfc0_c,obfc0_c+1),[sl Afc0_c_Suites ((SK).length) cfc0_c_Suites]⟩,⟨some (bfc0_c,obfc0_c+2),[sl Afc0_c_Groups ((SC).length) cfc0_c_Groups]⟩,⟨some (bfc0_c,obfc0_c+3),[sl Afc0_c_Chain ((Rx).length) cfc0_c_Chain]⟩,⟨some (bfc0_c,obfc0_c+4),[vs Nu]⟩,⟨some (bfc0_c,obfc0_c+5),[sl Afc0_c_Roots ((Rt).length) cfc0_c_Roots]⟩,⟨some (bfc0_c,obfc0_c+6),[vs OH]⟩,⟨some (bfc0_c,obfc0_c+7),[vi Rq]⟩,⟨some (bfc0_c,obfc0_c+8),[vs OM]⟩,⟨some (bfc0_c,obfc0_c+9),[sl Afc0_c_Psk ((Px).length) cfc0_c_Psk]⟩,⟨some (bfc0_c,obfc0_c+10),[vs OG]⟩,⟨some (bfc0_c,obfc0_c+11),[vi PU]⟩,⟨some (bfc0_c,obfc0_c+12),[vi NT]⟩,⟨some (bfc0_c,obfc0_c+13),[vi Qc]⟩,⟨some (bfc0_c,obfc0_c+14),[vi OO]⟩,⟨Afc0_c_Suites,eI SK⟩,⟨Afc0_c_Groups,eI SC⟩,⟨Afc0_c_Chain,eS Rx⟩,⟨Afc0_c_Roots,eS Rt⟩,⟨Afc0_c_Psk,eF (fun p:Str × Str × Int × Int × Int × Int=>[vs p.1,vs p.2.1,vi p.2.2.1,vi p.2.2.2.1,vi p.2.2.2.2.1,vi p.2.2.2.2.2]) Px⟩,⟨some (bfc0_m,obfc0_m),[vi OW]⟩,⟨some (bfc0_m,obfc0_m+1),[vs QM]⟩,⟨some (bfc0_m,obfc0_m+2),[vs Rn]⟩,⟨some (bfc0_m,obfc0_m+3),[sl Afc0_m_Suites ((SA).length) cfc0_m_Suites]⟩,⟨some (bfc0_m,obfc0_m+4),[vs OI]⟩,⟨some (bfc0_m,obfc0_m+5),[sl Afc0_m_Versions ((Uh).length) cfc0_m_Versions]⟩,⟨some (bfc0_m,obfc0_m+6),[sl Afc0_m_Groups ((SI).length) cfc0_m_Groups]⟩,⟨some (bfc0_m,obfc0_m+7),[sl Afc0_m_Schemes ((Tt).length) cfc0_m_Schemes]⟩,⟨some (bfc0_m,obfc0_m+8),[sl Afc0_m_Modes ((Rw).length) cfc0_m_Modes]⟩,⟨some (bfc0_m,obfc0_m+9),[sl Afc0_m_Shares ((SG).length) cfc0_m_Shares]⟩,⟨some (bfc0_m,obfc0_m+10),[sl Afc0_m_Identities ((U6).length) cfc0_m_Identities]⟩,⟨some (bfc0_m,obfc0_m+11),[sl Afc0_m_Binders ((Tv).length) cfc0_m_Binders]⟩,⟨some (bfc0_m,obfc0_m+12),[vi NQ]⟩,⟨some (bfc0_m,obfc0_m+13),[sl Afc0_m_Others ((SB).length) cfc0_m_Others]⟩,⟨some (bfc0_m,obfc0_m+14),[sl Afc0_m_Certs ((RN).length) cfc0_m_Certs]⟩,⟨some (bfc0_m,obfc0_m+15),[vi QJ]⟩,⟨some (bfc0_m,obfc0_m+16),[vs OL]⟩,⟨some (bfc0_m,obfc0_m+17),[vi OJ]⟩,⟨some (bfc0_m,obfc0_m+18),[vi NP]⟩,⟨some (bfc0_m,obfc0_m+19),[vs P7]⟩,⟨some (bfc0_m,obfc0_m+20),[vi QO]⟩,⟨Afc0_m_Suites,eI SA⟩,⟨Afc0_m_Versions,eI Uh⟩,⟨Afc0_m_Groups,eI SI⟩,⟨Afc0_m_Schemes,eI Tt⟩,⟨Afc0_m_Modes,eI Rw⟩,⟨Afc0_m_Shares,eF (fun p:Int × Str=>[vi p.1,vs p.2]) SG⟩,⟨Afc0_m_Identities,eF (fun p:Str × Int=>[vs p.1,vi p.2]) U6⟩,⟨Afc0_m_Binders,eS Tv⟩,⟨Afc0_m_Others,eI SB⟩,⟨Afc0_m_Certs,eS RN⟩] (Γ:=Unit) (fun g=>vi r) (fun g=>[]):=by
 intro w hmem hro hd
 refine Zn func65 rfl ntmps65 rfl hmem hro hd ?_
 unfold Zo at H
 refine Z_ (Y2 ?_)
 refine Z6 (ZY (Z_ (YP ?_)))
 refine ZV (ZG rfl underlying27) ?_
 refine YP ?_
 refine Z6 (ZP ?_)
 have ⟨Yw,Hl,H⟩:=Z9 H
 refine Wz [0,1,7,8] [] rfl rfl ?_
 refine U0 (id:=0) (body:=(Zo.b0 s_ QI SK SC Rx Nu Rt OH Rq OM Px OG PU NT Qc OO OW QM Rn SA OI Uh SI Tt Rw SG U6 Tv NQ SB RN QJ OL OJ NP P7 QO Nz NH Rk Rj Rp Rs Qd Rl)) (σ:=Int) (Γ:=Unit) (Γx:=Unit) (fun s0 WG=>[(0,sl As_ ((s_).length) cs_),(1,Value.func (.func 66) #[] #[ptr (some (bfc0,obfc0)) 0]),(7,vi ((s_).length:Int)),(8,vi s0)]) (fun s0 WG=>[]) (fun t g=>[]) (fun t g=>[]) r ?_ BIG 0 () Yw Hl ?_
 ·intro s0 WG r1 H K hK hE MK
  unfold Zo.b0 at H
  refine Z_ (ZV (ZT WV) ?_)
  refine Z6 (ZY (UK H (fun hc H=>?_) (fun hc H=>?_)))
  ·refine ZN (Z7 (ZY (ZP (Z_ (Zj 2 rfl ?_)))))
   refine Z6 (Z_ (Zj 3 rfl ?_))
   have ⟨h1,H⟩:=Z4 H
   refine ZV (YK (i:=s0) rfl rfl underlying27 Rv rfl (.r 0) (VC (s:=2) (fun _=>rfl) rfl (tl h1)) h1.1 h1.2 (k:=((s0).toNat) * 2) rfl) ?_
   refine ZV (UE (n:=2) (ds:=[vi ((lg s_ ((s0).toNat)).1),vs ((lg s_ ((s0).toNat)).2)]) rfl (.r 0) (RJ (g:=fun p:Int × Str=>[vi p.1,vs p.2]) (s:=2) (fun _=>rfl) s_ ((s0).toNat) (tl h1)) rfl rfl isAgg50 Rv rfl) ?_
   have ⟨Zu,Yk,H⟩:=Z9 H
   refine YE (Cg (vs:=[aG [(1,[vi ((lg s_ ((s0).toNat)).1)]),(1,[vs ((lg s_ ((s0).toNat)).2)])]]) (cap:=[ptr (some (bfc0,obfc0)) 0]) (oM Eh DX CV CY yO Dp F_ D9 Fb CW DV H5 Fg Da CQ Yk :) call66 ⟨.r 1, .r 2, .r 3, .r 4, .r 5, .r 6, .r 7, .r 8, .r 9, .r 10, .r 11, .r 12, .r 13, .r 14, .r 15, .r 16, .r 17, .r 18, .r 19, .r 20, .r 21, .r 22, .r 23, .r 24, .r 25, .r 26, .r 27, .r 28, .r 29, .r 30, .r 31, .r 32, .r 33, .r 34, .r 35, .r 36, .r 37, .r 38, .r 39, .r 40, .r 41, .r 42, .r 43, .r 44, .r 45, .r 46, .r 47, .r 48, .r 49, .r 50, .r 51, .r 52, .r 53, .r 54, .r 55, .r 56, .r 57, .r 58, .r 59, .r 60, .r 61, .r 62,trivial⟩) (fun Re=>?_)
   refine Z6 (Sn H (fun hc H=>?_) (fun hc H=>?_))
   ·refine Z_ (Zj 2 rfl ?_)
    refine Zq (ZE (ZZ (ZZ (ZE (ZZ ?_)))))
    have M3:=(MK _ (Option.some.inj H).symm)
    subst M3
    exact Wj
   refine ZN (ZW (Z7 (ZH (ZV (ZT XN) ?_))))
   refine YP ?_
   refine ZK ?_
   obtain rfl:=sj H
   exact Ri [] (hK (ZJ (s0+1)) rfl ())
  refine YW (Z0 (Z0 ?_))
  obtain rfl:=sj H
  exact WW [] (hE () rfl ())
 rcases Yw with Yw | rv
 ·intro Fe
  dsimp only at H
  refine ZL (Z7 (Z_ (Y2 ?_)))
  refine Zq ?_
  obtain rfl:=sj H
  exact Wj
 exact (Option.some.inj H)
def Yg (s_:List (Int × Str)) (RX:Int) (UJ:Str):Option (Bool) :=
 (Zl s_ RX UJ).bind fun Zu=>(X5 (decide (0≤Zu)) fun x1=>(some x1))
theorem F8 {As_:Y6} {cs_:Nat} {bfc0:Nat} {obfc0:Nat} {s_:List (Int × Str)} {RX:Int} {UJ:Str} (FN:(s_).length≤cs_) {r:Bool} (H:Yg s_ RX UJ=some r) :
  Does Tryz.prog 63 [sl As_ ((s_).length) cs_,Value.func (.func 64) #[] #[ptr (some (bfc0,obfc0)) 0]] [] [⟨As_,eF (fun p:Int × Str=>[vi p.1,vs p.2]) s_⟩,⟨some (bfc0,obfc0),[vi RX]⟩,⟨some (bfc0,obfc0+1),[vs UJ]⟩] (Γ:=Unit) (fun g=>vb r) (fun g=>[]):=by
 intro w hmem hro hd
 refine Zn func63 rfl ntmps63 rfl hmem hro hd ?_
 unfold Yg at H
 refine Z_ (Y2 ?_)
 refine Z6 (Z_ (Zj 2 rfl ?_))
 have ⟨Zu,Yk,H⟩:=Z9 H
 refine YE (Y4 (FK FN Yk :) call65 ⟨.r 0, .r 1, .r 2,trivial⟩) (fun Re=>?_)
 refine ZV (ZT LD) ?_
 refine Y2 ?_
 have ⟨x1,TK,H⟩:=ZX H
 refine WN 4 (congrArg vb TK) ?_
 refine Zq ?_
 obtain rfl:=sj H
 exact Wj
def X3.b0 (WI:List (Int)) (YU:List (Int × Str)) (Xf:Str) (Xa:Bool) (Zu:Int × Bool) (s0:Int):Option ((Int) ⊕ ((Unit) ⊕ (Int × Int × Str × Bool))) :=
 if s0<((YU).length:Int) then (if 0≤s0∧s0<((YU).length:Int) then (if 0≤s0 then (if (s0).toNat≤(YU).length then (if (s0).toNat≤(YU).length then (if (s0).toNat≤(YU).length then ((Yg (PH YU 0 ((s0).toNat)) ((lg YU ((s0).toNat)).1) ((lg YU ((s0).toNat)).2)).bind fun YJ=>(if YJ=true then (some (.inr (.inr (47,Zu.1,Xf,Xa)))) else ((Yi WI ((lg YU ((s0).toNat)).1)).bind fun X7=>(if (!X7)=true then (some (.inr (.inr (47,Zu.1,Xf,Xa)))) else (some (.inl (ZJ (s0+1)))))))) else none) else none) else none) else none) else none) else (some (.inr (.inl ())))
def X3 (Uo:Bool) (VK VN:List (Int)) (Ve:List (Str)) (Qo:Str) (Vf:List (Str)) (RP:Str) (UQ:Int) (RD:Str) (Tk:List (Str × Str × Int × Int × Int × Int)) (RO:Str) (Tf Qn:Int) (Tj RB RF:Int) (Ua UR:Str) (VL:List (Int)) (Ru:Str) (WX WI:List (Int)) (Wy Vo:List (Int)) (YU:List (Int × Str)) (XM:List (Str × Int)) (V5:List (Str)) (Qq:Int) (VA:List (Int)) (Vh:List (Str)) (Ub:Int) (Rz:Str) (RI Qk:Int) (Te:Str) (Ui:Int) (Qm:Bool) (R8 UT Tq:Int) (Xf:Str) (Xa TV:Bool) (UA:Int):Option (Int × Int × Str × Bool) :=
 (Va VN WI).bind fun Zu=>(if (!Zu.2)=true then (some (40,Zu.1,Xf,Xa)) else ((loop (X3.b0 WI YU Xf Xa Zu) BIG 0).bind fun Yw=>(match Yw with | .inl Yw=>(if Qm=true then (if ((YU).length:Int) ≠ 1 then (some (47,Zu.1,Xf,Xa)) else (if 0≤(0:Int)∧(0:Int)<((YU).length:Int) then (if ((lg YU 0).1) ≠ R8 then (some (47,Zu.1,Xf,Xa)) else ((Zo YU Uo VK VN Ve Qo Vf RP UQ RD Tk RO Tf Qn Tj RB RF Ua UR VL Ru WX WI Wy Vo YU XM V5 Qq VA Vh Ub Rz RI Qk Te Ui Qm R8 UT R8 Xf Xa TV UA).bind fun Xu=>(if (!(decide (Xu<0)))=true then (if 0≤Xu∧Xu<((YU).length:Int) then (some ((-1),R8,(lg YU ((Xu).toNat)).2,decide (Xu<0))) else none) else (some ((-1),R8,Xf,decide (Xu<0)))))) else none)) else ((Zo YU Uo VK VN Ve Qo Vf RP UQ RD Tk RO Tf Qn Tj RB RF Ua UR VL Ru WX WI Wy Vo YU XM V5 Qq VA Vh Ub Rz RI Qk Te Ui Qm R8 UT Zu.1 Xf Xa TV UA).bind fun UC=>(if (!(decide (UC<0)))=true then (if 0≤UC∧UC<((YU).length:Int) then (some ((-1),Zu.1,(lg YU ((UC).toNat)).2,decide (UC<0))) else none) else (some ((-1),Zu.1,Xf,decide (UC<0)))))) | .inr rv=>some rv)))
theorem pX {ba:Nat} {oba:Nat} {ba_c:Nat} {oba_c:Nat} {Aa_c_Suites:Y6} {ca_c_Suites:Nat} {Aa_c_Groups:Y6} {ca_c_Groups:Nat} {Aa_c_Chain:Y6} {ca_c_Chain:Nat} {Aa_c_Roots:Y6} {ca_c_Roots:Nat} {Aa_c_Psk:Y6} {ca_c_Psk:Nat} {ba_m:Nat} {oba_m:Nat} {Aa_m_Suites:Y6} {ca_m_Suites:Nat} {Aa_m_Versions:Y6} {ca_m_Versions:Nat} {Aa_m_Groups:Y6} {ca_m_Groups:Nat} {Aa_m_Schemes:Y6} {ca_m_Schemes:Nat} {Aa_m_Modes:Y6} {ca_m_Modes:Nat} {Aa_m_Shares:Y6} {ca_m_Shares:Nat} {Aa_m_Identities:Y6} {ca_m_Identities:Nat} {Aa_m_Binders:Y6} {ca_m_Binders:Nat} {Aa_m_Others:Y6} {ca_m_Others:Nat} {Aa_m_Certs:Y6} {ca_m_Certs:Nat} {Uo:Bool} {VK:List (Int)} {VN:List (Int)} {Ve:List (Str)} {Qo:Str} {Vf:List (Str)} {RP:Str} {UQ:Int} {RD:Str} {Tk:List (Str × Str × Int × Int × Int × Int)} {RO:Str} {Tf:Int} {Qn:Int} {Tj:Int} {RB:Int} {RF:Int} {Ua:Str} {UR:Str} {VL:List (Int)} {Ru:Str} {WX:List (Int)} {WI:List (Int)} {Wy:List (Int)} {Vo:List (Int)} {YU:List (Int × Str)} {XM:List (Str × Int)} {V5:List (Str)} {Qq:Int} {VA:List (Int)} {Vh:List (Str)} {Ub:Int} {Rz:Str} {RI:Int} {Qk:Int} {Te:Str} {Ui:Int} {Qm:Bool} {R8:Int} {UT:Int} {Tq:Int} {Xf:Str} {Xa:Bool} {TV:Bool} {UA:Int} (PN:(VK).length≤ca_c_Suites) (PM:(VN).length≤ca_c_Groups) (Nn:(Ve).length≤ca_c_Chain) (Na:(Vf).length≤ca_c_Roots) (KY:(Tk).length≤ca_c_Psk) (PE:(VL).length≤ca_m_Suites) (Q3:(WX).length≤ca_m_Versions) (QF:(WI).length≤ca_m_Groups) (Qu:(Wy).length≤ca_m_Schemes) (Np:(Vo).length≤ca_m_Modes) (Tx:(YU).length≤ca_m_Shares) (Q4:(XM).length≤ca_m_Identities) (Pf:(V5).length≤ca_m_Binders) (Ol:(VA).length≤ca_m_Others) (Ng:(Vh).length≤ca_m_Certs) {r:Int × Int × Str × Bool} (H:X3 Uo VK VN Ve Qo Vf RP UQ RD Tk RO Tf Qn Tj RB RF Ua UR VL Ru WX WI Wy Vo YU XM V5 Qq VA Vh Ub Rz RI Qk Te Ui Qm R8 UT Tq Xf Xa TV UA=some r) :
  Does Tryz.prog 31 [ptr (some (ba,oba)) 0] [⟨some (ba,oba+5),[vi Tq]⟩,⟨some (ba,oba+6),[vs Xf]⟩,⟨some (ba,oba+7),[vb Xa]⟩] [⟨some (ba,oba),[ptr (some (ba_c,oba_c)) 0]⟩,⟨some (ba,oba+1),[ptr (some (ba_m,oba_m)) 0]⟩,⟨some (ba,oba+2),[vb Qm]⟩,⟨some (ba,oba+3),[vi R8]⟩,⟨some (ba,oba+4),[vi UT]⟩,⟨some (ba,oba+8),[vb TV]⟩,⟨some (ba,oba+9),[vi UA]⟩,⟨some (ba_c,oba_c),[vb Uo]⟩,⟨some (ba_c,oba_c+1),[sl Aa_c_Suites ((VK).length) ca_c_Suites]⟩,⟨some (ba_c,oba_c+2),[sl Aa_c_Groups ((VN).length) ca_c_Groups]⟩,⟨some (ba_c,oba_c+3),[sl Aa_c_Chain ((Ve).length) ca_c_Chain]⟩,⟨some (ba_c,oba_c+4),[vs Qo]⟩,⟨some (ba_c,oba_c+5),[sl Aa_c_Roots ((Vf).length) ca_c_Roots]⟩,⟨some (ba_c,oba_c+6),[vs RP]⟩,⟨some (ba_c,oba_c+7),[vi UQ]⟩,⟨some (ba_c,oba_c+8),[vs RD]⟩,⟨some (ba_c,oba_c+9),[sl Aa_c_Psk ((Tk).length) ca_c_Psk]⟩,⟨some (ba_c,oba_c+10),[vs RO]⟩,⟨some (ba_c,oba_c+11),[vi Tf]⟩,⟨some (ba_c,oba_c+12),[vi Qn]⟩,⟨some (ba_c,oba_c+13),[vi Tj]⟩,⟨some (ba_c,oba_c+14),[vi RB]⟩,⟨Aa_c_Suites,eI VK⟩,⟨Aa_c_Groups,eI VN⟩,⟨Aa_c_Chain,eS Ve⟩,⟨Aa_c_Roots,eS Vf⟩,⟨Aa_c_Psk,eF (fun p:Str × Str × Int × Int × Int × Int=>[vs p.1,vs p.2.1,vi p.2.2.1,vi p.2.2.2.1,vi p.2.2.2.2.1,vi p.2.2.2.2.2]) Tk⟩,⟨some (ba_m,oba_m),[vi RF]⟩,⟨some (ba_m,oba_m+1),[vs Ua]⟩,⟨some (ba_m,oba_m+2),[vs UR]⟩,⟨some (ba_m,oba_m+3),[sl Aa_m_Suites ((VL).length) ca_m_Suites]⟩,⟨some (ba_m,oba_m+4),[vs Ru]⟩,⟨some (ba_m,oba_m+5),[sl Aa_m_Versions ((WX).length) ca_m_Versions]⟩,⟨some (ba_m,oba_m+6),[sl Aa_m_Groups ((WI).length) ca_m_Groups]⟩,⟨some (ba_m,oba_m+7),[sl Aa_m_Schemes ((Wy).length) ca_m_Schemes]⟩,⟨some (ba_m,oba_m+8),[sl Aa_m_Modes ((Vo).length) ca_m_Modes]⟩,⟨some (ba_m,oba_m+9),[sl Aa_m_Shares ((YU).length) ca_m_Shares]⟩,⟨some (ba_m,oba_m+10),[sl Aa_m_Identities ((XM).length) ca_m_Identities]⟩,⟨some (ba_m,oba_m+11),[sl Aa_m_Binders ((V5).length) ca_m_Binders]⟩,⟨some (ba_m,oba_m+12),[vi Qq]⟩,⟨some (ba_m,oba_m+13),[sl Aa_m_Others ((VA).length) ca_m_Others]⟩,⟨some (ba_m,oba_m+14),[sl Aa_m_Certs ((Vh).length) ca_m_Certs]⟩,⟨some (ba_m,oba_m+15),[vi Ub]⟩,⟨some (ba_m,oba_m+16),[vs Rz]⟩,⟨some (ba_m,oba_m+17),[vi RI]⟩,⟨some (ba_m,oba_m+18),[vi Qk]⟩,⟨some (ba_m,oba_m+19),[vs Te]⟩,⟨some (ba_m,oba_m+20),[vi Ui]⟩,⟨Aa_m_Suites,eI VL⟩,⟨Aa_m_Versions,eI WX⟩,⟨Aa_m_Groups,eI WI⟩,⟨Aa_m_Schemes,eI Wy⟩,⟨Aa_m_Modes,eI Vo⟩,⟨Aa_m_Shares,eF (fun p:Int × Str=>[vi p.1,vs p.2]) YU⟩,⟨Aa_m_Identities,eF (fun p:Str × Int=>[vs p.1,vi p.2]) XM⟩,⟨Aa_m_Binders,eS V5⟩,⟨Aa_m_Others,eI VA⟩,⟨Aa_m_Certs,eS Vh⟩] (Γ:=Unit) (fun g=>vi r.1) (fun g=>[⟨some (ba,oba+5),[vi r.2.1]⟩,⟨some (ba,oba+6),[vs r.2.2.1]⟩,⟨some (ba,oba+7),[vb r.2.2.2]⟩]):=by
 intro w hmem hro hd
 refine Zn func31 rfl ntmps31 rfl hmem hro hd ?_
 unfold X3 at H
 refine Z_ (YE (UN [(1,[ptr (some (ba,oba)) 0])] rfl rfl ⟨rfl,trivial⟩) (fun b1=>?_))
 refine Y2 ?_
 refine Z6 (Z_ (Y2 ?_))
 refine Z6 (ZY (ZY ?_))
 have ⟨Zu,Yk,H⟩:=Z9 H
 refine U3 [0,1,1] 23 rfl ?_
 refine Zz 0 rfl (Z8 rfl (.o 0) rfl isAgg70) ?_
 refine Zz 1 rfl (Z8 rfl (.o 0) rfl isAgg70) ?_
 refine YA 0 2 rfl ?_
 refine Zz 3 rfl (ZQ 0 underlying74 lY) ?_
 refine Zz 4 rfl (Z8 rfl (.r 0) rfl isAgg71) ?_
 refine YA 0 5 rfl ?_
 refine Zz 6 rfl (ZQ 2 underlying26 XO) ?_
 refine Zz 7 rfl (Z8 rfl (.r 9) rfl isAgg22) ?_
 refine Zz 8 rfl (Z8 rfl (.o 0) rfl isAgg70) ?_
 refine YA 0 9 rfl ?_
 refine Zz 10 rfl (ZQ 1 underlying74 OB) ?_
 refine Zz 11 rfl (Z8 rfl (.r 1) rfl isAgg72) ?_
 refine YA 0 12 rfl ?_
 refine Zz 13 rfl (ZQ 6 underlying30 XO) ?_
 refine Zz 14 rfl (Z8 rfl (.r 33) rfl isAgg22) ?_
 refine Tm 15 [0,1,1] rfl (Y4 (Bt PM QF Yk :) call61 ⟨.r 23, .r 50,trivial⟩) (fun _=>rfl) (fun Re=>?_)
 refine YA 3 16 rfl ?_
 refine Zz 20 rfl (ZQ 4 underlying74 XE) ?_
 refine Zz 21 rfl (ZQ 1 underlying34 YM) ?_
 refine Qh 22 [0,1,1] rfl (YR (j:=1) rfl rfl YM rfl rfl rfl (Nat.lt_succ_self 0) (cs':=[vi Zu.1]) rfl) (fun _=>rfl) (fun _=>?_)
 refine xH 23 rfl (XL rfl) ?_
 refine Vi ?_
 refine Z7 (Z_ (YP ?_))
 refine ZV (UF T_) ?_
 refine Z6 (Sn H (fun hc H=>?_) (fun hc H=>?_))
 ·refine Z_ (Y2 ?_)
  refine Zq (ZZ ?_)
  obtain rfl:=sj H
  exact JK () [1,1,1] (vs:=[_]) rfl ⟨rfl,trivial⟩ rfl
 refine ZN (Z7 (ZY (Z_ (ZV (Z8 rfl (.o 0) rfl isAgg70) ?_))))
 refine ZV (Zh rfl) ?_
 refine ZV (ZQ 1 underlying74 OB) ?_
 refine ZV (Z8 rfl (.r 1) rfl isAgg72) ?_
 refine ZV (Zh rfl) ?_
 refine ZV (ZQ 9 underlying30 QR) ?_
 refine ZV (Z8 rfl (.r 36) rfl isAgg27) ?_
 refine ZV (ZG rfl underlying27) ?_
 refine YP ?_
 refine Z6 (Wz [1,38,39,40] [1,1,1,0] rfl rfl ?_)
 refine ZP ?_
 have ⟨Yw,Hl,H⟩:=Z9 H
 refine Wz [1,38,39,40] [0,0,0,0] rfl rfl ?_
 refine U0 (id:=0) (body:=(X3.b0 WI YU Xf Xa Zu)) (σ:=Int) (Γ:=Unit) (Γx:=Unit) (fun s0 WG=>[(1,ptr (some (b1,0)) 0),(38,sl Aa_m_Shares ((YU).length) ca_m_Shares),(39,vi ((YU).length:Int)),(40,vi s0)]) (fun s0 WG=>[⟨some (ba,oba+5),[vi Zu.1]⟩,⟨some (ba,oba+6),[vs Xf]⟩,⟨some (ba,oba+7),[vb Xa]⟩,⟨some (b1,0),[ptr (some (ba,oba)) 0]⟩]) (fun t g=>[(1,ptr (some (b1,0)) 0)]) (fun t g=>[⟨some (ba,oba+5),[vi Zu.1]⟩,⟨some (ba,oba+6),[vs Xf]⟩,⟨some (ba,oba+7),[vb Xa]⟩,⟨some (b1,0),[ptr (some (ba,oba)) 0]⟩]) r ?_ BIG 0 () Yw Hl ?_
 ·intro s0 WG r1 H K hK hE MK
  unfold X3.b0 at H
  refine Z_ (ZV (ZT WV) ?_)
  refine Z6 (ZY (UK H (fun hc H=>?_) (fun hc H=>?_)))
  ·refine ZN (Z7 (ZY (ZP (Z_ (YP ?_)))))
   have ⟨h1,H⟩:=Z4 H
   refine ZV (YK (i:=s0) rfl rfl underlying27 Rv rfl (.r 53) (VC (s:=2) (fun _=>rfl) rfl (tl h1)) h1.1 h1.2 (k:=((s0).toNat) * 2) rfl) ?_
   refine ZV (UE (n:=2) (ds:=[vi ((lg YU ((s0).toNat)).1),vs ((lg YU ((s0).toNat)).2)]) rfl (.r 53) (RJ (g:=fun p:Int × Str=>[vi p.1,vs p.2]) (s:=2) (fun _=>rfl) YU ((s0).toNat) (tl h1)) rfl rfl isAgg50 Rv rfl) ?_
   refine YE (Wh [(1,[vi 0]),(1,[vs ([]:Str)])] Rv CG ⟨rfl,rfl,trivial⟩) (fun b2=>?_)
   refine Y2 ?_
   refine VM (za (b:=b2) (o:=0) (ns:=[(1,[vi ((lg YU ((s0).toNat)).1)]),(1,[vs ((lg YU ((s0).toNat)).2)])]) [0,0] [(1,_),(1,_)] rfl Rv) (fun _=>?_)
   refine Z6 (Z_ (ZV (Z8 rfl (.o 5) rfl isAgg70) ?_))
   refine ZV (Zh rfl) ?_
   refine ZV (ZQ 1 underlying74 OB) ?_
   refine ZV (Z8 rfl (.r 1) rfl isAgg72) ?_
   refine ZV (Zh rfl) ?_
   refine ZV (ZQ 9 underlying30 QR) ?_
   refine ZV (Z8 rfl (.r 36) rfl isAgg27) ?_
   refine YP ?_
   have ⟨h2,H⟩:=Z4 H
   have ⟨h3,H⟩:=Z4 H
   refine ZV (KE (l:=0) (h:=(s0).toNat) rfl underlying27 Rv rfl OZ.none' (OZ.some' (i:=s0) rfl h2) (Nat.zero_le _) (Nat.le_trans h3 Tx)) ?_
   refine ZV (Kk rfl) ?_
   have ⟨h4,H⟩:=Z4 H
   have ⟨h5,H⟩:=Z4 H
   refine WN 53 (congrArg (fun n=>sl (R5 Aa_m_Shares ca_m_Shares 0 0 2) n (ca_m_Shares - 0)) (TP h5).symm) ?_
   have ⟨YJ,X6,H⟩:=Z9 H
   refine YE (Y4 (F8 (EW h4 (Nat.le_trans h3 Tx)) X6 :) call63 ⟨(iR (g:=fun p:Int × Str=>[vi p.1,vs p.2]) (s:=2) (fun _=>rfl) (Db:=YU) (QH.ro (j:=53) rfl) (Nat.le_trans h3 Tx)), .o 0, .o 1,trivial⟩) (fun UD=>?_)
   refine WN 53 (congrArg (fun n=>sl (R5 Aa_m_Shares ca_m_Shares 0 0 2) n (ca_m_Shares - 0)) (TP h5)) ?_
   refine Y2 ?_
   refine Z6 (ZY (UI YJ (fun yH=>?_) (fun yH=>?_)))
   ·replace H:=U8 yH H
    refine U3 [0,0,0,0,0,0] 14 rfl ?_
    refine YA 1 0 rfl ?_
    refine Xb 57 (congrArg vb yH) ?_
    refine YA 11 2 rfl ?_
    refine Vi ?_
    refine Z7 (Wz [1,38,39,40,69] [2,2,2,2] rfl rfl ?_)
    refine VI rfl ?_
    refine Z_ (Y2 ?_)
    refine Zq (ZE (ZZ (ZZ (ZE (ZZ ?_)))))
    have M3:=(MK _ (Option.some.inj H).symm)
    subst M3
    exact JK () [0,0,0] (vs:=[_]) rfl ⟨rfl,trivial⟩ rfl
   replace H:=U7 (Bool.eq_false_iff.1 yH) H
   have ⟨X7,Vt,H⟩:=Z9 H
   refine U3 [0,0,0,0,0,0] 14 rfl ?_
   refine YA 1 0 rfl ?_
   refine Xb 57 (congrArg vb yH) ?_
   refine Zz 2 rfl (Z8 rfl (.o 5) rfl isAgg70) ?_
   refine YA 0 3 rfl ?_
   refine Zz 4 rfl (ZQ 1 underlying74 OB) ?_
   refine Zz 5 rfl (Z8 rfl (.r 1) rfl isAgg72) ?_
   refine YA 0 6 rfl ?_
   refine Zz 7 rfl (ZQ 6 underlying30 XO) ?_
   refine Zz 8 rfl (Z8 rfl (.r 33) rfl isAgg22) ?_
   refine Zz 9 rfl (ZQ 0 underlying50 YM) ?_
   refine Zz 10 rfl (Z8 rfl (.o 0) rfl isAgg3) ?_
   refine Tm 11 [0,0,0,0,0,0] rfl (Y4 (Sw QF Vt :) call62 ⟨.r 50,trivial⟩) (fun _=>rfl) (fun Pm=>?_)
   refine Zz 12 rfl (UF T_) ?_
   refine YA 0 13 rfl ?_
   refine Vi ?_
   refine Z7 (Wz [1,38,39,40,69] [2,2,2,2] rfl rfl ?_)
   refine Sn H (fun hc H=>?_) (fun hc H=>?_)
   ·refine Z_ (Y2 ?_)
    refine Zq (ZE (ZZ (ZZ (ZE (ZZ ?_)))))
    have M3:=(MK _ (Option.some.inj H).symm)
    subst M3
    exact JK () [0,0,0] (vs:=[_]) rfl ⟨rfl,trivial⟩ rfl
   refine ZN (ZW (Z7 (ZH (ZV (ZT XN) ?_))))
   refine YP ?_
   refine ZK ?_
   obtain rfl:=sj H
   exact Ri [0,0,0,0] (hK (ZJ (s0+1)) rfl ())
  refine YW (Z0 (Z0 ?_))
  obtain rfl:=sj H
  exact WW [0,0,0,0] (hE () rfl ())
 rcases Yw with Yw | rv
 ·intro Fe
  dsimp only at H
  refine ZL (Z7 (ZY (Z_ (ZV (Z8 rfl (.o 3) rfl isAgg70) ?_))))
  refine ZV (Zh rfl) ?_
  refine ZV (ZQ 2 underlying74 MS) ?_
  refine ZV (Z8 rfl (.r 2) rfl isAgg4) ?_
  refine Z6 (Sn H (fun hc H=>?_) (fun hc H=>?_))
  ·refine ZY (ZY (UI (decide (((YU).length:Int) ≠ 1)) (fun Gy=>?_) (fun Gy=>?_)))
   ·replace H:=U8 (of_decide_eq_true Gy) H
    refine U3 [0,0,0,0] 26 rfl ?_
    refine Zz 0 rfl (Z8 rfl (.o 3) rfl isAgg70) ?_
    refine YA 0 1 rfl ?_
    refine Zz 2 rfl (ZQ 1 underlying74 OB) ?_
    refine Zz 3 rfl (Z8 rfl (.r 1) rfl isAgg72) ?_
    refine YA 0 4 rfl ?_
    refine Zz 5 rfl (ZQ 9 underlying30 QR) ?_
    refine Zz 6 rfl (Z8 rfl (.r 36) rfl isAgg27) ?_
    refine Zz 7 rfl (ZG rfl underlying27) ?_
    refine Zz 8 rfl (ZT SN) ?_
    refine YA 0 9 rfl ?_
    refine Xb 84 (congrArg vb Gy) ?_
    refine YA 15 10 rfl ?_
    refine Vi ?_
    refine Z7 (Wz [1,100] [0,0,0,0] rfl rfl ?_)
    refine VI rfl ?_
    refine Z_ (Y2 ?_)
    refine Zq (ZZ (ZZ ?_))
    obtain rfl:=sj H
    exact JK () [0,0,0] (vs:=[_]) rfl ⟨rfl,trivial⟩ rfl
   replace H:=U7 (of_decide_eq_false Gy) H
   have ⟨h6,H⟩:=Z4 H
   refine U3 [0,0,0,0] 26 rfl ?_
   refine Zz 0 rfl (Z8 rfl (.o 3) rfl isAgg70) ?_
   refine YA 0 1 rfl ?_
   refine Zz 2 rfl (ZQ 1 underlying74 OB) ?_
   refine Zz 3 rfl (Z8 rfl (.r 1) rfl isAgg72) ?_
   refine YA 0 4 rfl ?_
   refine Zz 5 rfl (ZQ 9 underlying30 QR) ?_
   refine Zz 6 rfl (Z8 rfl (.r 36) rfl isAgg27) ?_
   refine Zz 7 rfl (ZG rfl underlying27) ?_
   refine Zz 8 rfl (ZT SN) ?_
   refine YA 0 9 rfl ?_
   refine Xb 84 (congrArg vb Gy) ?_
   refine Zz 10 rfl (Z8 rfl (.o 3) rfl isAgg70) ?_
   refine YA 0 11 rfl ?_
   refine Zz 12 rfl (ZQ 1 underlying74 OB) ?_
   refine Zz 13 rfl (Z8 rfl (.r 1) rfl isAgg72) ?_
   refine YA 0 14 rfl ?_
   refine Zz 15 rfl (ZQ 9 underlying30 QR) ?_
   refine Zz 16 rfl (Z8 rfl (.r 36) rfl isAgg27) ?_
   refine Zz 17 rfl (YK (i:=0) rfl rfl underlying27 Rv rfl (.r 53) (VC (s:=2) (fun _=>rfl) rfl (tl h6)) h6.1 h6.2 (k:=0 * 2) rfl) ?_
   refine Zz 18 rfl (Vk rfl underlying50 rfl (k:=0) rfl YM rfl) ?_
   refine Zz 19 rfl (Z8 rfl (.r 53) ((UM (g:=fun p:Int × Str=>[vi p.1,vs p.2]) (s:=2) (fun _=>rfl) YU 0 0 (tl h6) (by decide:0<2)).trans rfl) isAgg3) ?_
   refine Zz 20 rfl (Z8 rfl (.o 3) rfl isAgg70) ?_
   refine YA 0 21 rfl ?_
   refine Zz 22 rfl (ZQ 3 underlying74 YM) ?_
   refine Zz 23 rfl (Z8 rfl (.r 3) rfl isAgg3) ?_
   refine Zz 24 rfl (ZT SN) ?_
   refine YA 0 25 rfl ?_
   refine Vi ?_
   refine Z7 (Wz [1,100] [0,0,0,0] rfl rfl ?_)
   refine UK H (fun hc H=>?_) (fun hc H=>?_)
   ·refine Z_ (Y2 ?_)
    refine Zq (ZZ (ZZ ?_))
    obtain rfl:=sj H
    exact JK () [0,0,0] (vs:=[_]) rfl ⟨rfl,trivial⟩ rfl
   refine ZN (Z7 (U3 [] 9 rfl ?_))
   refine PX 1 [] (.v 0 [] rfl rfl (Z8 rfl (.o 3) rfl isAgg70) (.v 1 [] rfl rfl (Z8 rfl (.o 3) rfl isAgg70) (.v 2 [1] rfl rfl (Zh rfl) (.v 3 [2] rfl rfl (ZQ 3 underlying74 YM) (.v 4 [3] rfl rfl (Z8 rfl (.r 3) rfl isAgg3) (.v 5 [0] rfl rfl (Zh rfl) (.v 6 [5] rfl rfl (ZQ 4 underlying74 XE) (.v 7 [6] rfl rfl (ZQ 1 underlying34 YM) .nil)))))))) (fun γ=>?_)
   refine Qj [108,105,1] rfl rfl ?_
   refine Qh 8 [] rfl (YR (j:=0) rfl rfl YM rfl rfl rfl (Nat.lt_succ_self 0) (cs':=[vi R8]) rfl) (fun _=>rfl) (fun _=>?_)
   refine Vi ?_
   refine Z7 (Z_ (ZV (Z8 rfl (.o 3) rfl isAgg70) ?_))
   refine ZV (Zh rfl) ?_
   refine ZV (ZQ 1 underlying74 OB) ?_
   refine ZV (Z8 rfl (.r 1) rfl isAgg72) ?_
   refine ZV (Zh rfl) ?_
   refine ZV (ZQ 9 underlying30 QR) ?_
   refine ZV (Z8 rfl (.r 36) rfl isAgg27) ?_
   refine ZV (Kk rfl) ?_
   have ⟨Xu,UH,H⟩:=Z9 H
   refine YE (Y4 (La Tx PN PM Nn Na KY PE Q3 QF Qu Np Tx Q4 Pf Ol Ng UH :) call65 ⟨.r 53, .o 3, .r 0, .r 1, .r 2, .r 3, .r 4, .o 0, .o 1, .o 2, .r 5, .r 6, .r 7, .r 8, .r 9, .r 10, .r 11, .r 12, .r 13, .r 14, .r 15, .r 16, .r 17, .r 18, .r 19, .r 20, .r 21, .r 22, .r 23, .r 24, .r 25, .r 26, .r 27, .r 28, .r 29, .r 30, .r 31, .r 32, .r 33, .r 34, .r 35, .r 36, .r 37, .r 38, .r 39, .r 40, .r 41, .r 42, .r 43, .r 44, .r 45, .r 46, .r 47, .r 48, .r 49, .r 50, .r 51, .r 52, .r 53, .r 54, .r 55, .r 56, .r 57,trivial⟩) (fun JV=>?_)
   refine Y2 ?_
   refine Z6 (ZY (Z_ (ZV (Z8 rfl (.o 3) rfl isAgg70) ?_)))
   refine YP ?_
   refine ZV (ZT WV) ?_
   refine ZV (Zh rfl) ?_
   refine ZV (ZQ 4 underlying74 XE) ?_
   refine ZV (ZQ 3 underlying34 MS) ?_
   refine VM (YR (j:=2) rfl rfl MS rfl rfl rfl (Nat.lt_succ_self 0) (cs':=[vb (decide (Xu<0))]) rfl) (fun _=>?_)
   refine Z6 (Z_ (ZV (Z8 rfl (.o 3) rfl isAgg70) ?_))
   refine ZV (Zh rfl) ?_
   refine ZV (ZQ 4 underlying74 XE) ?_
   refine ZV (ZQ 3 underlying34 MS) ?_
   refine ZV (Z8 rfl (.o 2) rfl isAgg4) ?_
   refine ZV (UF T_) ?_
   refine Z6 (Sn H (fun hc H=>?_) (fun hc H=>?_))
   ·have ⟨h7,H⟩:=Z4 H
    refine U3 [] 16 rfl ?_
    refine PX 1 [] (.v 0 [] rfl rfl (Z8 rfl (.o 3) rfl isAgg70) (.v 1 [] rfl rfl (Z8 rfl (.o 3) rfl isAgg70) (.v 2 [1] rfl rfl (Zh rfl) (.v 3 [2] rfl rfl (ZQ 1 underlying74 OB) (.v 4 [3] rfl rfl (Z8 rfl (.r 1) rfl isAgg72) (.v 5 [4] rfl rfl (Zh rfl) (.v 6 [5] rfl rfl (ZQ 9 underlying30 QR) (.v 7 [6] rfl rfl (Z8 rfl (.r 36) rfl isAgg27) (.v 8 [] rfl rfl (ZO rfl) (.v 9 [7,8] rfl rfl (YK (i:=Xu) rfl rfl underlying27 Rv rfl (.r 53) (VC (s:=2) (fun _=>rfl) rfl (tl h7)) h7.1 h7.2 (k:=((Xu).toNat) * 2) rfl) (.v 10 [9] rfl rfl (Vk rfl underlying50 rfl (k:=1) rfl Xe rfl) (.v 11 [10] rfl rfl (Z8 rfl (.r 53) ((UM (g:=fun p:Int × Str=>[vi p.1,vs p.2]) (s:=2) (fun _=>rfl) YU ((Xu).toNat) 1 (tl h7) (by decide:1<2)).trans rfl) isAgg9) (.v 12 [0] rfl rfl (Zh rfl) (.v 13 [12] rfl rfl (ZQ 4 underlying74 XE) (.v 14 [13] rfl rfl (ZQ 2 underlying34 Xe) .nil))))))))))))))) (fun γ=>?_)
    refine Qj [144,141] rfl rfl ?_
    refine Qh 15 [] rfl (YR (j:=1) rfl rfl Xe rfl rfl rfl (Nat.lt_succ_self 0) (cs':=[vs ((lg YU ((Xu).toNat)).2)]) rfl) (fun _=>rfl) (fun _=>?_)
    refine Vi ?_
    refine Z7 (Z_ (Y2 ?_))
    refine Zq ?_
    obtain rfl:=sj H
    exact JK () [0,0,0] (vs:=[_]) rfl ⟨rfl,trivial⟩ rfl
   refine ZN (Z7 (Z_ (Y2 ?_)))
   refine Zq ?_
   obtain rfl:=sj H
   exact JK () [0,0,0] (vs:=[_]) rfl ⟨rfl,trivial⟩ rfl
  refine ZN (Z7 (Z_ (ZV (Z8 rfl (.o 3) rfl isAgg70) ?_)))
  refine ZV (Zh rfl) ?_
  refine ZV (ZQ 1 underlying74 OB) ?_
  refine ZV (Z8 rfl (.r 1) rfl isAgg72) ?_
  refine ZV (Zh rfl) ?_
  refine ZV (ZQ 9 underlying30 QR) ?_
  refine ZV (Z8 rfl (.r 36) rfl isAgg27) ?_
  refine ZV (Kk rfl) ?_
  have ⟨UC,Qi,H⟩:=Z9 H
  refine YE (Y4 (La Tx PN PM Nn Na KY PE Q3 QF Qu Np Tx Q4 Pf Ol Ng Qi :) call65 ⟨.r 53, .o 3, .r 0, .r 1, .r 2, .r 3, .r 4, .o 0, .o 1, .o 2, .r 5, .r 6, .r 7, .r 8, .r 9, .r 10, .r 11, .r 12, .r 13, .r 14, .r 15, .r 16, .r 17, .r 18, .r 19, .r 20, .r 21, .r 22, .r 23, .r 24, .r 25, .r 26, .r 27, .r 28, .r 29, .r 30, .r 31, .r 32, .r 33, .r 34, .r 35, .r 36, .r 37, .r 38, .r 39, .r 40, .r 41, .r 42, .r 43, .r 44, .r 45, .r 46, .r 47, .r 48, .r 49, .r 50, .r 51, .r 52, .r 53, .r 54, .r 55, .r 56, .r 57,trivial⟩) (fun zM=>?_)
  refine Y2 ?_
  refine Z6 (ZY (Z_ (ZV (Z8 rfl (.o 3) rfl isAgg70) ?_)))
  refine YP ?_
  refine ZV (ZT WV) ?_
  refine ZV (Zh rfl) ?_
  refine ZV (ZQ 4 underlying74 XE) ?_
  refine ZV (ZQ 3 underlying34 MS) ?_
  refine VM (YR (j:=2) rfl rfl MS rfl rfl rfl (Nat.lt_succ_self 0) (cs':=[vb (decide (UC<0))]) rfl) (fun _=>?_)
  refine Z6 (Z_ (ZV (Z8 rfl (.o 3) rfl isAgg70) ?_))
  refine ZV (Zh rfl) ?_
  refine ZV (ZQ 4 underlying74 XE) ?_
  refine ZV (ZQ 3 underlying34 MS) ?_
  refine ZV (Z8 rfl (.o 2) rfl isAgg4) ?_
  refine ZV (UF T_) ?_
  refine Z6 (Sn H (fun hc H=>?_) (fun hc H=>?_))
  ·have ⟨h8,H⟩:=Z4 H
   refine U3 [] 16 rfl ?_
   refine PX 1 [] (.v 0 [] rfl rfl (Z8 rfl (.o 3) rfl isAgg70) (.v 1 [] rfl rfl (Z8 rfl (.o 3) rfl isAgg70) (.v 2 [1] rfl rfl (Zh rfl) (.v 3 [2] rfl rfl (ZQ 1 underlying74 OB) (.v 4 [3] rfl rfl (Z8 rfl (.r 1) rfl isAgg72) (.v 5 [4] rfl rfl (Zh rfl) (.v 6 [5] rfl rfl (ZQ 9 underlying30 QR) (.v 7 [6] rfl rfl (Z8 rfl (.r 36) rfl isAgg27) (.v 8 [] rfl rfl (ZO rfl) (.v 9 [7,8] rfl rfl (YK (i:=UC) rfl rfl underlying27 Rv rfl (.r 53) (VC (s:=2) (fun _=>rfl) rfl (tl h8)) h8.1 h8.2 (k:=((UC).toNat) * 2) rfl) (.v 10 [9] rfl rfl (Vk rfl underlying50 rfl (k:=1) rfl Xe rfl) (.v 11 [10] rfl rfl (Z8 rfl (.r 53) ((UM (g:=fun p:Int × Str=>[vi p.1,vs p.2]) (s:=2) (fun _=>rfl) YU ((UC).toNat) 1 (tl h8) (by decide:1<2)).trans rfl) isAgg9) (.v 12 [0] rfl rfl (Zh rfl) (.v 13 [12] rfl rfl (ZQ 4 underlying74 XE) (.v 14 [13] rfl rfl (ZQ 2 underlying34 Xe) .nil))))))))))))))) (fun γ=>?_)
   refine Qj [144,141] rfl rfl ?_
   refine Qh 15 [] rfl (YR (j:=1) rfl rfl Xe rfl rfl rfl (Nat.lt_succ_self 0) (cs':=[vs ((lg YU ((UC).toNat)).2)]) rfl) (fun _=>rfl) (fun _=>?_)
   refine Vi ?_
   refine Z7 (Z_ (Y2 ?_))
   refine Zq ?_
   obtain rfl:=sj H
   exact JK () [0,0,0] (vs:=[_]) rfl ⟨rfl,trivial⟩ rfl
  refine ZN (Z7 (Z_ (Y2 ?_)))
  refine Zq ?_
  obtain rfl:=sj H
  exact JK () [0,0,0] (vs:=[_]) rfl ⟨rfl,trivial⟩ rfl
 exact (Option.some.inj H)
end Go.Proofs
end

/-
  Part 1 of the proof of Ecdsas.
-/
import Derived.Test.YtiofnmmggblcgaaEsC1
import Derived.Test.YtiofnmmggblcgaaEsC2
import Derived.Test.YtiofnmmggblcgaaEsC3
import Derived.Test.YtiofnmmggblcgaaEsC4
import Derived.Test.YtiofnmmggblcgaaEsC5
import Derived.Test.YtiofnmmggblcgaaEsC6
import Derived.Test.YtiofnmmggblcgaaEsC7
import Derived.Test.YtiofnmmggblcgaaEsC8
import Derived.Test.YtiofnmmggblcgaaEsC9
import Derived.Test.YtiofnmmggblcgaaEsC10
import Derived.Test.YtiofnmmggblcgaaEsC11
import Derived.Test.YtiofnmmggblcgaaEsC12
import Derived.Test.YtiofnmmggblcgaaEsC13
import Derived.Test.YtiofnmmggblcgaaEsC14
import Derived.Test.YtiofnmmggblcgaaEsC15
import Derived.Test.YtiofnmmggblcgaaEsC16
import Derived.Test.YtiofnmmggblcgaaEsC17
import Derived.Test.YtiofnmmggblcgaaEsC18
import Derived.Test.YtiofnmmggblcgaaEsC19
import Derived.Test.YtiofnmmggblcgaaEsC20
import Derived.Test.YtiofnmmggblcgaaEsC21
import Derived.Test.YtiofnmmggblcgaaEsC22
import Derived.Test.YtiofnmmggblcgaaEsC23
import Derived.Test.YtiofnmmggblcgaaEsC24
import Derived.Test.YtiofnmmggblcgaaEsC25
import Derived.Test.YtiofnmmggblcgaaEsC26
import Derived.Test.YtiofnmmggblcgaaEsC27
import Derived.Test.YtiofnmmggblcgaaEsC28
import Derived.Test.YtiofnmmggblcgaaEsC29
import Derived.Test.YtiofnmmggblcgaaEsC30
import Derived.Test.YtiofnmmggblcgaaEsC31
import Derived.Test.YtiofnmmggblcgaaEsC32
set_option linter.unusedVariables false
set_option linter.unusedSimpArgs false
section
namespace Go.Proofs
open Go Go.Kx
open TryI Try
def halberdlaw12_Ecdsas (key:Str) (nonce:Str) (digest:Str) (public_:Str) (sig:Str):Option (Bool) :=
 (ecdsa_Sign key nonce digest).bind fun (r_1:Str × Int)=>((halberdref9_Sign key nonce digest).bind fun (r_2:Str × Int)=>((ecdsa_Verify public_ digest sig).bind fun (r_3:Int)=>(if r_1.1=r_2.1 then ((halberdlaw0_Num r_1.2).bind fun (r_4:Int)=>(if r_4=r_2.2 then ((halberdlaw0_Num r_3).bind fun (r_5:Int)=>((halberdref9_Verify public_ digest sig).bind fun (r_6:Int)=>(if r_5=r_6 then ((halberdlaw12_awake).bind fun (r_7:Bool)=>(some r_7)) else (some false)))) else (some false))) else (some false))))
set_option maxHeartbeats 4000000 in
set_option maxRecDepth 20000 in
theorem F8_calls (key:Str) (nonce:Str) (digest:Str) (public_:Str) (sig:Str) (r:Bool) (H:halberdlaw12_Ecdsas key nonce digest public_ sig=some r) :
  Does Try.prog 8 [vs key,vs nonce,vs digest,vs public_,vs sig] [] [] (Γ:=Unit) (fun g=>vb r) (fun g=>[]):=by
 intro w hmem hro hd
 refine calls_of (N:=55) (m0:=[(0,vs key),(1,vs nonce),(2,vs digest),(3,vs public_),(4,vs sig)]) func8 rfl ntmps8 (argM_ok [vs key,vs nonce,vs digest,vs public_,vs sig]) rfl hmem hro hd ?_
 unfold halberdlaw12_Ecdsas at H
 refine TC_seq (TC_region (TVa ?_))
 refine TL_nil (TX_next (TC_seq (TC_region (TVm ?_))))
 refine TVm ?_
 refine TVm ?_
 obtain ⟨r_1,hr_1,H⟩:=bind_elim H
 refine TLe (E_c0 (F25_calls key nonce digest r_1 hr_1) call25 .z) (fun g_1=>?_)
 refine TVm ?_
 refine TLv V_ex ?_
 refine TLv V_ex ?_
 refine TVa ?_
 refine TVa ?_
 refine TL_nil (TX_next (TC_seq (TC_region (TVm ?_))))
 refine TVm ?_
 refine TVm ?_
 obtain ⟨r_2,hr_2,H⟩:=bind_elim H
 refine TLe (E_c0 (F26_calls key nonce digest r_2 hr_2) call26 .z) (fun g_2=>?_)
 refine TVm ?_
 refine TLv V_ex ?_
 refine TLv V_ex ?_
 refine TVa ?_
 refine TVa ?_
 refine TL_nil (TX_next (TC_seq (TC_region (TVm ?_))))
 refine TVm ?_
 refine TVm ?_
 obtain ⟨r_3,hr_3,H⟩:=bind_elim H
 refine TLe (E_c0 (F27_calls public_ digest sig r_3 hr_3) call27 .z) (fun g_3=>?_)
 refine TVa ?_
 refine TL_nil (TX_next (TC_seq (TC_region (TVm ?_))))
 refine TVm ?_
 refine TLv (V_bin rfl rfl (fun w=>eqlS w r_1.1 r_2.1)) ?_
 refine TVm ?_
 refine TFd (d:=37) H (fun hc H=>?_) (fun hc H=>?_)
 ·refine TLw (V_move rfl) ?_
  obtain ⟨r_4,hr_4,H⟩:=bind_elim H
  refine TLu (E_c0 (F20_calls r_1.2 r_4 hr_4) call20 .z) (fun g_4=>?_)
  refine TLw (V_move rfl) ?_
  refine TLw (V_bin rfl rfl (fun w=>eqlI w r_4 r_2.2)) ?_
  refine TVt ?_
  refine TVm ?_
  refine TFd (d:=43) H (fun hc H=>?_) (fun hc H=>?_)
  ·refine TLw (V_move rfl) ?_
   obtain ⟨r_5,hr_5,H⟩:=bind_elim H
   refine TLu (E_c0 (F20_calls r_3 r_5 hr_5) call20 .z) (fun g_5=>?_)
   refine TLw (V_move rfl) ?_
   refine TLw (V_move rfl) ?_
   refine TLw (V_move rfl) ?_
   obtain ⟨r_6,hr_6,H⟩:=bind_elim H
   refine TLu (E_c0 (F28_calls public_ digest sig r_6 hr_6) call28 .z) (fun g_6=>?_)
   refine TLw (V_bin rfl rfl (fun w=>eqlI w r_5 r_6)) ?_
   refine TVt ?_
   refine TVm ?_
   refine TFd (d:=52) H (fun hc H=>?_) (fun hc H=>?_)
   ·obtain ⟨r_7,hr_7,H⟩:=bind_elim H
    refine TLu (E_c0 (F29_calls r_7 hr_7) call29 .z) (fun g_7=>?_)
    refine TVt ?_
    refine TVa ?_
    refine TL_nil (TX_next (TC.sub (m':=[(10,_)]) ⟨rfl,trivial⟩ ?_))
    refine TC.pull (is:=[]) (L':=[]) rfl ?_
    refine TC_ret ?_
    obtain rfl:=sj H
    exact TX1
   ·refine TLs ?_
    refine TVf ?_
    refine TVa ?_
    refine TL_nil (TX_next (TC.sub (m':=[(10,_)]) ⟨rfl,trivial⟩ ?_))
    refine TC.pull (is:=[]) (L':=[]) rfl ?_
    refine TC_ret ?_
    obtain rfl:=sj H
    exact TX1
  ·refine TLs ?_
   refine TLs ?_
   refine TLs ?_
   refine TLs ?_
   refine TLs ?_
   refine TLs ?_
   refine TLs ?_
   refine TVf ?_
   refine TVm ?_
   refine TLs ?_
   refine TVf ?_
   refine TVa ?_
   refine TL_nil (TX_next (TC.sub (m':=[(10,_)]) ⟨rfl,trivial⟩ ?_))
   refine TC.pull (is:=[]) (L':=[]) rfl ?_
   refine TC_ret ?_
   obtain rfl:=sj H
   exact TX1
 ·refine TLs ?_
  refine TLs ?_
  refine TLs ?_
  refine TLs ?_
  refine TVf ?_
  refine TVm ?_
  refine TLs ?_
  refine TLs ?_
  refine TLs ?_
  refine TLs ?_
  refine TLs ?_
  refine TLs ?_
  refine TLs ?_
  refine TVf ?_
  refine TVm ?_
  refine TLs ?_
  refine TVf ?_
  refine TVa ?_
  refine TL_nil (TX_next (TC.sub (m':=[(10,_)]) ⟨rfl,trivial⟩ ?_))
  refine TC.pull (is:=[]) (L':=[]) rfl ?_
  refine TC_ret ?_
  obtain rfl:=sj H
  exact TX1
end Go.Proofs
end

section
namespace Go.Kx
open Go Go.Proofs
open Go.Nt hiding n4
theorem Ecdsas_true (key nonce digest public_ sig:Str) (hl:sig.length≤140737488351232):halberdlaw12_Ecdsas key nonce digest public_ sig=some true:=by
 obtain ⟨v,h1,h2⟩:=Sign_eq key nonce digest
 obtain ⟨e,h3,h4⟩:=Verify_eq public_ digest sig (by omega)
 unfold halberdlaw12_Ecdsas
 exact bind_i h1 (bind_i h2 (bind_i h3 (if_i rfl (bind_i (num12 _) (if_i rfl (bind_i (num12 _) (bind_i h4 (if_i rfl (bind_i awake12 rfl)))))))))
end Go.Kx
end

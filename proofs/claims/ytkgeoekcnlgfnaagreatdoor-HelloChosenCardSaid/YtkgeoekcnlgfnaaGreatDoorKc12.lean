/-
  Part 12 of the proof of what several laws share.
-/
import Derived.Test.YtkgeoekcnlgfnaaGreatDoorKc1
import Derived.Test.YtkgeoekcnlgfnaaGreatDoorKc2
import Derived.Test.YtkgeoekcnlgfnaaGreatDoorKc3
import Derived.Test.YtkgeoekcnlgfnaaGreatDoorKc4
import Derived.Test.YtkgeoekcnlgfnaaGreatDoorKc5
import Derived.Test.YtkgeoekcnlgfnaaGreatDoorKc6
import Derived.Test.YtkgeoekcnlgfnaaGreatDoorKc7
import Derived.Test.YtkgeoekcnlgfnaaGreatDoorKc8
import Derived.Test.YtkgeoekcnlgfnaaGreatDoorKc9
import Derived.Test.YtkgeoekcnlgfnaaGreatDoorKc10
import Derived.Test.YtkgeoekcnlgfnaaGreatDoorKc11
set_option linter.unusedVariables false
set_option linter.unusedSimpArgs false
section
namespace Go.Proofs
open Go Go.Kx
open TryzI Tryz
def slices_ContainsFunc___api_Psk_api_Psk__fn1_75 (s_:List (Str × Str × Int × Int × Int × Int)) (fc0_Server:Bool) (fc0_Suites:List (Int)) (fc0_Groups:List (Int)) (fc0_Chain:List (Str)) (fc0_Key:Str) (fc0_Roots:List (Str)) (fc0_Name:Str) (fc0_Tickets:Int) (fc0_Seal:Str) (fc0_Psk:List (Str × Str × Int × Int × Int × Int)) (fc0_Tape:Str) (fc0_Clock:Int) (fc0_Pad:Int) (fc0_Limit:Int) (fc0_Ring:Int):Option (Bool) :=
 (slices_IndexFunc___api_Psk_api_Psk__fn1_75 s_ fc0_Server fc0_Suites fc0_Groups fc0_Chain fc0_Key fc0_Roots fc0_Name fc0_Tickets fc0_Seal fc0_Psk fc0_Tape fc0_Clock fc0_Pad fc0_Limit fc0_Ring).bind fun (r_1:Int)=>(ltt (decide (0≤r_1)) fun (x1:Bool)=>(some x1))
set_option maxHeartbeats 4000000 in
set_option maxRecDepth 20000 in
theorem F74_fn1_75_calls (As_:Adr) (cs_:Nat) (bfc0:Nat) (obfc0:Nat) (bfc02:Nat) (obfc02:Nat) (Afc0_Suites:Adr) (cfc0_Suites:Nat) (Afc0_Groups:Adr) (cfc0_Groups:Nat) (Afc0_Chain:Adr) (cfc0_Chain:Nat) (Afc0_Roots:Adr) (cfc0_Roots:Nat) (Afc0_Psk:Adr) (cfc0_Psk:Nat) (s_:List (Str × Str × Int × Int × Int × Int)) (fc0_Server:Bool) (fc0_Suites:List (Int)) (fc0_Groups:List (Int)) (fc0_Chain:List (Str)) (fc0_Key:Str) (fc0_Roots:List (Str)) (fc0_Name:Str) (fc0_Tickets:Int) (fc0_Seal:Str) (fc0_Psk:List (Str × Str × Int × Int × Int × Int)) (fc0_Tape:Str) (fc0_Clock:Int) (fc0_Pad:Int) (fc0_Limit:Int) (fc0_Ring:Int) (hcs_:(s_).length≤cs_) (hcfc0_Suites:(fc0_Suites).length≤cfc0_Suites) (hcfc0_Groups:(fc0_Groups).length≤cfc0_Groups) (hcfc0_Chain:(fc0_Chain).length≤cfc0_Chain) (hcfc0_Roots:(fc0_Roots).length≤cfc0_Roots) (hcfc0_Psk:(fc0_Psk).length≤cfc0_Psk) (r:Bool) (H:slices_ContainsFunc___api_Psk_api_Psk__fn1_75 s_ fc0_Server fc0_Suites fc0_Groups fc0_Chain fc0_Key fc0_Roots fc0_Name fc0_Tickets fc0_Seal fc0_Psk fc0_Tape fc0_Clock fc0_Pad fc0_Limit fc0_Ring=some r) :
  Does Tryz.prog 74 [sl As_ ((s_).length) cs_,Value.func (.func 75) #[] #[ptr (some (bfc0,obfc0)) 0]] [] [⟨As_,eF (fun p:Str × Str × Int × Int × Int × Int=>[vs p.1,vs p.2.1,vi p.2.2.1,vi p.2.2.2.1,vi p.2.2.2.2.1,vi p.2.2.2.2.2]) s_⟩,⟨some (bfc0,obfc0),[ptr (some (bfc02,obfc02)) 0]⟩,⟨some (bfc02,obfc02),[vb fc0_Server]⟩,⟨some (bfc02,obfc02+1),[sl Afc0_Suites ((fc0_Suites).length) cfc0_Suites]⟩,⟨some (bfc02,obfc02+2),[sl Afc0_Groups ((fc0_Groups).length) cfc0_Groups]⟩,⟨some (bfc02,obfc02+3),[sl Afc0_Chain ((fc0_Chain).length) cfc0_Chain]⟩,⟨some (bfc02,obfc02+4),[vs fc0_Key]⟩,⟨some (bfc02,obfc02+5),[sl Afc0_Roots ((fc0_Roots).length) cfc0_Roots]⟩,⟨some (bfc02,obfc02+6),[vs fc0_Name]⟩,⟨some (bfc02,obfc02+7),[vi fc0_Tickets]⟩,⟨some (bfc02,obfc02+8),[vs fc0_Seal]⟩,⟨some (bfc02,obfc02+9),[sl Afc0_Psk ((fc0_Psk).length) cfc0_Psk]⟩,⟨some (bfc02,obfc02+10),[vs fc0_Tape]⟩,⟨some (bfc02,obfc02+11),[vi fc0_Clock]⟩,⟨some (bfc02,obfc02+12),[vi fc0_Pad]⟩,⟨some (bfc02,obfc02+13),[vi fc0_Limit]⟩,⟨some (bfc02,obfc02+14),[vi fc0_Ring]⟩,⟨Afc0_Suites,eI fc0_Suites⟩,⟨Afc0_Groups,eI fc0_Groups⟩,⟨Afc0_Chain,eS fc0_Chain⟩,⟨Afc0_Roots,eS fc0_Roots⟩,⟨Afc0_Psk,eF (fun p:Str × Str × Int × Int × Int × Int=>[vs p.1,vs p.2.1,vi p.2.2.1,vi p.2.2.2.1,vi p.2.2.2.2.1,vi p.2.2.2.2.2]) fc0_Psk⟩] (Γ:=Unit) (fun g=>vb r) (fun g=>[]):=by
 intro w hmem hro hd
 refine calls_of (N:=9) (m0:=[(0,sl As_ ((s_).length) cs_),(1,Value.func (.func 75) #[] #[ptr (some (bfc0,obfc0)) 0])]) func74 rfl ntmps74 (argM_ok [sl As_ ((s_).length) cs_,Value.func (.func 75) #[] #[ptr (some (bfc0,obfc0)) 0]]) rfl hmem hro hd ?_
 unfold slices_ContainsFunc___api_Psk_api_Psk__fn1_75 at H
 refine TC_seq (TC_region (TVa ?_))
 refine TL_nil (TX_next (TC_seq (TC_region (TVm ?_))))
 refine TVm ?_
 obtain ⟨r_1,hr_1,H⟩:=bind_elim H
 refine TLe (E_c0 (F92_fn1_75_calls As_ cs_ bfc0 obfc0 bfc02 obfc02 Afc0_Suites cfc0_Suites Afc0_Groups cfc0_Groups Afc0_Chain cfc0_Chain Afc0_Roots cfc0_Roots Afc0_Psk cfc0_Psk s_ fc0_Server fc0_Suites fc0_Groups fc0_Chain fc0_Key fc0_Roots fc0_Name fc0_Tickets fc0_Seal fc0_Psk fc0_Tape fc0_Clock fc0_Pad fc0_Limit fc0_Ring hcs_ hcfc0_Suites hcfc0_Groups hcfc0_Chain hcfc0_Roots hcfc0_Psk r_1 hr_1) call92 ⟨.r 0, .r 1, .r 2, .r 3, .r 4, .r 5, .r 6, .r 7, .r 8, .r 9, .r 10, .r 11, .r 12, .r 13, .r 14, .r 15, .r 16, .r 17, .r 18, .r 19, .r 20, .r 21,trivial⟩) (fun g_1=>?_)
 refine TLv (V_bin rfl rfl (fun w=>geqI w r_1 0)) ?_
 refine TVa ?_
 obtain ⟨x1,hx1,H⟩:=ltt_elim H
 refine TLr 4 (congrArg vb hx1) ?_
 refine TL_nil (TX_next (TC_ret ?_))
 obtain rfl:=sj H
 exact TX1
end Go.Proofs
end

section
namespace Go.Proofs
open Go Go.Kx
open TryzI Tryz
def hello_client (c_Server:Bool) (c_Suites:List (Int)) (c_Groups:List (Int)) (c_Chain:List (Str)) (c_Key:Str) (c_Roots:List (Str)) (c_Name:Str) (c_Tickets:Int) (c_Seal:Str) (c_Psk:List (Str × Str × Int × Int × Int × Int)) (c_Tape:Str) (c_Clock:Int) (c_Pad:Int) (c_Limit:Int) (c_Ring:Int):Option (Bool) :=
 (if ((c_Chain).length:Int) ≠ 0 then (some true) else (if c_Key ≠ ([]:Str) then (some true) else (if c_Seal ≠ ([]:Str) then (some true) else (if c_Tickets ≠ 0 then (some true) else (some (decide (1<((c_Psk).length:Int)))))))).bind fun (j1:Bool)=>(if j1=true then (some false) else ((hello_certs c_Roots 0).bind fun (r_1:Bool)=>(if r_1=true then (if ((c_Name).length:Int)≤64 then ((slices_ContainsFunc___api_Psk_api_Psk__fn1_75 c_Psk c_Server c_Suites c_Groups c_Chain c_Key c_Roots c_Name c_Tickets c_Seal c_Psk c_Tape c_Clock c_Pad c_Limit c_Ring).bind fun (r_2:Bool)=>(some (!r_2))) else (some false)) else (some false))))
set_option maxHeartbeats 4000000 in
set_option maxRecDepth 20000 in
theorem F48_calls (bc:Nat) (obc:Nat) (Ac_Suites:Adr) (cc_Suites:Nat) (Ac_Groups:Adr) (cc_Groups:Nat) (Ac_Chain:Adr) (cc_Chain:Nat) (Ac_Roots:Adr) (cc_Roots:Nat) (Ac_Psk:Adr) (cc_Psk:Nat) (c_Server:Bool) (c_Suites:List (Int)) (c_Groups:List (Int)) (c_Chain:List (Str)) (c_Key:Str) (c_Roots:List (Str)) (c_Name:Str) (c_Tickets:Int) (c_Seal:Str) (c_Psk:List (Str × Str × Int × Int × Int × Int)) (c_Tape:Str) (c_Clock:Int) (c_Pad:Int) (c_Limit:Int) (c_Ring:Int) (hcc_Suites:(c_Suites).length≤cc_Suites) (hcc_Groups:(c_Groups).length≤cc_Groups) (hcc_Chain:(c_Chain).length≤cc_Chain) (hcc_Roots:(c_Roots).length≤cc_Roots) (hcc_Psk:(c_Psk).length≤cc_Psk) (r:Bool) (H:hello_client c_Server c_Suites c_Groups c_Chain c_Key c_Roots c_Name c_Tickets c_Seal c_Psk c_Tape c_Clock c_Pad c_Limit c_Ring=some r) :
  Does Tryz.prog 48 [ptr (some (bc,obc)) 0] [] [⟨some (bc,obc),[vb c_Server]⟩,⟨some (bc,obc+1),[sl Ac_Suites ((c_Suites).length) cc_Suites]⟩,⟨some (bc,obc+2),[sl Ac_Groups ((c_Groups).length) cc_Groups]⟩,⟨some (bc,obc+3),[sl Ac_Chain ((c_Chain).length) cc_Chain]⟩,⟨some (bc,obc+4),[vs c_Key]⟩,⟨some (bc,obc+5),[sl Ac_Roots ((c_Roots).length) cc_Roots]⟩,⟨some (bc,obc+6),[vs c_Name]⟩,⟨some (bc,obc+7),[vi c_Tickets]⟩,⟨some (bc,obc+8),[vs c_Seal]⟩,⟨some (bc,obc+9),[sl Ac_Psk ((c_Psk).length) cc_Psk]⟩,⟨some (bc,obc+10),[vs c_Tape]⟩,⟨some (bc,obc+11),[vi c_Clock]⟩,⟨some (bc,obc+12),[vi c_Pad]⟩,⟨some (bc,obc+13),[vi c_Limit]⟩,⟨some (bc,obc+14),[vi c_Ring]⟩,⟨Ac_Suites,eI c_Suites⟩,⟨Ac_Groups,eI c_Groups⟩,⟨Ac_Chain,eS c_Chain⟩,⟨Ac_Roots,eS c_Roots⟩,⟨Ac_Psk,eF (fun p:Str × Str × Int × Int × Int × Int=>[vs p.1,vs p.2.1,vi p.2.2.1,vi p.2.2.2.1,vi p.2.2.2.2.1,vi p.2.2.2.2.2]) c_Psk⟩] (Γ:=Unit) (fun g=>vb r) (fun g=>[]):=by
 intro w hmem hro hd
 refine calls_of (N:=60) (m0:=[(0,ptr (some (bc,obc)) 0)]) func48 rfl ntmps48 (argM_ok [ptr (some (bc,obc)) 0]) rfl hmem hro hd ?_
 unfold hello_client at H
 refine TC_seq (TC_region (TLe (E_boxP [(1,[ptr (some (bc,obc)) 0])] rfl rfl ⟨rfl,trivial⟩) (fun b1=>?_)))
 refine TVa ?_
 refine TL_nil (TX_next (TC_seq (TC_seq (TC_region (TLv (V_load rfl (.o 0) rfl isAgg71) ?_)))))
 refine TLv (V_nilCheck rfl) ?_
 refine TLv (V_fieldE rfl underlying26 rfl rfl inf23 rfl (v:=ptr (some (bc,obc+3)) 0) rfl) ?_
 refine TLv (V_load rfl (.r 3) rfl isAgg23) ?_
 refine TLv (V_len_slice rfl underlying23) ?_
 refine TLv (V_bin rfl rfl (fun w=>neqI w ((c_Chain).length:Int) 0)) ?_
 refine TVm ?_
 obtain ⟨j1,Hj,H⟩:=bind_elim H
 refine TL_join (Γ:=Unit) (fun gj1=>[(1,ptr (some (b1,0)) 0),(37,vb j1)]) (fun gj1=>[⟨some (b1,0),[ptr (some (bc,obc)) 0]⟩]) ?_ ?_
 ·intro gj1
  refine TX_next (TCb H (fun hc H=>?_) (fun hc H=>?_))
  ·refine TC_seq (TC_region (TVa ?_))
   refine TL_nil (TX_next (TC_ret (TX_then_ret ?_)))
   obtain rfl:=sj H
   exact TX1
  ·refine TC_skip (TX_next (TC_seq (TC_region (TLv (V_load rfl (.o 0) rfl isAgg71) ?_))))
   refine TLv (V_nilCheck rfl) ?_
   refine TLv (V_fieldE rfl underlying26 rfl rfl inf23 rfl (v:=ptr (some (bc,obc+5)) 0) rfl) ?_
   refine TLv (V_load rfl (.r 5) rfl isAgg23) ?_
   obtain ⟨r_1,hr_1,H⟩:=bind_elim H
   refine TLe (E_c0 (F72_calls Ac_Roots cc_Roots c_Roots 0 hcc_Roots r_1 hr_1) call72 ⟨.r 18,trivial⟩) (fun g_1=>?_)
   refine TVm ?_
   refine TFb (d:=43) H (fun hc H=>?_) (fun hc H=>?_)
   ·refine TLw (V_load rfl (.o 0) rfl isAgg71) ?_
    refine TLw (V_nilCheck rfl) ?_
    refine TLw (V_fieldE rfl underlying26 rfl rfl inf9 rfl (v:=ptr (some (bc,obc+6)) 0) rfl) ?_
    refine TLw (V_load rfl (.r 6) rfl isAgg9) ?_
    refine TLw (V_len_str rfl underlying9) ?_
    refine TLw (V_bin rfl rfl (fun w=>leqI w ((c_Name).length:Int) 64)) ?_
    refine TVt ?_
    refine TVm ?_
    refine TFd (d:=51) H (fun hc H=>?_) (fun hc H=>?_)
    ·refine TLw (V_load rfl (.o 0) rfl isAgg71) ?_
     refine TLw (V_nilCheck rfl) ?_
     refine TLw (V_fieldE rfl underlying26 rfl rfl inf24 rfl (v:=ptr (some (bc,obc+9)) 0) rfl) ?_
     refine TLw (V_load rfl (.r 9) rfl isAgg24) ?_
     refine TLw (V_makeFunc rfl) ?_
     obtain ⟨r_2,hr_2,H⟩:=bind_elim H
     refine TLu (E_c0 (F74_fn1_75_calls Ac_Psk cc_Psk b1 0 bc obc Ac_Suites cc_Suites Ac_Groups cc_Groups Ac_Chain cc_Chain Ac_Roots cc_Roots Ac_Psk cc_Psk c_Psk c_Server c_Suites c_Groups c_Chain c_Key c_Roots c_Name c_Tickets c_Seal c_Psk c_Tape c_Clock c_Pad c_Limit c_Ring hcc_Psk hcc_Suites hcc_Groups hcc_Chain hcc_Roots hcc_Psk r_2 hr_2) call74 ⟨.r 19, .o 0, .r 0, .r 1, .r 2, .r 3, .r 4, .r 5, .r 6, .r 7, .r 8, .r 9, .r 10, .r 11, .r 12, .r 13, .r 14, .r 15, .r 16, .r 17, .r 18, .r 19,trivial⟩) (fun g_2=>?_)
     refine TLw (V_un rfl (fun w=>notB w r_2)) ?_
     refine TVt ?_
     refine TVa ?_
     refine TL_nil (TX_next (TC_ret ?_))
     obtain rfl:=sj H
     exact TX1
    ·refine TLs ?_
     refine TLs ?_
     refine TLs ?_
     refine TLs ?_
     refine TLs ?_
     refine TLs ?_
     refine TLs ?_
     refine TVf ?_
     refine TVa ?_
     refine TL_nil (TX_next (TC_ret ?_))
     obtain rfl:=sj H
     exact TX1
   ·refine TLs ?_
    refine TLs ?_
    refine TLs ?_
    refine TLs ?_
    refine TLs ?_
    refine TLs ?_
    refine TVf ?_
    refine TVm ?_
    refine TLs ?_
    refine TLs ?_
    refine TLs ?_
    refine TLs ?_
    refine TLs ?_
    refine TLs ?_
    refine TLs ?_
    refine TVf ?_
    refine TVa ?_
    refine TL_nil (TX_next (TC_ret ?_))
    obtain rfl:=sj H
    exact TX1
 ·intro hJ
  replace H:=Hj
  refine TFd (d:=9) H (fun hc H=>?_) (fun hc H=>?_)
  ·refine TLs ?_
   refine TLs ?_
   refine TLs ?_
   refine TLs ?_
   refine TLs ?_
   refine TVt ?_
   refine TVm ?_
   refine TLs ?_
   refine TLs ?_
   refine TLs ?_
   refine TLs ?_
   refine TLs ?_
   refine TVt ?_
   refine TVm ?_
   refine TLs ?_
   refine TLs ?_
   refine TLs ?_
   refine TLs ?_
   refine TLs ?_
   refine TVt ?_
   refine TVm ?_
   refine TLs ?_
   refine TLs ?_
   refine TLs ?_
   refine TLs ?_
   refine TLs ?_
   refine TLs ?_
   refine TVt ?_
   refine TL_nil ?_
   obtain rfl:=sj H
   exact TXj [0] (hJ ())
  ·refine TLw (V_load rfl (.o 0) rfl isAgg71) ?_
   refine TLw (V_nilCheck rfl) ?_
   refine TLw (V_fieldE rfl underlying26 rfl rfl inf9 rfl (v:=ptr (some (bc,obc+4)) 0) rfl) ?_
   refine TLw (V_load rfl (.r 4) rfl isAgg9) ?_
   refine TLw (V_bin rfl rfl (fun w=>neqS w c_Key ([]:Str))) ?_
   refine TVf ?_
   refine TVm ?_
   refine TFd (d:=16) H (fun hc H=>?_) (fun hc H=>?_)
   ·refine TLs ?_
    refine TLs ?_
    refine TLs ?_
    refine TLs ?_
    refine TLs ?_
    refine TVt ?_
    refine TVm ?_
    refine TLs ?_
    refine TLs ?_
    refine TLs ?_
    refine TLs ?_
    refine TLs ?_
    refine TVt ?_
    refine TVm ?_
    refine TLs ?_
    refine TLs ?_
    refine TLs ?_
    refine TLs ?_
    refine TLs ?_
    refine TLs ?_
    refine TVt ?_
    refine TL_nil ?_
    obtain rfl:=sj H
    exact TXj [0] (hJ ())
   ·refine TLw (V_load rfl (.o 0) rfl isAgg71) ?_
    refine TLw (V_nilCheck rfl) ?_
    refine TLw (V_fieldE rfl underlying26 rfl rfl inf9 rfl (v:=ptr (some (bc,obc+8)) 0) rfl) ?_
    refine TLw (V_load rfl (.r 8) rfl isAgg9) ?_
    refine TLw (V_bin rfl rfl (fun w=>neqS w c_Seal ([]:Str))) ?_
    refine TVf ?_
    refine TVm ?_
    refine TFd (d:=23) H (fun hc H=>?_) (fun hc H=>?_)
    ·refine TLs ?_
     refine TLs ?_
     refine TLs ?_
     refine TLs ?_
     refine TLs ?_
     refine TVt ?_
     refine TVm ?_
     refine TLs ?_
     refine TLs ?_
     refine TLs ?_
     refine TLs ?_
     refine TLs ?_
     refine TLs ?_
     refine TVt ?_
     refine TL_nil ?_
     obtain rfl:=sj H
     exact TXj [0] (hJ ())
    ·refine TLw (V_load rfl (.o 0) rfl isAgg71) ?_
     refine TLw (V_nilCheck rfl) ?_
     refine TLw (V_fieldE rfl underlying26 rfl rfl inf3 rfl (v:=ptr (some (bc,obc+7)) 0) rfl) ?_
     refine TLw (V_load rfl (.r 7) rfl isAgg3) ?_
     refine TLw (V_bin rfl rfl (fun w=>neqI w c_Tickets 0)) ?_
     refine TVf ?_
     refine TVm ?_
     refine TFd (d:=30) H (fun hc H=>?_) (fun hc H=>?_)
     ·refine TLs ?_
      refine TLs ?_
      refine TLs ?_
      refine TLs ?_
      refine TLs ?_
      refine TLs ?_
      refine TVt ?_
      refine TL_nil ?_
      obtain rfl:=sj H
      exact TXj [0] (hJ ())
     ·refine TLw (V_load rfl (.o 0) rfl isAgg71) ?_
      refine TLw (V_nilCheck rfl) ?_
      refine TLw (V_fieldE rfl underlying26 rfl rfl inf24 rfl (v:=ptr (some (bc,obc+9)) 0) rfl) ?_
      refine TLw (V_load rfl (.r 9) rfl isAgg24) ?_
      refine TLw (V_len_slice rfl underlying24) ?_
      refine TLw (V_bin rfl rfl (fun w=>gtrI w ((c_Psk).length:Int) 1)) ?_
      refine TVf ?_
      refine TL_nil ?_
      obtain rfl:=sj H
      exact TXj [0] (hJ ())
end Go.Proofs
end

section
namespace Go.Proofs
open Go Go.Kx
open TryzI Tryz
def hello_May (c_Server:Bool) (c_Suites:List (Int)) (c_Groups:List (Int)) (c_Chain:List (Str)) (c_Key:Str) (c_Roots:List (Str)) (c_Name:Str) (c_Tickets:Int) (c_Seal:Str) (c_Psk:List (Str × Str × Int × Int × Int × Int)) (c_Tape:Str) (c_Clock:Int) (c_Pad:Int) (c_Limit:Int) (c_Ring:Int):Option (Bool) :=
 (hello_each_fn2_44 c_Suites 3).bind fun (r_1:Bool)=>((if (!r_1)=true then (some true) else ((hello_each_fn2_45 c_Groups 2).bind fun (r_4:Bool)=>(if (!r_4)=true then (some true) else ((hello_in c_Clock 0 4294967295).bind fun (r_5:Bool)=>(if (!r_5)=true then (some true) else ((hello_in c_Pad 0 16384).bind fun (r_6:Bool)=>(if (!r_6)=true then (some true) else ((hello_in c_Limit 4 16777216).bind fun (r_7:Bool)=>(if (!r_7)=true then (some true) else ((hello_in c_Ring 33290 262144).bind fun (r_8:Bool)=>(if (!r_8)=true then (some true) else (some (decide (65536<((c_Tape).length:Int))))))))))))))).bind fun (j1:Bool)=>(if j1=true then (some false) else (if c_Server=true then ((hello_server c_Server c_Suites c_Groups c_Chain c_Key c_Roots c_Name c_Tickets c_Seal c_Psk c_Tape c_Clock c_Pad c_Limit c_Ring).bind fun (r_2:Bool)=>(some r_2)) else ((hello_client c_Server c_Suites c_Groups c_Chain c_Key c_Roots c_Name c_Tickets c_Seal c_Psk c_Tape c_Clock c_Pad c_Limit c_Ring).bind fun (r_3:Bool)=>(some r_3)))))
set_option maxHeartbeats 4000000 in
set_option maxRecDepth 20000 in
theorem F16_calls (Ac_Suites:Adr) (cc_Suites:Nat) (Ac_Groups:Adr) (cc_Groups:Nat) (Ac_Chain:Adr) (cc_Chain:Nat) (Ac_Roots:Adr) (cc_Roots:Nat) (Ac_Psk:Adr) (cc_Psk:Nat) (c_Server:Bool) (c_Suites:List (Int)) (c_Groups:List (Int)) (c_Chain:List (Str)) (c_Key:Str) (c_Roots:List (Str)) (c_Name:Str) (c_Tickets:Int) (c_Seal:Str) (c_Psk:List (Str × Str × Int × Int × Int × Int)) (c_Tape:Str) (c_Clock:Int) (c_Pad:Int) (c_Limit:Int) (c_Ring:Int) (hcc_Suites:(c_Suites).length≤cc_Suites) (hcc_Groups:(c_Groups).length≤cc_Groups) (hcc_Chain:(c_Chain).length≤cc_Chain) (hcc_Roots:(c_Roots).length≤cc_Roots) (hcc_Psk:(c_Psk).length≤cc_Psk) (r:Bool) (H:hello_May c_Server c_Suites c_Groups c_Chain c_Key c_Roots c_Name c_Tickets c_Seal c_Psk c_Tape c_Clock c_Pad c_Limit c_Ring=some r) :
  Does Tryz.prog 16 [aG [(1,[vb c_Server]),(1,[sl Ac_Suites ((c_Suites).length) cc_Suites]),(1,[sl Ac_Groups ((c_Groups).length) cc_Groups]),(1,[sl Ac_Chain ((c_Chain).length) cc_Chain]),(1,[vs c_Key]),(1,[sl Ac_Roots ((c_Roots).length) cc_Roots]),(1,[vs c_Name]),(1,[vi c_Tickets]),(1,[vs c_Seal]),(1,[sl Ac_Psk ((c_Psk).length) cc_Psk]),(1,[vs c_Tape]),(1,[vi c_Clock]),(1,[vi c_Pad]),(1,[vi c_Limit]),(1,[vi c_Ring])]] [] [⟨Ac_Suites,eI c_Suites⟩,⟨Ac_Groups,eI c_Groups⟩,⟨Ac_Chain,eS c_Chain⟩,⟨Ac_Roots,eS c_Roots⟩,⟨Ac_Psk,eF (fun p:Str × Str × Int × Int × Int × Int=>[vs p.1,vs p.2.1,vi p.2.2.1,vi p.2.2.2.1,vi p.2.2.2.2.1,vi p.2.2.2.2.2]) c_Psk⟩] (Γ:=Unit) (fun g=>vb r) (fun g=>[]):=by
 intro w hmem hro hd
 refine calls_of (N:=47) (m0:=[(0,aG [(1,[vb c_Server]),(1,[sl Ac_Suites ((c_Suites).length) cc_Suites]),(1,[sl Ac_Groups ((c_Groups).length) cc_Groups]),(1,[sl Ac_Chain ((c_Chain).length) cc_Chain]),(1,[vs c_Key]),(1,[sl Ac_Roots ((c_Roots).length) cc_Roots]),(1,[vs c_Name]),(1,[vi c_Tickets]),(1,[vs c_Seal]),(1,[sl Ac_Psk ((c_Psk).length) cc_Psk]),(1,[vs c_Tape]),(1,[vi c_Clock]),(1,[vi c_Pad]),(1,[vi c_Limit]),(1,[vi c_Ring])])]) func16 rfl ntmps16 (argM_ok [aG [(1,[vb c_Server]),(1,[sl Ac_Suites ((c_Suites).length) cc_Suites]),(1,[sl Ac_Groups ((c_Groups).length) cc_Groups]),(1,[sl Ac_Chain ((c_Chain).length) cc_Chain]),(1,[vs c_Key]),(1,[sl Ac_Roots ((c_Roots).length) cc_Roots]),(1,[vs c_Name]),(1,[vi c_Tickets]),(1,[vs c_Seal]),(1,[sl Ac_Psk ((c_Psk).length) cc_Psk]),(1,[vs c_Tape]),(1,[vi c_Clock]),(1,[vi c_Pad]),(1,[vi c_Limit]),(1,[vi c_Ring])]]) rfl hmem hro hd ?_
 unfold hello_May at H
 refine TC_seq (TC_region (TLe (E_boxP [(1,[vb c_Server]),(1,[sl Ac_Suites ((c_Suites).length) cc_Suites]),(1,[sl Ac_Groups ((c_Groups).length) cc_Groups]),(1,[sl Ac_Chain ((c_Chain).length) cc_Chain]),(1,[vs c_Key]),(1,[sl Ac_Roots ((c_Roots).length) cc_Roots]),(1,[vs c_Name]),(1,[vi c_Tickets]),(1,[vs c_Seal]),(1,[sl Ac_Psk ((c_Psk).length) cc_Psk]),(1,[vs c_Tape]),(1,[vi c_Clock]),(1,[vi c_Pad]),(1,[vi c_Limit]),(1,[vi c_Ring])] rfl rfl ⟨rfl,rfl,rfl,rfl,rfl,rfl,rfl,rfl,rfl,rfl,rfl,rfl,rfl,rfl,rfl,trivial⟩) (fun b1=>?_)))
 refine TVa ?_
 refine TL_nil (TX_next (TC_seq (TC_seq (TC_region (TLv (V_fieldE rfl underlying26 rfl rfl inf22 rfl (v:=ptr (some (b1,1)) 0) rfl) ?_)))))
 refine TLv (V_load rfl (.o 1) rfl isAgg22) ?_
 obtain ⟨r_1,hr_1,H⟩:=bind_elim H
 refine TLe (E_c0 (F43_fn2_44_calls Ac_Suites cc_Suites c_Suites 3 hcc_Suites r_1 hr_1) call43 ⟨.r 0,trivial⟩) (fun g_1=>?_)
 refine TLv (V_un rfl (fun w=>notB w r_1)) ?_
 refine TVm ?_
 obtain ⟨j1,Hj,H⟩:=bind_elim H
 refine TL_join (Γ:=Unit) (fun gj1=>[(1,ptr (some (b1,0)) 0),(42,vb j1)]) (fun gj1=>[⟨some (b1,0),[vb c_Server]⟩,⟨some (b1,1),[sl Ac_Suites ((c_Suites).length) cc_Suites]⟩,⟨some (b1,2),[sl Ac_Groups ((c_Groups).length) cc_Groups]⟩,⟨some (b1,3),[sl Ac_Chain ((c_Chain).length) cc_Chain]⟩,⟨some (b1,4),[vs c_Key]⟩,⟨some (b1,5),[sl Ac_Roots ((c_Roots).length) cc_Roots]⟩,⟨some (b1,6),[vs c_Name]⟩,⟨some (b1,7),[vi c_Tickets]⟩,⟨some (b1,8),[vs c_Seal]⟩,⟨some (b1,9),[sl Ac_Psk ((c_Psk).length) cc_Psk]⟩,⟨some (b1,10),[vs c_Tape]⟩,⟨some (b1,11),[vi c_Clock]⟩,⟨some (b1,12),[vi c_Pad]⟩,⟨some (b1,13),[vi c_Limit]⟩,⟨some (b1,14),[vi c_Ring]⟩]) ?_ ?_
 ·intro gj1
  refine TX_next (TCb H (fun hc H=>?_) (fun hc H=>?_))
  ·refine TC_seq (TC_region (TVa ?_))
   refine TL_nil (TX_next (TC_ret (TX_then_ret ?_)))
   obtain rfl:=sj H
   exact TX1
  ·refine TC_skip (TX_next (TC_seq (TC_seq (TC_region (TLv (V_fieldE rfl underlying26 rfl rfl inf4 rfl (v:=ptr (some (b1,0)) 0) rfl) ?_)))))
   refine TLv (V_load rfl (.o 0) rfl isAgg4) ?_
   refine TL_nil (TX_next (TCb H (fun hc H=>?_) (fun hc H=>?_)))
   ·refine TC_seq (TC_region ?_)
    obtain ⟨r_2,hr_2,H⟩:=bind_elim H
    refine TLe (E_c0 (F47_calls b1 0 Ac_Suites cc_Suites Ac_Groups cc_Groups Ac_Chain cc_Chain Ac_Roots cc_Roots Ac_Psk cc_Psk c_Server c_Suites c_Groups c_Chain c_Key c_Roots c_Name c_Tickets c_Seal c_Psk c_Tape c_Clock c_Pad c_Limit c_Ring hcc_Suites hcc_Groups hcc_Chain hcc_Roots hcc_Psk r_2 hr_2) call47 ⟨.o 0, .o 1, .o 2, .o 3, .o 4, .o 5, .o 6, .o 7, .o 8, .o 9, .o 10, .o 11, .o 12, .o 13, .o 14, .r 0, .r 1, .r 2, .r 3, .r 4,trivial⟩) (fun g_2=>?_)
    refine TVa ?_
    refine TL_nil (TX_next (TC_ret (TX_then_ret ?_)))
    obtain rfl:=sj H
    exact TX1
   ·refine TC_skip (TX_next (TC_seq (TC_region ?_)))
    obtain ⟨r_3,hr_3,H⟩:=bind_elim H
    refine TLe (E_c0 (F48_calls b1 0 Ac_Suites cc_Suites Ac_Groups cc_Groups Ac_Chain cc_Chain Ac_Roots cc_Roots Ac_Psk cc_Psk c_Server c_Suites c_Groups c_Chain c_Key c_Roots c_Name c_Tickets c_Seal c_Psk c_Tape c_Clock c_Pad c_Limit c_Ring hcc_Suites hcc_Groups hcc_Chain hcc_Roots hcc_Psk r_3 hr_3) call48 ⟨.o 0, .o 1, .o 2, .o 3, .o 4, .o 5, .o 6, .o 7, .o 8, .o 9, .o 10, .o 11, .o 12, .o 13, .o 14, .r 0, .r 1, .r 2, .r 3, .r 4,trivial⟩) (fun g_3=>?_)
    refine TVa ?_
    refine TL_nil (TX_next (TC_ret ?_))
    obtain rfl:=sj H
    exact TX1
 ·intro hJ
  replace H:=Hj
  refine TFb (d:=7) H (fun hc H=>?_) (fun hc H=>?_)
  ·refine TLs ?_
   refine TLs ?_
   refine TLs ?_
   refine TLs ?_
   refine TVt ?_
   refine TVm ?_
   refine TLs ?_
   refine TLs ?_
   refine TLs ?_
   refine TLs ?_
   refine TVt ?_
   refine TVm ?_
   refine TLs ?_
   refine TLs ?_
   refine TLs ?_
   refine TLs ?_
   refine TVt ?_
   refine TVm ?_
   refine TLs ?_
   refine TLs ?_
   refine TLs ?_
   refine TLs ?_
   refine TVt ?_
   refine TVm ?_
   refine TLs ?_
   refine TLs ?_
   refine TLs ?_
   refine TLs ?_
   refine TVt ?_
   refine TVm ?_
   refine TLs ?_
   refine TLs ?_
   refine TLs ?_
   refine TLs ?_
   refine TVt ?_
   refine TL_nil ?_
   obtain rfl:=sj H
   exact TXj (rp 15 0) (hJ ())
  ·refine TLw (V_fieldE rfl underlying26 rfl rfl inf22 rfl (v:=ptr (some (b1,2)) 0) rfl) ?_
   refine TLw (V_load rfl (.o 2) rfl isAgg22) ?_
   obtain ⟨r_4,hr_4,H⟩:=bind_elim H
   refine TLu (E_c0 (F43_fn2_45_calls Ac_Groups cc_Groups c_Groups 2 hcc_Groups r_4 hr_4) call43 ⟨.r 1,trivial⟩) (fun g_4=>?_)
   refine TLw (V_un rfl (fun w=>notB w r_4)) ?_
   refine TVf ?_
   refine TVm ?_
   refine TFb (d:=13) H (fun hc H=>?_) (fun hc H=>?_)
   ·refine TLs ?_
    refine TLs ?_
    refine TLs ?_
    refine TLs ?_
    refine TVt ?_
    refine TVm ?_
    refine TLs ?_
    refine TLs ?_
    refine TLs ?_
    refine TLs ?_
    refine TVt ?_
    refine TVm ?_
    refine TLs ?_
    refine TLs ?_
    refine TLs ?_
    refine TLs ?_
    refine TVt ?_
    refine TVm ?_
    refine TLs ?_
    refine TLs ?_
    refine TLs ?_
    refine TLs ?_
    refine TVt ?_
    refine TVm ?_
    refine TLs ?_
    refine TLs ?_
    refine TLs ?_
    refine TLs ?_
    refine TVt ?_
    refine TL_nil ?_
    obtain rfl:=sj H
    exact TXj (rp 15 0) (hJ ())
   ·refine TLw (V_fieldE rfl underlying26 rfl rfl inf3 rfl (v:=ptr (some (b1,11)) 0) rfl) ?_
    refine TLw (V_load rfl (.o 11) rfl isAgg3) ?_
    obtain ⟨r_5,hr_5,H⟩:=bind_elim H
    refine TLu (E_c0 (F46_calls c_Clock 0 4294967295 r_5 hr_5) call46 .z) (fun g_5=>?_)
    refine TLw (V_un rfl (fun w=>notB w r_5)) ?_
    refine TVf ?_
    refine TVm ?_
    refine TFb (d:=19) H (fun hc H=>?_) (fun hc H=>?_)
    ·refine TLs ?_
     refine TLs ?_
     refine TLs ?_
     refine TLs ?_
     refine TVt ?_
     refine TVm ?_
     refine TLs ?_
     refine TLs ?_
     refine TLs ?_
     refine TLs ?_
     refine TVt ?_
     refine TVm ?_
     refine TLs ?_
     refine TLs ?_
     refine TLs ?_
     refine TLs ?_
     refine TVt ?_
     refine TVm ?_
     refine TLs ?_
     refine TLs ?_
     refine TLs ?_
     refine TLs ?_
     refine TVt ?_
     refine TL_nil ?_
     obtain rfl:=sj H
     exact TXj (rp 15 0) (hJ ())
    ·refine TLw (V_fieldE rfl underlying26 rfl rfl inf3 rfl (v:=ptr (some (b1,12)) 0) rfl) ?_
     refine TLw (V_load rfl (.o 12) rfl isAgg3) ?_
     obtain ⟨r_6,hr_6,H⟩:=bind_elim H
     refine TLu (E_c0 (F46_calls c_Pad 0 16384 r_6 hr_6) call46 .z) (fun g_6=>?_)
     refine TLw (V_un rfl (fun w=>notB w r_6)) ?_
     refine TVf ?_
     refine TVm ?_
     refine TFb (d:=25) H (fun hc H=>?_) (fun hc H=>?_)
     ·refine TLs ?_
      refine TLs ?_
      refine TLs ?_
      refine TLs ?_
      refine TVt ?_
      refine TVm ?_
      refine TLs ?_
      refine TLs ?_
      refine TLs ?_
      refine TLs ?_
      refine TVt ?_
      refine TVm ?_
      refine TLs ?_
      refine TLs ?_
      refine TLs ?_
      refine TLs ?_
      refine TVt ?_
      refine TL_nil ?_
      obtain rfl:=sj H
      exact TXj (rp 15 0) (hJ ())
     ·refine TLw (V_fieldE rfl underlying26 rfl rfl inf3 rfl (v:=ptr (some (b1,13)) 0) rfl) ?_
      refine TLw (V_load rfl (.o 13) rfl isAgg3) ?_
      obtain ⟨r_7,hr_7,H⟩:=bind_elim H
      refine TLu (E_c0 (F46_calls c_Limit 4 16777216 r_7 hr_7) call46 .z) (fun g_7=>?_)
      refine TLw (V_un rfl (fun w=>notB w r_7)) ?_
      refine TVf ?_
      refine TVm ?_
      refine TFb (d:=31) H (fun hc H=>?_) (fun hc H=>?_)
      ·refine TLs ?_
       refine TLs ?_
       refine TLs ?_
       refine TLs ?_
       refine TVt ?_
       refine TVm ?_
       refine TLs ?_
       refine TLs ?_
       refine TLs ?_
       refine TLs ?_
       refine TVt ?_
       refine TL_nil ?_
       obtain rfl:=sj H
       exact TXj (rp 15 0) (hJ ())
      ·refine TLw (V_fieldE rfl underlying26 rfl rfl inf3 rfl (v:=ptr (some (b1,14)) 0) rfl) ?_
       refine TLw (V_load rfl (.o 14) rfl isAgg3) ?_
       obtain ⟨r_8,hr_8,H⟩:=bind_elim H
       refine TLu (E_c0 (F46_calls c_Ring 33290 262144 r_8 hr_8) call46 .z) (fun g_8=>?_)
       refine TLw (V_un rfl (fun w=>notB w r_8)) ?_
       refine TVf ?_
       refine TVm ?_
       refine TFb (d:=37) H (fun hc H=>?_) (fun hc H=>?_)
       ·refine TLs ?_
        refine TLs ?_
        refine TLs ?_
        refine TLs ?_
        refine TVt ?_
        refine TL_nil ?_
        obtain rfl:=sj H
        exact TXj (rp 15 0) (hJ ())
       ·refine TLw (V_fieldE rfl underlying26 rfl rfl inf9 rfl (v:=ptr (some (b1,10)) 0) rfl) ?_
        refine TLw (V_load rfl (.o 10) rfl isAgg9) ?_
        refine TLw (V_len_str rfl underlying9) ?_
        refine TLw (V_bin rfl rfl (fun w=>gtrI w ((c_Tape).length:Int) 65536)) ?_
        refine TVf ?_
        refine TL_nil ?_
        obtain rfl:=sj H
        exact TXj (rp 15 0) (hJ ())
end Go.Proofs
end

section
namespace Go.Proofs
open Go Go.Kx
open TryzI Tryz
def hello_first.b0 (own:List (Int)) (offered:List (Int)) (s0:Int):Option ((Int) ⊕ ((Unit) ⊕ (Int × Bool))) :=
 if s0<((own).length:Int) then (if 0≤s0∧s0<((own).length:Int) then (ltt (lg own ((s0).toNat)) fun (x1:Int)=>((slices_Contains___int_int_ offered x1).bind fun (r_1:Bool)=>(if r_1=true then (some (.inr (.inr (x1,true)))) else (some (.inl (w64 (s0+1))))))) else none) else (some (.inr (.inl ())))
def hello_first (own:List (Int)) (offered:List (Int)):Option (Int × Bool) :=
 (loop (hello_first.b0 own offered) BIG 0).bind fun (t_1:(Unit) ⊕ (Int × Bool))=>(match t_1 with | .inl t_1=>(some (0,false)) | .inr rv=>some rv)
set_option maxHeartbeats 4000000 in
set_option maxRecDepth 20000 in
theorem F61_calls (Aown:Adr) (cown:Nat) (Aoffered:Adr) (coffered:Nat) (own:List (Int)) (offered:List (Int)) (hcown:(own).length≤cown) (hcoffered:(offered).length≤coffered) (r:Int × Bool) (H:hello_first own offered=some r) :
  Does Tryz.prog 61 [sl Aown ((own).length) cown,sl Aoffered ((offered).length) coffered] [] [⟨Aown,eI own⟩,⟨Aoffered,eI offered⟩] (Γ:=Unit) (fun g=>Value.tuple [vi r.1,vb r.2].toArray) (fun g=>[]):=by
 intro w hmem hro hd
 refine calls_of (N:=19) (m0:=[(0,sl Aown ((own).length) cown),(1,sl Aoffered ((offered).length) coffered)]) func61 rfl ntmps61 (argM_ok [sl Aown ((own).length) cown,sl Aoffered ((offered).length) coffered]) rfl hmem hro hd ?_
 unfold hello_first at H
 refine TC_seq (TC_region (TVa ?_))
 refine TVa ?_
 refine TL_nil (TX_next (TC_seq (TC_seq (TC_region (TVm ?_)))))
 refine TLv (V_len_slice rfl underlying22) ?_
 refine TVm ?_
 refine TL_nil (TX_next (TC_block ?_))
 obtain ⟨t_1,Hl,H⟩:=bind_elim H
 refine TC.sub (m':=[(1,_),(8,_),(9,_),(10,_)]) ⟨rfl,rfl,rfl,rfl,trivial⟩ ?_
 refine TC.pull (is:=[]) (L':=[]) rfl ?_
 refine TC_loopR (id:=0) (body:=(hello_first.b0 own offered)) (σ:=Int) (Γ:=Unit) (Γx:=Unit) (fun s0 g0_=>[(1,sl Aoffered ((offered).length) coffered),(8,sl Aown ((own).length) cown),(9,vi ((own).length:Int)),(10,vi s0)]) (fun s0 g0_=>[]) (fun t g=>[]) (fun t g=>[]) r ?_ BIG 0 () t_1 Hl ?_
 ·intro s0 g0_ r1 H K hK hE hR1
  unfold hello_first.b0 at H
  refine TC_seq (TC_region (TLv (V_bin rfl rfl (fun w=>lssI w s0 ((own).length:Int))) ?_))
  refine TL_nil (TX_next (TC_seq (TCd H (fun hc H=>?_) (fun hc H=>?_))))
  ·refine TC_skip (TX_next (TC_seq (TC_block (TC_seq (TC_region ?_)))))
   obtain ⟨h1,H⟩:=if_elim H
   refine TLv (V_idxSlS (i:=s0) rfl rfl underlying22 inf3 rfl (.r 0) (map_ne (toNat_lt h1.1 h1.2)) h1.1 h1.2 (k:=(s0).toNat) (km1 _)) ?_
   refine TLv (V_load rfl (.r 0) (get_map (f:=vi) (l:=own) (toNat_lt h1.1 h1.2)) isAgg3) ?_
   refine TVa ?_
   obtain ⟨x1,hx1,H⟩:=ltt_elim H
   refine TLr 7 (congrArg vi hx1) ?_
   refine TL_nil (TX_next (TC_seq (TC_region (TVm ?_))))
   refine TVm ?_
   obtain ⟨r_1,hr_1,H⟩:=bind_elim H
   refine TLe (E_c0 (F62_calls Aoffered coffered offered x1 hcoffered r_1 hr_1) call62 ⟨.r 1,trivial⟩) (fun g_1=>?_)
   refine TL_nil (TX_next (TCb H (fun hc H=>?_) (fun hc H=>?_)))
   ·refine TC_seq (TC_region (TVm ?_))
    refine TVa ?_
    refine TVa ?_
    refine TL_nil (TX_next (TC_ret (TX_block_ret (TX_then_ret (TX_then_ret (TX_block_ret (TX_then_ret ?_)))))))
    have hrv:=(hR1 _ (Option.some.inj H).symm)
    subst hrv
    exact TX2
   ·refine TC_skip (TX_block_normal (TX_next (TC_region (TLv (V_bin rfl rfl (fun w=>addI w s0 1)) ?_))))
    refine TVm ?_
    refine TL_nil ?_
    obtain rfl:=sj H
    exact TXk [] (hK (w64 (s0+1)) rfl ())
  ·refine TC_exit (TX_then_exit (TX_then_exit ?_))
   obtain rfl:=sj H
   exact TXj [] (hE () rfl ())
 ·rcases t_1 with t_1 | rv
  ·intro gx1
   dsimp only at H
   refine TX_block_exit (TX_next (TC_seq (TC_region (TVa ?_))))
   refine TVa ?_
   refine TL_nil (TX_next (TC_ret ?_))
   obtain rfl:=sj H
   exact TX2
  ·exact (Option.some.inj H)
end Go.Proofs
end

section
namespace Go.Proofs
open Go Go.Kx
open TryzI Tryz
def hello_asking_offers (a_c_Server:Bool) (a_c_Suites:List (Int)) (a_c_Groups:List (Int)) (a_c_Chain:List (Str)) (a_c_Key:Str) (a_c_Roots:List (Str)) (a_c_Name:Str) (a_c_Tickets:Int) (a_c_Seal:Str) (a_c_Psk:List (Str × Str × Int × Int × Int × Int)) (a_c_Tape:Str) (a_c_Clock:Int) (a_c_Pad:Int) (a_c_Limit:Int) (a_c_Ring:Int) (a_m_Kind:Int) (a_m_Random:Str) (a_m_Session:Str) (a_m_Suites:List (Int)) (a_m_Name:Str) (a_m_Versions:List (Int)) (a_m_Groups:List (Int)) (a_m_Schemes:List (Int)) (a_m_Modes:List (Int)) (a_m_Shares:List (Int × Str)) (a_m_Identities:List (Str × Int)) (a_m_Binders:List (Str)) (a_m_Psk:Int) (a_m_Others:List (Int)) (a_m_Certs:List (Str)) (a_m_Scheme:Int) (a_m_Data:Str) (a_m_Life:Int) (a_m_Add:Int) (a_m_Nonce:Str) (a_m_Update:Int) (a_again:Bool) (a_group:Int) (a_out_Suite:Int) (a_out_Group:Int) (a_out_Share:Str) (a_out_Retry:Bool) (a_out_Psk:Bool) (a_out_Alert:Int):Option (Int × Int) :=
 (hello_first a_c_Suites a_m_Suites).bind fun (r_1:Int × Bool)=>((slices_Contains___int_int_ a_m_Versions 772).bind fun (r_2:Bool)=>(if (!r_2)=true then (some (70,r_1.1)) else (if (!r_1.2)=true then (some (40,r_1.1)) else ((if ((a_m_Groups).length:Int)=0 then (some true) else (ltt (decide (((a_m_Shares).length:Int)=0)) fun (x1:Bool)=>(some x1))).bind fun (j1:Bool)=>(if j1=true then (some (109,r_1.1)) else (some ((-1),r_1.1)))))))
set_option maxHeartbeats 4000000 in
set_option maxRecDepth 20000 in
theorem F30_calls (ba:Nat) (oba:Nat) (ba_c:Nat) (oba_c:Nat) (Aa_c_Suites:Adr) (ca_c_Suites:Nat) (Aa_c_Groups:Adr) (ca_c_Groups:Nat) (Aa_c_Chain:Adr) (ca_c_Chain:Nat) (Aa_c_Roots:Adr) (ca_c_Roots:Nat) (Aa_c_Psk:Adr) (ca_c_Psk:Nat) (ba_m:Nat) (oba_m:Nat) (Aa_m_Suites:Adr) (ca_m_Suites:Nat) (Aa_m_Versions:Adr) (ca_m_Versions:Nat) (Aa_m_Groups:Adr) (ca_m_Groups:Nat) (Aa_m_Schemes:Adr) (ca_m_Schemes:Nat) (Aa_m_Modes:Adr) (ca_m_Modes:Nat) (Aa_m_Shares:Adr) (ca_m_Shares:Nat) (Aa_m_Identities:Adr) (ca_m_Identities:Nat) (Aa_m_Binders:Adr) (ca_m_Binders:Nat) (Aa_m_Others:Adr) (ca_m_Others:Nat) (Aa_m_Certs:Adr) (ca_m_Certs:Nat) (a_c_Server:Bool) (a_c_Suites:List (Int)) (a_c_Groups:List (Int)) (a_c_Chain:List (Str)) (a_c_Key:Str) (a_c_Roots:List (Str)) (a_c_Name:Str) (a_c_Tickets:Int) (a_c_Seal:Str) (a_c_Psk:List (Str × Str × Int × Int × Int × Int)) (a_c_Tape:Str) (a_c_Clock:Int) (a_c_Pad:Int) (a_c_Limit:Int) (a_c_Ring:Int) (a_m_Kind:Int) (a_m_Random:Str) (a_m_Session:Str) (a_m_Suites:List (Int)) (a_m_Name:Str) (a_m_Versions:List (Int)) (a_m_Groups:List (Int)) (a_m_Schemes:List (Int)) (a_m_Modes:List (Int)) (a_m_Shares:List (Int × Str)) (a_m_Identities:List (Str × Int)) (a_m_Binders:List (Str)) (a_m_Psk:Int) (a_m_Others:List (Int)) (a_m_Certs:List (Str)) (a_m_Scheme:Int) (a_m_Data:Str) (a_m_Life:Int) (a_m_Add:Int) (a_m_Nonce:Str) (a_m_Update:Int) (a_again:Bool) (a_group:Int) (a_out_Suite:Int) (a_out_Group:Int) (a_out_Share:Str) (a_out_Retry:Bool) (a_out_Psk:Bool) (a_out_Alert:Int) (hca_c_Suites:(a_c_Suites).length≤ca_c_Suites) (hca_c_Groups:(a_c_Groups).length≤ca_c_Groups) (hca_c_Chain:(a_c_Chain).length≤ca_c_Chain) (hca_c_Roots:(a_c_Roots).length≤ca_c_Roots) (hca_c_Psk:(a_c_Psk).length≤ca_c_Psk) (hca_m_Suites:(a_m_Suites).length≤ca_m_Suites) (hca_m_Versions:(a_m_Versions).length≤ca_m_Versions) (hca_m_Groups:(a_m_Groups).length≤ca_m_Groups) (hca_m_Schemes:(a_m_Schemes).length≤ca_m_Schemes) (hca_m_Modes:(a_m_Modes).length≤ca_m_Modes) (hca_m_Shares:(a_m_Shares).length≤ca_m_Shares) (hca_m_Identities:(a_m_Identities).length≤ca_m_Identities) (hca_m_Binders:(a_m_Binders).length≤ca_m_Binders) (hca_m_Others:(a_m_Others).length≤ca_m_Others) (hca_m_Certs:(a_m_Certs).length≤ca_m_Certs) (r:Int × Int) (H:hello_asking_offers a_c_Server a_c_Suites a_c_Groups a_c_Chain a_c_Key a_c_Roots a_c_Name a_c_Tickets a_c_Seal a_c_Psk a_c_Tape a_c_Clock a_c_Pad a_c_Limit a_c_Ring a_m_Kind a_m_Random a_m_Session a_m_Suites a_m_Name a_m_Versions a_m_Groups a_m_Schemes a_m_Modes a_m_Shares a_m_Identities a_m_Binders a_m_Psk a_m_Others a_m_Certs a_m_Scheme a_m_Data a_m_Life a_m_Add a_m_Nonce a_m_Update a_again a_group a_out_Suite a_out_Group a_out_Share a_out_Retry a_out_Psk a_out_Alert=some r) :
  Does Tryz.prog 30 [ptr (some (ba,oba)) 0] [⟨some (ba,oba+4),[vi a_out_Suite]⟩] [⟨some (ba,oba),[ptr (some (ba_c,oba_c)) 0]⟩,⟨some (ba,oba+1),[ptr (some (ba_m,oba_m)) 0]⟩,⟨some (ba,oba+2),[vb a_again]⟩,⟨some (ba,oba+3),[vi a_group]⟩,⟨some (ba,oba+5),[vi a_out_Group]⟩,⟨some (ba,oba+6),[vs a_out_Share]⟩,⟨some (ba,oba+7),[vb a_out_Retry]⟩,⟨some (ba,oba+8),[vb a_out_Psk]⟩,⟨some (ba,oba+9),[vi a_out_Alert]⟩,⟨some (ba_c,oba_c),[vb a_c_Server]⟩,⟨some (ba_c,oba_c+1),[sl Aa_c_Suites ((a_c_Suites).length) ca_c_Suites]⟩,⟨some (ba_c,oba_c+2),[sl Aa_c_Groups ((a_c_Groups).length) ca_c_Groups]⟩,⟨some (ba_c,oba_c+3),[sl Aa_c_Chain ((a_c_Chain).length) ca_c_Chain]⟩,⟨some (ba_c,oba_c+4),[vs a_c_Key]⟩,⟨some (ba_c,oba_c+5),[sl Aa_c_Roots ((a_c_Roots).length) ca_c_Roots]⟩,⟨some (ba_c,oba_c+6),[vs a_c_Name]⟩,⟨some (ba_c,oba_c+7),[vi a_c_Tickets]⟩,⟨some (ba_c,oba_c+8),[vs a_c_Seal]⟩,⟨some (ba_c,oba_c+9),[sl Aa_c_Psk ((a_c_Psk).length) ca_c_Psk]⟩,⟨some (ba_c,oba_c+10),[vs a_c_Tape]⟩,⟨some (ba_c,oba_c+11),[vi a_c_Clock]⟩,⟨some (ba_c,oba_c+12),[vi a_c_Pad]⟩,⟨some (ba_c,oba_c+13),[vi a_c_Limit]⟩,⟨some (ba_c,oba_c+14),[vi a_c_Ring]⟩,⟨Aa_c_Suites,eI a_c_Suites⟩,⟨Aa_c_Groups,eI a_c_Groups⟩,⟨Aa_c_Chain,eS a_c_Chain⟩,⟨Aa_c_Roots,eS a_c_Roots⟩,⟨Aa_c_Psk,eF (fun p:Str × Str × Int × Int × Int × Int=>[vs p.1,vs p.2.1,vi p.2.2.1,vi p.2.2.2.1,vi p.2.2.2.2.1,vi p.2.2.2.2.2]) a_c_Psk⟩,⟨some (ba_m,oba_m),[vi a_m_Kind]⟩,⟨some (ba_m,oba_m+1),[vs a_m_Random]⟩,⟨some (ba_m,oba_m+2),[vs a_m_Session]⟩,⟨some (ba_m,oba_m+3),[sl Aa_m_Suites ((a_m_Suites).length) ca_m_Suites]⟩,⟨some (ba_m,oba_m+4),[vs a_m_Name]⟩,⟨some (ba_m,oba_m+5),[sl Aa_m_Versions ((a_m_Versions).length) ca_m_Versions]⟩,⟨some (ba_m,oba_m+6),[sl Aa_m_Groups ((a_m_Groups).length) ca_m_Groups]⟩,⟨some (ba_m,oba_m+7),[sl Aa_m_Schemes ((a_m_Schemes).length) ca_m_Schemes]⟩,⟨some (ba_m,oba_m+8),[sl Aa_m_Modes ((a_m_Modes).length) ca_m_Modes]⟩,⟨some (ba_m,oba_m+9),[sl Aa_m_Shares ((a_m_Shares).length) ca_m_Shares]⟩,⟨some (ba_m,oba_m+10),[sl Aa_m_Identities ((a_m_Identities).length) ca_m_Identities]⟩,⟨some (ba_m,oba_m+11),[sl Aa_m_Binders ((a_m_Binders).length) ca_m_Binders]⟩,⟨some (ba_m,oba_m+12),[vi a_m_Psk]⟩,⟨some (ba_m,oba_m+13),[sl Aa_m_Others ((a_m_Others).length) ca_m_Others]⟩,⟨some (ba_m,oba_m+14),[sl Aa_m_Certs ((a_m_Certs).length) ca_m_Certs]⟩,⟨some (ba_m,oba_m+15),[vi a_m_Scheme]⟩,⟨some (ba_m,oba_m+16),[vs a_m_Data]⟩,⟨some (ba_m,oba_m+17),[vi a_m_Life]⟩,⟨some (ba_m,oba_m+18),[vi a_m_Add]⟩,⟨some (ba_m,oba_m+19),[vs a_m_Nonce]⟩,⟨some (ba_m,oba_m+20),[vi a_m_Update]⟩,⟨Aa_m_Suites,eI a_m_Suites⟩,⟨Aa_m_Versions,eI a_m_Versions⟩,⟨Aa_m_Groups,eI a_m_Groups⟩,⟨Aa_m_Schemes,eI a_m_Schemes⟩,⟨Aa_m_Modes,eI a_m_Modes⟩,⟨Aa_m_Shares,eF (fun p:Int × Str=>[vi p.1,vs p.2]) a_m_Shares⟩,⟨Aa_m_Identities,eF (fun p:Str × Int=>[vs p.1,vi p.2]) a_m_Identities⟩,⟨Aa_m_Binders,eS a_m_Binders⟩,⟨Aa_m_Others,eI a_m_Others⟩,⟨Aa_m_Certs,eS a_m_Certs⟩] (Γ:=Unit) (fun g=>vi r.1) (fun g=>[⟨some (ba,oba+4),[vi r.2]⟩]):=by
 intro w hmem hro hd
 refine calls_of (N:=60) (m0:=[(0,ptr (some (ba,oba)) 0)]) func30 rfl ntmps30 (argM_ok [ptr (some (ba,oba)) 0]) rfl hmem hro hd ?_
 unfold hello_asking_offers at H
 refine TC_seq (TC_region (TVa ?_))
 refine TL_nil (TX_next (TC_seq (TC_region (TVa ?_))))
 refine TL_nil (TX_next (TC_seq ?_))
 obtain ⟨r_1,hr_1,H⟩:=bind_elim H
 refine TA_begin [] 23 (by kernel_rfl) (N:=24) rfl ?_
 refine TA_tk 0 [] (dn 24 1) rfl rfl (V_move rfl) ?_
 refine TA_tk 1 [] (dn 24 3) rfl rfl (V_move rfl) ?_
 refine TA_tk 2 [] (dn 24 7) rfl rfl (V_nilCheck rfl) ?_
 refine TA_tk 3 [] (dn 24 15) rfl rfl (V_fieldE rfl underlying74 rfl rfl inf71 rfl (v:=ptr (some (ba,oba)) 0) rfl) ?_
 refine TA_tk 4 [] (dn 24 31) rfl rfl (V_load rfl (.r 0) rfl isAgg71) ?_
 refine TA_tk 5 [] (dn 24 63) rfl rfl (V_nilCheck rfl) ?_
 refine TA_tk 6 [] (dn 24 127) rfl rfl (V_fieldE rfl underlying26 rfl rfl inf22 rfl (v:=ptr (some (ba_c,oba_c+1)) 0) rfl) ?_
 refine TA_tk 7 [] (dn 24 255) rfl rfl (V_load rfl (.r 10) rfl isAgg22) ?_
 refine TA_tk 8 [] (dn 24 511) rfl rfl (V_move rfl) ?_
 refine TA_tk 9 [] (dn 24 1023) rfl rfl (V_nilCheck rfl) ?_
 refine TA_tk 10 [] (dn 24 2047) rfl rfl (V_fieldE rfl underlying74 rfl rfl inf72 rfl (v:=ptr (some (ba,oba+1)) 0) rfl) ?_
 refine TA_tk 11 [] (dn 24 4095) rfl rfl (V_load rfl (.r 1) rfl isAgg72) ?_
 refine TA_tk 12 [] (dn 24 8191) rfl rfl (V_nilCheck rfl) ?_
 refine TA_tk 13 [] (dn 24 16383) rfl rfl (V_fieldE rfl underlying30 rfl rfl inf22 rfl (v:=ptr (some (ba_m,oba_m+3)) 0) rfl) ?_
 refine TA_tk 14 [] (dn 24 32767) rfl rfl (V_load rfl (.r 32) rfl isAgg22) ?_
 refine TA_all (rs:=[15]) (by kernel_rfl) rfl ?_
 refine ⟨?_,trivial⟩
 refine TO_e (is:=[]) (done':=dn 24 65535) rfl rfl rfl rfl (by kernel_rfl) (E_c0 (F61_calls Aa_c_Suites ca_c_Suites Aa_m_Suites ca_m_Suites a_c_Suites a_m_Suites hca_c_Suites hca_m_Suites r_1 hr_1) call61 ⟨.r 24, .r 50,trivial⟩) (fun _ _=>rfl) (fun g_1=>?_)
 refine TA_tk 16 [] (dn 24 131071) rfl rfl (V_move rfl) ?_
 refine TA_tk 17 [] (dn 24 262143) rfl rfl V_ex ?_
 refine TA_tk 18 [] (dn 24 524287) rfl rfl V_ex ?_
 refine TA_tk 19 [] (dn 24 1048575) rfl rfl (V_nilCheck rfl) ?_
 refine TA_tk 20 [] (dn 24 2097151) rfl rfl (V_fieldE rfl underlying74 rfl rfl inf34 rfl (v:=ptr (some (ba,oba+4)) 0) rfl) ?_
 refine TA_tk 21 [] (dn 24 4194303) rfl rfl (V_fieldE rfl underlying34 rfl rfl inf3 rfl (v:=ptr (some (ba,oba+4)) 0) rfl) ?_
 refine TA_all (rs:=[22]) (by kernel_rfl) rfl ?_
 refine ⟨?_,trivial⟩
 refine TO_n (is:=[]) (done':=dn 24 8388607) rfl rfl rfl (by kernel_rfl) (E_store (j:=0) rfl rfl inf3 rfl rfl rfl (Nat.lt_succ_self 0) (cs':=[vi r_1.1]) rfl) (fun _ _=>rfl) (fun _=>?_)
 refine TA_all (rs:=[23]) (by kernel_rfl) rfl ?_
 refine ⟨?_,trivial⟩
 refine TO_v (is:=[]) (R:=[]) (done':=dn 24 16777215) rfl rfl rfl rfl (by kernel_rfl) (V_assign rfl) (fun h=>by cases h) ?_
 refine TA_done (by kernel_rfl) ?_ 0
 refine TX_next (TC_seq (TC_block (TC_seq (TC_region (TVm ?_)))))
 refine TLv (V_nilCheck rfl) ?_
 refine TLv (V_fieldE rfl underlying74 rfl rfl inf72 rfl (v:=ptr (some (ba,oba+1)) 0) rfl) ?_
 refine TLv (V_load rfl (.r 1) rfl isAgg72) ?_
 refine TLv (V_nilCheck rfl) ?_
 refine TLv (V_fieldE rfl underlying30 rfl rfl inf22 rfl (v:=ptr (some (ba_m,oba_m+5)) 0) rfl) ?_
 refine TLv (V_load rfl (.r 34) rfl isAgg22) ?_
 obtain ⟨r_2,hr_2,H⟩:=bind_elim H
 refine TLe (E_c0 (F62_calls Aa_m_Versions ca_m_Versions a_m_Versions 772 hca_m_Versions r_2 hr_2) call62 ⟨.r 51,trivial⟩) (fun g_2=>?_)
 refine TLv (V_un rfl (fun w=>notB w r_2)) ?_
 refine TVa ?_
 refine TL_nil (TX_next (TC.sub (m':=[(0,_),(3,_),(26,_)]) ⟨rfl,rfl,rfl,trivial⟩ ?_))
 refine TC.pull (is:=[0]) (L':=[_]) rfl ?_
 refine TCb H (fun hc H=>?_) (fun hc H=>?_)
 ·refine TC_seq (TC_region (TVa ?_))
  refine TL_nil (TX_next (TC_ret (TX_block_ret (TX_then_ret ?_))))
  obtain rfl:=sj H
  exact TX_ret (rs:=[.tmp 2]) (vs:=[vi 70]) rfl ⟨rfl,trivial⟩ (fun w' hs'=>⟨(),rfl,Step.left (Step.pulled (is:=[0]) (A:=[⟨some (ba,oba+4),[vi r_1.1]⟩]) hs' rfl)⟩)
 ·refine TC_seq (TC_region (TVm ?_))
  refine TLv (V_un rfl (fun w=>notB w r_1.2)) ?_
  refine TVa ?_
  refine TL_nil (TX_next (TCb H (fun hc H=>?_) (fun hc H=>?_)))
  ·refine TC_seq (TC_region (TVa ?_))
   refine TL_nil (TX_next (TC_ret (TX_block_ret (TX_then_ret ?_))))
   obtain rfl:=sj H
   exact TX_ret (rs:=[.tmp 2]) (vs:=[vi 40]) rfl ⟨rfl,trivial⟩ (fun w' hs'=>⟨(),rfl,Step.left (Step.pulled (is:=[0]) (A:=[⟨some (ba,oba+4),[vi r_1.1]⟩]) hs' rfl)⟩)
  ·refine TC_seq (TC_region (TVm ?_))
   refine TLv (V_nilCheck rfl) ?_
   refine TLv (V_fieldE rfl underlying74 rfl rfl inf72 rfl (v:=ptr (some (ba,oba+1)) 0) rfl) ?_
   refine TLv (V_load rfl (.r 1) rfl isAgg72) ?_
   refine TLv (V_nilCheck rfl) ?_
   refine TLv (V_fieldE rfl underlying30 rfl rfl inf22 rfl (v:=ptr (some (ba_m,oba_m+6)) 0) rfl) ?_
   refine TLv (V_load rfl (.r 35) rfl isAgg22) ?_
   refine TLv (V_len_slice rfl underlying22) ?_
   refine TLv (V_bin rfl rfl (fun w=>eqlI w ((a_m_Groups).length:Int) 0)) ?_
   refine TVm ?_
   obtain ⟨j1,Hj,H⟩:=bind_elim H
   refine TL_join (Γ:=Unit) (fun gj1=>[(39,vb j1)]) (fun gj1=>[⟨some (ba,oba+4),[vi r_1.1]⟩]) ?_ ?_
   ·intro gj1
    refine TX_next (TCb H (fun hc H=>?_) (fun hc H=>?_))
    ·refine TC_seq (TC_region (TVa ?_))
     refine TL_nil (TX_next (TC_ret (TX_block_ret (TX_then_ret ?_))))
     obtain rfl:=sj H
     exact TX_ret (rs:=[.tmp 2]) (vs:=[vi 109]) rfl ⟨rfl,trivial⟩ (fun w' hs'=>⟨(),rfl,Step.left (Step.pulled (is:=[0]) (A:=[⟨some (ba,oba+4),[vi r_1.1]⟩]) hs' rfl)⟩)
    ·refine TC_skip (TX_block_normal (TX_next (TC_seq (TC_region (TVa ?_)))))
     refine TL_nil (TX_next (TC_ret ?_))
     obtain rfl:=sj H
     exact TX_ret (rs:=[.tmp 2]) (vs:=[vi (-1)]) rfl ⟨rfl,trivial⟩ (fun w' hs'=>⟨(),rfl,Step.left (Step.pulled (is:=[0]) (A:=[⟨some (ba,oba+4),[vi r_1.1]⟩]) hs' rfl)⟩)
   ·intro hJ
    replace H:=Hj
    refine TFd (d:=49) H (fun hc H=>?_) (fun hc H=>?_)
    ·refine TLs ?_
     refine TLs ?_
     refine TLs ?_
     refine TLs ?_
     refine TLs ?_
     refine TLs ?_
     refine TLs ?_
     refine TLs ?_
     refine TLs ?_
     refine TVt ?_
     refine TVa ?_
     refine TL_nil ?_
     obtain rfl:=sj H
     exact TXj [0] (hJ ())
    ·refine TLw (V_move rfl) ?_
     refine TLw (V_nilCheck rfl) ?_
     refine TLw (V_fieldE rfl underlying74 rfl rfl inf72 rfl (v:=ptr (some (ba,oba+1)) 0) rfl) ?_
     refine TLw (V_load rfl (.r 1) rfl isAgg72) ?_
     refine TLw (V_nilCheck rfl) ?_
     refine TLw (V_fieldE rfl underlying30 rfl rfl inf27 rfl (v:=ptr (some (ba_m,oba_m+9)) 0) rfl) ?_
     refine TLw (V_load rfl (.r 38) rfl isAgg27) ?_
     refine TLw (V_len_slice rfl underlying27) ?_
     refine TLw (V_bin rfl rfl (fun w=>eqlI w ((a_m_Shares).length:Int) 0)) ?_
     refine TVf ?_
     refine TVa ?_
     obtain ⟨x1,hx1,H⟩:=ltt_elim H
     refine TLr 39 (congrArg vb hx1) ?_
     refine TL_nil ?_
     obtain rfl:=sj H
     exact TXj [0] (hJ ())
end Go.Proofs
end

section
namespace Go.Proofs
open Go Go.Kx
open TryzI Tryz
def hello_asking_shares_1 (x_Group:Int) (x_Key:Str) (cap0_Group:Int) (cap0_Key:Str):Option (Bool) :=
 ltt (decide (x_Group=cap0_Group)) fun (x1:Bool)=>(some x1)
set_option maxHeartbeats 4000000 in
set_option maxRecDepth 20000 in
theorem F64_calls (bcap0:Nat) (obcap0:Nat) (x_Group:Int) (x_Key:Str) (cap0_Group:Int) (cap0_Key:Str) (r:Bool) (H:hello_asking_shares_1 x_Group x_Key cap0_Group cap0_Key=some r) :
  Does Tryz.prog 64 [aG [(1,[vi x_Group]),(1,[vs x_Key])],ptr (some (bcap0,obcap0)) 0] [] [⟨some (bcap0,obcap0),[vi cap0_Group]⟩,⟨some (bcap0,obcap0+1),[vs cap0_Key]⟩] (Γ:=Unit) (fun g=>vb r) (fun g=>[]):=by
 intro w hmem hro hd
 refine calls_of (N:=9) (m0:=[(0,aG [(1,[vi x_Group]),(1,[vs x_Key])]),(1,ptr (some (bcap0,obcap0)) 0)]) func64 rfl ntmps64 (argM_ok [aG [(1,[vi x_Group]),(1,[vs x_Key])],ptr (some (bcap0,obcap0)) 0]) rfl hmem hro hd ?_
 unfold hello_asking_shares_1 at H
 refine TC_seq (TC_region (TLe (E_boxP [(1,[vi x_Group]),(1,[vs x_Key])] rfl rfl ⟨rfl,rfl,trivial⟩) (fun b1=>?_)))
 refine TVa ?_
 refine TL_nil (TX_next (TC_seq (TC_region (TLv (V_fieldE rfl underlying50 rfl rfl inf3 rfl (v:=ptr (some (b1,0)) 0) rfl) ?_))))
 refine TLv (V_load rfl (.o 0) rfl isAgg3) ?_
 refine TLv (V_fieldE rfl underlying50 rfl rfl inf3 rfl (v:=ptr (some (bcap0,obcap0)) 0) rfl) ?_
 refine TLv (V_load rfl (.r 0) rfl isAgg3) ?_
 refine TLv (V_bin rfl rfl (fun w=>eqlI w x_Group cap0_Group)) ?_
 refine TVa ?_
 obtain ⟨x1,hx1,H⟩:=ltt_elim H
 refine TLr 3 (congrArg vb hx1) ?_
 refine TL_nil (TX_next (TC_ret ?_))
 obtain rfl:=sj H
 exact TX1
end Go.Proofs
end

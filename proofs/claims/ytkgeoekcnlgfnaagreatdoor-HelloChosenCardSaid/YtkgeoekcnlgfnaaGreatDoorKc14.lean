/-
  Part 14 of the proof of what several laws share.
-/
import Derived.Test.YtkgeoekcnlgfnaaGreatDoorKc1
import Derived.Test.YtkgeoekcnlgfnaaGreatDoorKc2
import Derived.Test.YtkgeoekcnlgfnaaGreatDoorKc3
import Derived.Test.YtkgeoekcnlgfnaaGreatDoorKc4
import Derived.Test.YtkgeoekcnlgfnaaGreatDoorKc5
import Derived.Test.YtkgeoekcnlgfnaaGreatDoorKc6
import Derived.Test.YtkgeoekcnlgfnaaGreatDoorKc7
import Derived.Test.YtkgeoekcnlgfnaaGreatDoorKc12
import Derived.Test.YtkgeoekcnlgfnaaGreatDoorKc13
set_option linter.unusedVariables false
set_option linter.unusedSimpArgs false
section
namespace Go.Proofs
open Go Go.Kx
open TryzI Tryz
def hello_asking_shares.b0 (a_m_Groups:List (Int)) (a_m_Shares:List (Int × Str)) (a_out_Share:Str) (a_out_Retry:Bool) (r_1:Int × Bool) (s0:Int):Option ((Int) ⊕ ((Unit) ⊕ (Int × Int × Str × Bool))) :=
 if s0<((a_m_Shares).length:Int) then (if 0≤s0∧s0<((a_m_Shares).length:Int) then (if 0≤s0 then (if (s0).toNat≤(a_m_Shares).length then (if (s0).toNat≤(a_m_Shares).length then (if (s0).toNat≤(a_m_Shares).length then ((slices_ContainsFunc___api_Share_api_Share__fn1_64 (subL a_m_Shares 0 ((s0).toNat)) ((lg a_m_Shares ((s0).toNat)).1) ((lg a_m_Shares ((s0).toNat)).2)).bind fun (r_2:Bool)=>(if r_2=true then (some (.inr (.inr (47,r_1.1,a_out_Share,a_out_Retry)))) else ((slices_Contains___int_int_ a_m_Groups ((lg a_m_Shares ((s0).toNat)).1)).bind fun (r_3:Bool)=>(if (!r_3)=true then (some (.inr (.inr (47,r_1.1,a_out_Share,a_out_Retry)))) else (some (.inl (w64 (s0+1)))))))) else none) else none) else none) else none) else none) else (some (.inr (.inl ())))
def hello_asking_shares (a_c_Server:Bool) (a_c_Suites:List (Int)) (a_c_Groups:List (Int)) (a_c_Chain:List (Str)) (a_c_Key:Str) (a_c_Roots:List (Str)) (a_c_Name:Str) (a_c_Tickets:Int) (a_c_Seal:Str) (a_c_Psk:List (Str × Str × Int × Int × Int × Int)) (a_c_Tape:Str) (a_c_Clock:Int) (a_c_Pad:Int) (a_c_Limit:Int) (a_c_Ring:Int) (a_m_Kind:Int) (a_m_Random:Str) (a_m_Session:Str) (a_m_Suites:List (Int)) (a_m_Name:Str) (a_m_Versions:List (Int)) (a_m_Groups:List (Int)) (a_m_Schemes:List (Int)) (a_m_Modes:List (Int)) (a_m_Shares:List (Int × Str)) (a_m_Identities:List (Str × Int)) (a_m_Binders:List (Str)) (a_m_Psk:Int) (a_m_Others:List (Int)) (a_m_Certs:List (Str)) (a_m_Scheme:Int) (a_m_Data:Str) (a_m_Life:Int) (a_m_Add:Int) (a_m_Nonce:Str) (a_m_Update:Int) (a_again:Bool) (a_group:Int) (a_out_Suite:Int) (a_out_Group:Int) (a_out_Share:Str) (a_out_Retry:Bool) (a_out_Psk:Bool) (a_out_Alert:Int):Option (Int × Int × Str × Bool) :=
 (hello_first a_c_Groups a_m_Groups).bind fun (r_1:Int × Bool)=>(if (!r_1.2)=true then (some (40,r_1.1,a_out_Share,a_out_Retry)) else ((loop (hello_asking_shares.b0 a_m_Groups a_m_Shares a_out_Share a_out_Retry r_1) BIG 0).bind fun (t_1:(Unit) ⊕ (Int × Int × Str × Bool))=>(match t_1 with | .inl t_1=>(if a_again=true then (if ((a_m_Shares).length:Int) ≠ 1 then (some (47,r_1.1,a_out_Share,a_out_Retry)) else (if 0≤(0:Int)∧(0:Int)<((a_m_Shares).length:Int) then (if ((lg a_m_Shares 0).1) ≠ a_group then (some (47,r_1.1,a_out_Share,a_out_Retry)) else ((slices_IndexFunc___api_Share_api_Share__fn1_66 a_m_Shares a_c_Server a_c_Suites a_c_Groups a_c_Chain a_c_Key a_c_Roots a_c_Name a_c_Tickets a_c_Seal a_c_Psk a_c_Tape a_c_Clock a_c_Pad a_c_Limit a_c_Ring a_m_Kind a_m_Random a_m_Session a_m_Suites a_m_Name a_m_Versions a_m_Groups a_m_Schemes a_m_Modes a_m_Shares a_m_Identities a_m_Binders a_m_Psk a_m_Others a_m_Certs a_m_Scheme a_m_Data a_m_Life a_m_Add a_m_Nonce a_m_Update a_again a_group a_out_Suite a_group a_out_Share a_out_Retry a_out_Psk a_out_Alert).bind fun (r_4:Int)=>(if (!(decide (r_4<0)))=true then (if 0≤r_4∧r_4<((a_m_Shares).length:Int) then (some ((-1),a_group,(lg a_m_Shares ((r_4).toNat)).2,decide (r_4<0))) else none) else (some ((-1),a_group,a_out_Share,decide (r_4<0)))))) else none)) else ((slices_IndexFunc___api_Share_api_Share__fn1_66 a_m_Shares a_c_Server a_c_Suites a_c_Groups a_c_Chain a_c_Key a_c_Roots a_c_Name a_c_Tickets a_c_Seal a_c_Psk a_c_Tape a_c_Clock a_c_Pad a_c_Limit a_c_Ring a_m_Kind a_m_Random a_m_Session a_m_Suites a_m_Name a_m_Versions a_m_Groups a_m_Schemes a_m_Modes a_m_Shares a_m_Identities a_m_Binders a_m_Psk a_m_Others a_m_Certs a_m_Scheme a_m_Data a_m_Life a_m_Add a_m_Nonce a_m_Update a_again a_group a_out_Suite r_1.1 a_out_Share a_out_Retry a_out_Psk a_out_Alert).bind fun (r_5:Int)=>(if (!(decide (r_5<0)))=true then (if 0≤r_5∧r_5<((a_m_Shares).length:Int) then (some ((-1),r_1.1,(lg a_m_Shares ((r_5).toNat)).2,decide (r_5<0))) else none) else (some ((-1),r_1.1,a_out_Share,decide (r_5<0)))))) | .inr rv=>some rv)))
set_option maxHeartbeats 4000000 in
set_option maxRecDepth 20000 in
theorem F31_calls (ba:Nat) (oba:Nat) (ba_c:Nat) (oba_c:Nat) (Aa_c_Suites:Adr) (ca_c_Suites:Nat) (Aa_c_Groups:Adr) (ca_c_Groups:Nat) (Aa_c_Chain:Adr) (ca_c_Chain:Nat) (Aa_c_Roots:Adr) (ca_c_Roots:Nat) (Aa_c_Psk:Adr) (ca_c_Psk:Nat) (ba_m:Nat) (oba_m:Nat) (Aa_m_Suites:Adr) (ca_m_Suites:Nat) (Aa_m_Versions:Adr) (ca_m_Versions:Nat) (Aa_m_Groups:Adr) (ca_m_Groups:Nat) (Aa_m_Schemes:Adr) (ca_m_Schemes:Nat) (Aa_m_Modes:Adr) (ca_m_Modes:Nat) (Aa_m_Shares:Adr) (ca_m_Shares:Nat) (Aa_m_Identities:Adr) (ca_m_Identities:Nat) (Aa_m_Binders:Adr) (ca_m_Binders:Nat) (Aa_m_Others:Adr) (ca_m_Others:Nat) (Aa_m_Certs:Adr) (ca_m_Certs:Nat) (a_c_Server:Bool) (a_c_Suites:List (Int)) (a_c_Groups:List (Int)) (a_c_Chain:List (Str)) (a_c_Key:Str) (a_c_Roots:List (Str)) (a_c_Name:Str) (a_c_Tickets:Int) (a_c_Seal:Str) (a_c_Psk:List (Str × Str × Int × Int × Int × Int)) (a_c_Tape:Str) (a_c_Clock:Int) (a_c_Pad:Int) (a_c_Limit:Int) (a_c_Ring:Int) (a_m_Kind:Int) (a_m_Random:Str) (a_m_Session:Str) (a_m_Suites:List (Int)) (a_m_Name:Str) (a_m_Versions:List (Int)) (a_m_Groups:List (Int)) (a_m_Schemes:List (Int)) (a_m_Modes:List (Int)) (a_m_Shares:List (Int × Str)) (a_m_Identities:List (Str × Int)) (a_m_Binders:List (Str)) (a_m_Psk:Int) (a_m_Others:List (Int)) (a_m_Certs:List (Str)) (a_m_Scheme:Int) (a_m_Data:Str) (a_m_Life:Int) (a_m_Add:Int) (a_m_Nonce:Str) (a_m_Update:Int) (a_again:Bool) (a_group:Int) (a_out_Suite:Int) (a_out_Group:Int) (a_out_Share:Str) (a_out_Retry:Bool) (a_out_Psk:Bool) (a_out_Alert:Int) (hca_c_Suites:(a_c_Suites).length≤ca_c_Suites) (hca_c_Groups:(a_c_Groups).length≤ca_c_Groups) (hca_c_Chain:(a_c_Chain).length≤ca_c_Chain) (hca_c_Roots:(a_c_Roots).length≤ca_c_Roots) (hca_c_Psk:(a_c_Psk).length≤ca_c_Psk) (hca_m_Suites:(a_m_Suites).length≤ca_m_Suites) (hca_m_Versions:(a_m_Versions).length≤ca_m_Versions) (hca_m_Groups:(a_m_Groups).length≤ca_m_Groups) (hca_m_Schemes:(a_m_Schemes).length≤ca_m_Schemes) (hca_m_Modes:(a_m_Modes).length≤ca_m_Modes) (hca_m_Shares:(a_m_Shares).length≤ca_m_Shares) (hca_m_Identities:(a_m_Identities).length≤ca_m_Identities) (hca_m_Binders:(a_m_Binders).length≤ca_m_Binders) (hca_m_Others:(a_m_Others).length≤ca_m_Others) (hca_m_Certs:(a_m_Certs).length≤ca_m_Certs) (r:Int × Int × Str × Bool) (H:hello_asking_shares a_c_Server a_c_Suites a_c_Groups a_c_Chain a_c_Key a_c_Roots a_c_Name a_c_Tickets a_c_Seal a_c_Psk a_c_Tape a_c_Clock a_c_Pad a_c_Limit a_c_Ring a_m_Kind a_m_Random a_m_Session a_m_Suites a_m_Name a_m_Versions a_m_Groups a_m_Schemes a_m_Modes a_m_Shares a_m_Identities a_m_Binders a_m_Psk a_m_Others a_m_Certs a_m_Scheme a_m_Data a_m_Life a_m_Add a_m_Nonce a_m_Update a_again a_group a_out_Suite a_out_Group a_out_Share a_out_Retry a_out_Psk a_out_Alert=some r) :
  Does Tryz.prog 31 [ptr (some (ba,oba)) 0] [⟨some (ba,oba+5),[vi a_out_Group]⟩,⟨some (ba,oba+6),[vs a_out_Share]⟩,⟨some (ba,oba+7),[vb a_out_Retry]⟩] [⟨some (ba,oba),[ptr (some (ba_c,oba_c)) 0]⟩,⟨some (ba,oba+1),[ptr (some (ba_m,oba_m)) 0]⟩,⟨some (ba,oba+2),[vb a_again]⟩,⟨some (ba,oba+3),[vi a_group]⟩,⟨some (ba,oba+4),[vi a_out_Suite]⟩,⟨some (ba,oba+8),[vb a_out_Psk]⟩,⟨some (ba,oba+9),[vi a_out_Alert]⟩,⟨some (ba_c,oba_c),[vb a_c_Server]⟩,⟨some (ba_c,oba_c+1),[sl Aa_c_Suites ((a_c_Suites).length) ca_c_Suites]⟩,⟨some (ba_c,oba_c+2),[sl Aa_c_Groups ((a_c_Groups).length) ca_c_Groups]⟩,⟨some (ba_c,oba_c+3),[sl Aa_c_Chain ((a_c_Chain).length) ca_c_Chain]⟩,⟨some (ba_c,oba_c+4),[vs a_c_Key]⟩,⟨some (ba_c,oba_c+5),[sl Aa_c_Roots ((a_c_Roots).length) ca_c_Roots]⟩,⟨some (ba_c,oba_c+6),[vs a_c_Name]⟩,⟨some (ba_c,oba_c+7),[vi a_c_Tickets]⟩,⟨some (ba_c,oba_c+8),[vs a_c_Seal]⟩,⟨some (ba_c,oba_c+9),[sl Aa_c_Psk ((a_c_Psk).length) ca_c_Psk]⟩,⟨some (ba_c,oba_c+10),[vs a_c_Tape]⟩,⟨some (ba_c,oba_c+11),[vi a_c_Clock]⟩,⟨some (ba_c,oba_c+12),[vi a_c_Pad]⟩,⟨some (ba_c,oba_c+13),[vi a_c_Limit]⟩,⟨some (ba_c,oba_c+14),[vi a_c_Ring]⟩,⟨Aa_c_Suites,eI a_c_Suites⟩,⟨Aa_c_Groups,eI a_c_Groups⟩,⟨Aa_c_Chain,eS a_c_Chain⟩,⟨Aa_c_Roots,eS a_c_Roots⟩,⟨Aa_c_Psk,eF (fun p:Str × Str × Int × Int × Int × Int=>[vs p.1,vs p.2.1,vi p.2.2.1,vi p.2.2.2.1,vi p.2.2.2.2.1,vi p.2.2.2.2.2]) a_c_Psk⟩,⟨some (ba_m,oba_m),[vi a_m_Kind]⟩,⟨some (ba_m,oba_m+1),[vs a_m_Random]⟩,⟨some (ba_m,oba_m+2),[vs a_m_Session]⟩,⟨some (ba_m,oba_m+3),[sl Aa_m_Suites ((a_m_Suites).length) ca_m_Suites]⟩,⟨some (ba_m,oba_m+4),[vs a_m_Name]⟩,⟨some (ba_m,oba_m+5),[sl Aa_m_Versions ((a_m_Versions).length) ca_m_Versions]⟩,⟨some (ba_m,oba_m+6),[sl Aa_m_Groups ((a_m_Groups).length) ca_m_Groups]⟩,⟨some (ba_m,oba_m+7),[sl Aa_m_Schemes ((a_m_Schemes).length) ca_m_Schemes]⟩,⟨some (ba_m,oba_m+8),[sl Aa_m_Modes ((a_m_Modes).length) ca_m_Modes]⟩,⟨some (ba_m,oba_m+9),[sl Aa_m_Shares ((a_m_Shares).length) ca_m_Shares]⟩,⟨some (ba_m,oba_m+10),[sl Aa_m_Identities ((a_m_Identities).length) ca_m_Identities]⟩,⟨some (ba_m,oba_m+11),[sl Aa_m_Binders ((a_m_Binders).length) ca_m_Binders]⟩,⟨some (ba_m,oba_m+12),[vi a_m_Psk]⟩,⟨some (ba_m,oba_m+13),[sl Aa_m_Others ((a_m_Others).length) ca_m_Others]⟩,⟨some (ba_m,oba_m+14),[sl Aa_m_Certs ((a_m_Certs).length) ca_m_Certs]⟩,⟨some (ba_m,oba_m+15),[vi a_m_Scheme]⟩,⟨some (ba_m,oba_m+16),[vs a_m_Data]⟩,⟨some (ba_m,oba_m+17),[vi a_m_Life]⟩,⟨some (ba_m,oba_m+18),[vi a_m_Add]⟩,⟨some (ba_m,oba_m+19),[vs a_m_Nonce]⟩,⟨some (ba_m,oba_m+20),[vi a_m_Update]⟩,⟨Aa_m_Suites,eI a_m_Suites⟩,⟨Aa_m_Versions,eI a_m_Versions⟩,⟨Aa_m_Groups,eI a_m_Groups⟩,⟨Aa_m_Schemes,eI a_m_Schemes⟩,⟨Aa_m_Modes,eI a_m_Modes⟩,⟨Aa_m_Shares,eF (fun p:Int × Str=>[vi p.1,vs p.2]) a_m_Shares⟩,⟨Aa_m_Identities,eF (fun p:Str × Int=>[vs p.1,vi p.2]) a_m_Identities⟩,⟨Aa_m_Binders,eS a_m_Binders⟩,⟨Aa_m_Others,eI a_m_Others⟩,⟨Aa_m_Certs,eS a_m_Certs⟩] (Γ:=Unit) (fun g=>vi r.1) (fun g=>[⟨some (ba,oba+5),[vi r.2.1]⟩,⟨some (ba,oba+6),[vs r.2.2.1]⟩,⟨some (ba,oba+7),[vb r.2.2.2]⟩]):=by
 intro w hmem hro hd
 refine calls_of (N:=145) (m0:=[(0,ptr (some (ba,oba)) 0)]) func31 rfl ntmps31 (argM_ok [ptr (some (ba,oba)) 0]) rfl hmem hro hd ?_
 unfold hello_asking_shares at H
 refine TC_seq (TC_region (TLe (E_boxP [(1,[ptr (some (ba,oba)) 0])] rfl rfl ⟨rfl,trivial⟩) (fun b1=>?_)))
 refine TVa ?_
 refine TL_nil (TX_next (TC_seq (TC_region (TVa ?_))))
 refine TL_nil (TX_next (TC_seq (TC_seq ?_)))
 obtain ⟨r_1,hr_1,H⟩:=bind_elim H
 refine TA_begin [⟨some (b1,0),[ptr (some (ba,oba)) 0]⟩,⟨some (ba,oba+6),[vs a_out_Share]⟩,⟨some (ba,oba+7),[vb a_out_Retry]⟩] 23 (by kernel_rfl) (N:=24) rfl ?_
 refine TA_tk 0 [0,1,1] (dn 24 1) rfl rfl (V_load rfl (.o 0) rfl isAgg70) ?_
 refine TA_tk 1 [0,1,1] (dn 24 3) rfl rfl (V_load rfl (.o 0) rfl isAgg70) ?_
 refine TA_tk 2 [0,1,1] (dn 24 7) rfl rfl (V_nilCheck rfl) ?_
 refine TA_tk 3 [0,1,1] (dn 24 15) rfl rfl (V_fieldE rfl underlying74 rfl rfl inf71 rfl (v:=ptr (some (ba,oba)) 0) rfl) ?_
 refine TA_tk 4 [0,1,1] (dn 24 31) rfl rfl (V_load rfl (.r 0) rfl isAgg71) ?_
 refine TA_tk 5 [0,1,1] (dn 24 63) rfl rfl (V_nilCheck rfl) ?_
 refine TA_tk 6 [0,1,1] (dn 24 127) rfl rfl (V_fieldE rfl underlying26 rfl rfl inf22 rfl (v:=ptr (some (ba_c,oba_c+2)) 0) rfl) ?_
 refine TA_tk 7 [0,1,1] (dn 24 255) rfl rfl (V_load rfl (.r 9) rfl isAgg22) ?_
 refine TA_tk 8 [0,1,1] (dn 24 511) rfl rfl (V_load rfl (.o 0) rfl isAgg70) ?_
 refine TA_tk 9 [0,1,1] (dn 24 1023) rfl rfl (V_nilCheck rfl) ?_
 refine TA_tk 10 [0,1,1] (dn 24 2047) rfl rfl (V_fieldE rfl underlying74 rfl rfl inf72 rfl (v:=ptr (some (ba,oba+1)) 0) rfl) ?_
 refine TA_tk 11 [0,1,1] (dn 24 4095) rfl rfl (V_load rfl (.r 1) rfl isAgg72) ?_
 refine TA_tk 12 [0,1,1] (dn 24 8191) rfl rfl (V_nilCheck rfl) ?_
 refine TA_tk 13 [0,1,1] (dn 24 16383) rfl rfl (V_fieldE rfl underlying30 rfl rfl inf22 rfl (v:=ptr (some (ba_m,oba_m+6)) 0) rfl) ?_
 refine TA_tk 14 [0,1,1] (dn 24 32767) rfl rfl (V_load rfl (.r 33) rfl isAgg22) ?_
 refine TA_all (rs:=[15]) (by kernel_rfl) rfl ?_
 refine ⟨?_,trivial⟩
 refine TO_e (is:=[0,1,1]) (done':=dn 24 65535) rfl rfl rfl rfl (by kernel_rfl) (E_c0 (F61_calls Aa_c_Groups ca_c_Groups Aa_m_Groups ca_m_Groups a_c_Groups a_m_Groups hca_c_Groups hca_m_Groups r_1 hr_1) call61 ⟨.r 23, .r 50,trivial⟩) (fun _ _=>rfl) (fun g_1=>?_)
 refine TA_tk 16 [0,1,1] (dn 24 131071) rfl rfl (V_move rfl) ?_
 refine TA_tk 17 [0,1,1] (dn 24 262143) rfl rfl V_ex ?_
 refine TA_tk 18 [0,1,1] (dn 24 524287) rfl rfl V_ex ?_
 refine TA_tk 19 [0,1,1] (dn 24 1048575) rfl rfl (V_nilCheck rfl) ?_
 refine TA_tk 20 [0,1,1] (dn 24 2097151) rfl rfl (V_fieldE rfl underlying74 rfl rfl inf34 rfl (v:=ptr (some (ba,oba+4)) 0) rfl) ?_
 refine TA_tk 21 [0,1,1] (dn 24 4194303) rfl rfl (V_fieldE rfl underlying34 rfl rfl inf3 rfl (v:=ptr (some (ba,oba+5)) 0) rfl) ?_
 refine TA_all (rs:=[22]) (by kernel_rfl) rfl ?_
 refine ⟨?_,trivial⟩
 refine TO_n (is:=[0,1,1]) (done':=dn 24 8388607) rfl rfl rfl (by kernel_rfl) (E_store (j:=1) rfl rfl inf3 rfl rfl rfl (Nat.lt_succ_self 0) (cs':=[vi r_1.1]) rfl) (fun _ _=>rfl) (fun _=>?_)
 refine TA_all (rs:=[23]) (by kernel_rfl) rfl ?_
 refine ⟨?_,trivial⟩
 refine TO_v (is:=[]) (R:=[]) (done':=dn 24 16777215) rfl rfl rfl rfl (by kernel_rfl) (V_assign rfl) (fun h=>by cases h) ?_
 refine TA_done (by kernel_rfl) ?_ 0
 refine TX_next (TC_seq (TC_region (TVm ?_)))
 refine TLv (V_un rfl (fun w=>notB w r_1.2)) ?_
 refine TL_nil (TX_next (TCb H (fun hc H=>?_) (fun hc H=>?_)))
 ·refine TC_seq (TC_region (TVa ?_))
  refine TL_nil (TX_next (TC_ret (TX_then_ret ?_)))
  obtain rfl:=sj H
  exact TX_ret (rs:=[.tmp 2]) (vs:=[vi 40]) rfl ⟨rfl,trivial⟩ (fun w' hs'=>⟨(),rfl,Step.left (Step.pulled (is:=[1,1,1]) (A:=[⟨some (ba,oba+5),[vi r_1.1]⟩,⟨some (ba,oba+6),[vs a_out_Share]⟩,⟨some (ba,oba+7),[vb a_out_Retry]⟩]) hs' rfl)⟩)
 ·refine TC_skip (TX_next (TC_seq (TC_seq (TC_region (TLv (V_load rfl (.o 0) rfl isAgg70) ?_)))))
  refine TLv (V_nilCheck rfl) ?_
  refine TLv (V_fieldE rfl underlying74 rfl rfl inf72 rfl (v:=ptr (some (ba,oba+1)) 0) rfl) ?_
  refine TLv (V_load rfl (.r 1) rfl isAgg72) ?_
  refine TLv (V_nilCheck rfl) ?_
  refine TLv (V_fieldE rfl underlying30 rfl rfl inf27 rfl (v:=ptr (some (ba_m,oba_m+9)) 0) rfl) ?_
  refine TLv (V_load rfl (.r 36) rfl isAgg27) ?_
  refine TLv (V_len_slice rfl underlying27) ?_
  refine TVm ?_
  refine TL_nil (TX_next (TC.sub (m':=[(1,_),(38,_),(39,_),(40,_)]) ⟨rfl,rfl,rfl,rfl,trivial⟩ ?_))
  refine TC.pull (is:=[1,1,1,0]) (L':=[_,_,_,_]) rfl ?_
  refine TC_block ?_
  obtain ⟨t_1,Hl,H⟩:=bind_elim H
  refine TC.sub (m':=[(1,_),(38,_),(39,_),(40,_)]) ⟨rfl,rfl,rfl,rfl,trivial⟩ ?_
  refine TC.pull (is:=[0,0,0,0]) (L':=[_,_,_,_]) rfl ?_
  refine TC_loopR (id:=0) (body:=(hello_asking_shares.b0 a_m_Groups a_m_Shares a_out_Share a_out_Retry r_1)) (σ:=Int) (Γ:=Unit) (Γx:=Unit) (fun s0 g0_=>[(1,ptr (some (b1,0)) 0),(38,sl Aa_m_Shares ((a_m_Shares).length) ca_m_Shares),(39,vi ((a_m_Shares).length:Int)),(40,vi s0)]) (fun s0 g0_=>[⟨some (ba,oba+5),[vi r_1.1]⟩,⟨some (ba,oba+6),[vs a_out_Share]⟩,⟨some (ba,oba+7),[vb a_out_Retry]⟩,⟨some (b1,0),[ptr (some (ba,oba)) 0]⟩]) (fun t g=>[(1,ptr (some (b1,0)) 0)]) (fun t g=>[⟨some (ba,oba+5),[vi r_1.1]⟩,⟨some (ba,oba+6),[vs a_out_Share]⟩,⟨some (ba,oba+7),[vb a_out_Retry]⟩,⟨some (b1,0),[ptr (some (ba,oba)) 0]⟩]) r ?_ BIG 0 () t_1 Hl ?_
  ·intro s0 g0_ r1 H K hK hE hR1
   unfold hello_asking_shares.b0 at H
   refine TC_seq (TC_region (TLv (V_bin rfl rfl (fun w=>lssI w s0 ((a_m_Shares).length:Int))) ?_))
   refine TL_nil (TX_next (TC_seq (TCd H (fun hc H=>?_) (fun hc H=>?_))))
   ·refine TC_skip (TX_next (TC_seq (TC_block (TC_seq (TC_region (TVm ?_))))))
    obtain ⟨h1,H⟩:=if_elim H
    refine TLv (V_idxSlS (i:=s0) rfl rfl underlying27 inf50 rfl (.r 53) (eF_ne2 (s:=2) (fun _=>rfl) rfl (toNat_lt h1.1 h1.2)) h1.1 h1.2 (k:=((s0).toNat) * 2) rfl) ?_
    refine TLv (V_loadPart (n:=2) (ds:=[vi ((lg a_m_Shares ((s0).toNat)).1),vs ((lg a_m_Shares ((s0).toNat)).2)]) rfl (.r 53) (part_eF (g:=fun p:Int × Str=>[vi p.1,vs p.2]) (s:=2) (fun _=>rfl) a_m_Shares ((s0).toNat) (toNat_lt h1.1 h1.2)) rfl rfl isAgg50 inf50 rfl) ?_
    refine TLe (E_allocP [(1,[vi 0]),(1,[vs ([]:Str)])] inf50 zer50 ⟨rfl,rfl,trivial⟩) (fun b2=>?_)
    refine TVa ?_
    refine TLn (E_sq (b:=b2) (o:=0) (ns:=[(1,[vi ((lg a_m_Shares ((s0).toNat)).1)]),(1,[vs ((lg a_m_Shares ((s0).toNat)).2)])]) [0,0] [(1,_),(1,_)] rfl inf50) (fun _=>?_)
    refine TL_nil (TX_next (TC_seq (TC_region (TLv (V_load rfl (.o 5) rfl isAgg70) ?_))))
    refine TLv (V_nilCheck rfl) ?_
    refine TLv (V_fieldE rfl underlying74 rfl rfl inf72 rfl (v:=ptr (some (ba,oba+1)) 0) rfl) ?_
    refine TLv (V_load rfl (.r 1) rfl isAgg72) ?_
    refine TLv (V_nilCheck rfl) ?_
    refine TLv (V_fieldE rfl underlying30 rfl rfl inf27 rfl (v:=ptr (some (ba_m,oba_m+9)) 0) rfl) ?_
    refine TLv (V_load rfl (.r 36) rfl isAgg27) ?_
    refine TVm ?_
    obtain ⟨h2,H⟩:=if_elim H
    obtain ⟨h3,H⟩:=if_elim H
    refine TLv (V_sliceVw0 (l:=0) (h:=(s0).toNat) rfl underlying27 inf50 rfl Bnd.none' (Bnd.some' (i:=s0) rfl h2) (Nat.zero_le _) (Nat.le_trans h3 hca_m_Shares)) ?_
    refine TLv (V_makeFunc rfl) ?_
    obtain ⟨h4,H⟩:=if_elim H
    obtain ⟨h5,H⟩:=if_elim H
    refine TL_re (d:=53) (v:=sl (cutB Aa_m_Shares ca_m_Shares 0 0 2) (((s0).toNat) - 0) (ca_m_Shares - 0)) (v':=sl (cutB Aa_m_Shares ca_m_Shares 0 0 2) ((subL a_m_Shares 0 ((s0).toNat)).length) (ca_m_Shares - 0)) rfl (congrArg (fun n=>sl (cutB Aa_m_Shares ca_m_Shares 0 0 2) n (ca_m_Shares - 0)) (subL_length h5).symm) ?_
    obtain ⟨r_2,hr_2,H⟩:=bind_elim H
    refine TLe (E_c0 (F63_fn1_64_calls (cutB Aa_m_Shares ca_m_Shares 0 0 2) (ca_m_Shares - 0) b2 0 (subL a_m_Shares 0 ((s0).toNat)) ((lg a_m_Shares ((s0).toNat)).1) ((lg a_m_Shares ((s0).toNat)).2) (vwL_cap h4 (Nat.le_trans h3 hca_m_Shares)) r_2 hr_2) call63 ⟨(srcdVwF (g:=fun p:Int × Str=>[vi p.1,vs p.2]) (s:=2) (fun _=>rfl) (lst:=a_m_Shares) (SrcD.ro (j:=53) rfl) (Nat.le_trans h3 hca_m_Shares)), .o 0, .o 1,trivial⟩) (fun g_2=>?_)
    refine TL_re (d:=53) (v:=sl (cutB Aa_m_Shares ca_m_Shares 0 0 2) ((subL a_m_Shares 0 ((s0).toNat)).length) (ca_m_Shares - 0)) (v':=sl (cutB Aa_m_Shares ca_m_Shares 0 0 2) (((s0).toNat) - 0) (ca_m_Shares - 0)) rfl (congrArg (fun n=>sl (cutB Aa_m_Shares ca_m_Shares 0 0 2) n (ca_m_Shares - 0)) (subL_length h5)) ?_
    refine TVa ?_
    refine TL_nil (TX_next (TC_seq (TC_em r_2 (fun hg9_2=>?_) (fun hg9_2=>?_))))
    ·replace H:=ite_t hg9_2 H
     refine TA_begin [⟨some (b2,0),[vi ((lg a_m_Shares ((s0).toNat)).1)]⟩,⟨some (b2,1),[vs ((lg a_m_Shares ((s0).toNat)).2)]⟩,⟨some (ba,oba+5),[vi r_1.1]⟩,⟨some (ba,oba+6),[vs a_out_Share]⟩,⟨some (ba,oba+7),[vb a_out_Retry]⟩,⟨some (b1,0),[ptr (some (ba,oba)) 0]⟩] 14 (by kernel_rfl) (N:=14) rfl ?_
     refine TA_tk 0 [0,0,0,0,0,0] (dn 14 1) rfl rfl (V_move rfl) ?_
     refine TA_tk 1 [0,0,0,0,0,0] (dn 14 3) rfl rfl (V_move rfl) ?_
     refine TA_re (d:=57) (v:=vb r_2) (v':=vb true) rfl (congrArg vb hg9_2) ?_
     refine TA_ts 2 [0,0,0,0,0,0] (dn 14 7) rfl rfl ?_
     refine TA_ts 3 [0,0,0,0,0,0] (dn 14 15) rfl rfl ?_
     refine TA_ts 4 [0,0,0,0,0,0] (dn 14 31) rfl rfl ?_
     refine TA_ts 5 [0,0,0,0,0,0] (dn 14 63) rfl rfl ?_
     refine TA_ts 6 [0,0,0,0,0,0] (dn 14 127) rfl rfl ?_
     refine TA_ts 7 [0,0,0,0,0,0] (dn 14 255) rfl rfl ?_
     refine TA_ts 8 [0,0,0,0,0,0] (dn 14 511) rfl rfl ?_
     refine TA_ts 9 [0,0,0,0,0,0] (dn 14 1023) rfl rfl ?_
     refine TA_ts 10 [0,0,0,0,0,0] (dn 14 2047) rfl rfl ?_
     refine TA_ts 11 [0,0,0,0,0,0] (dn 14 4095) rfl rfl ?_
     refine TA_ts 12 [0,0,0,0,0,0] (dn 14 8191) rfl rfl ?_
     refine TA_tk 13 [0,0,0,0,0,0] (dn 14 16383) rfl rfl (V_pick (b:=true) rfl rfl) ?_
     refine TA_done (by kernel_rfl) ?_ 0
     refine TX_next (TC.sub (m':=[(1,_),(38,_),(39,_),(40,_),(69,_)]) ⟨rfl,rfl,rfl,rfl,rfl,trivial⟩ ?_)
     refine TC.pull (is:=[2,2,2,2]) (L':=[_,_,_,_]) rfl ?_
     refine TC_cond_t rfl ?_
     refine TC_seq (TC_region (TVa ?_))
     refine TL_nil (TX_next (TC_ret (TX_block_ret (TX_then_ret (TX_then_ret (TX_block_ret (TX_then_ret ?_)))))))
     have hrv:=(hR1 _ (Option.some.inj H).symm)
     subst hrv
     exact TX_ret (rs:=[.tmp 2]) (vs:=[vi 47]) rfl ⟨rfl,trivial⟩ (fun w' hs'=>⟨(),rfl,Step.left (Step.pulled (is:=[0,0,0]) (A:=[⟨some (ba,oba+5),[vi r_1.1]⟩,⟨some (ba,oba+6),[vs a_out_Share]⟩,⟨some (ba,oba+7),[vb a_out_Retry]⟩]) hs' rfl)⟩)
    ·replace H:=ite_f (Bool.eq_false_iff.1 hg9_2) H
     obtain ⟨r_3,hr_3,H⟩:=bind_elim H
     refine TA_begin [⟨some (b2,0),[vi ((lg a_m_Shares ((s0).toNat)).1)]⟩,⟨some (b2,1),[vs ((lg a_m_Shares ((s0).toNat)).2)]⟩,⟨some (ba,oba+5),[vi r_1.1]⟩,⟨some (ba,oba+6),[vs a_out_Share]⟩,⟨some (ba,oba+7),[vb a_out_Retry]⟩,⟨some (b1,0),[ptr (some (ba,oba)) 0]⟩] 14 (by kernel_rfl) (N:=14) rfl ?_
     refine TA_tk 0 [0,0,0,0,0,0] (dn 14 1) rfl rfl (V_move rfl) ?_
     refine TA_tk 1 [0,0,0,0,0,0] (dn 14 3) rfl rfl (V_move rfl) ?_
     refine TA_re (d:=57) (v:=vb r_2) (v':=vb false) rfl (congrArg vb hg9_2) ?_
     refine TA_tw 2 [0,0,0,0,0,0] (dn 14 7) rfl rfl (V_load rfl (.o 5) rfl isAgg70) ?_
     refine TA_tw 3 [0,0,0,0,0,0] (dn 14 15) rfl rfl (V_nilCheck rfl) ?_
     refine TA_tw 4 [0,0,0,0,0,0] (dn 14 31) rfl rfl (V_fieldE rfl underlying74 rfl rfl inf72 rfl (v:=ptr (some (ba,oba+1)) 0) rfl) ?_
     refine TA_tw 5 [0,0,0,0,0,0] (dn 14 63) rfl rfl (V_load rfl (.r 1) rfl isAgg72) ?_
     refine TA_tw 6 [0,0,0,0,0,0] (dn 14 127) rfl rfl (V_nilCheck rfl) ?_
     refine TA_tw 7 [0,0,0,0,0,0] (dn 14 255) rfl rfl (V_fieldE rfl underlying30 rfl rfl inf22 rfl (v:=ptr (some (ba_m,oba_m+6)) 0) rfl) ?_
     refine TA_tw 8 [0,0,0,0,0,0] (dn 14 511) rfl rfl (V_load rfl (.r 33) rfl isAgg22) ?_
     refine TA_tw 9 [0,0,0,0,0,0] (dn 14 1023) rfl rfl (V_fieldE rfl underlying50 rfl rfl inf3 rfl (v:=ptr (some (b2,0)) 0) rfl) ?_
     refine TA_tw 10 [0,0,0,0,0,0] (dn 14 2047) rfl rfl (V_load rfl (.o 0) rfl isAgg3) ?_
     refine TA_all (rs:=[11]) (by kernel_rfl) rfl ?_
     refine ⟨?_,trivial⟩
     refine TO_eW (is:=[0,0,0,0,0,0]) (done':=dn 14 4095) rfl rfl rfl rfl rfl rfl rfl (by kernel_rfl) (E_c0 (F62_calls Aa_m_Groups ca_m_Groups a_m_Groups ((lg a_m_Shares ((s0).toNat)).1) hca_m_Groups r_3 hr_3) call62 ⟨.r 50,trivial⟩) (fun _ _=>rfl) (fun g_3=>?_)
     refine TA_tw 12 [0,0,0,0,0,0] (dn 14 8191) rfl rfl (V_un rfl (fun w=>notB w r_3)) ?_
     refine TA_tk 13 [0,0,0,0,0,0] (dn 14 16383) rfl rfl (V_pick (b:=false) rfl rfl) ?_
     refine TA_done (by kernel_rfl) ?_ 0
     refine TX_next (TC.sub (m':=[(1,_),(38,_),(39,_),(40,_),(69,_)]) ⟨rfl,rfl,rfl,rfl,rfl,trivial⟩ ?_)
     refine TC.pull (is:=[2,2,2,2]) (L':=[_,_,_,_]) rfl ?_
     refine TCb H (fun hc H=>?_) (fun hc H=>?_)
     ·refine TC_seq (TC_region (TVa ?_))
      refine TL_nil (TX_next (TC_ret (TX_block_ret (TX_then_ret (TX_then_ret (TX_block_ret (TX_then_ret ?_)))))))
      have hrv:=(hR1 _ (Option.some.inj H).symm)
      subst hrv
      exact TX_ret (rs:=[.tmp 2]) (vs:=[vi 47]) rfl ⟨rfl,trivial⟩ (fun w' hs'=>⟨(),rfl,Step.left (Step.pulled (is:=[0,0,0]) (A:=[⟨some (ba,oba+5),[vi r_1.1]⟩,⟨some (ba,oba+6),[vs a_out_Share]⟩,⟨some (ba,oba+7),[vb a_out_Retry]⟩]) hs' rfl)⟩)
     ·refine TC_skip (TX_block_normal (TX_next (TC_region (TLv (V_bin rfl rfl (fun w=>addI w s0 1)) ?_))))
      refine TVm ?_
      refine TL_nil ?_
      obtain rfl:=sj H
      exact TXk [0,0,0,0] (hK (w64 (s0+1)) rfl ())
   ·refine TC_exit (TX_then_exit (TX_then_exit ?_))
    obtain rfl:=sj H
    exact TXj [0,0,0,0] (hE () rfl ())
  ·rcases t_1 with t_1 | rv
   ·intro gx1
    dsimp only at H
    refine TX_block_exit (TX_next (TC_seq (TC_seq (TC_region (TLv (V_load rfl (.o 3) rfl isAgg70) ?_)))))
    refine TLv (V_nilCheck rfl) ?_
    refine TLv (V_fieldE rfl underlying74 rfl rfl inf4 rfl (v:=ptr (some (ba,oba+2)) 0) rfl) ?_
    refine TLv (V_load rfl (.r 2) rfl isAgg4) ?_
    refine TL_nil (TX_next (TCb H (fun hc H=>?_) (fun hc H=>?_)))
    ·refine TC_seq (TC_seq (TC_em (decide (((a_m_Shares).length:Int) ≠ 1)) (fun hg13_10=>?_) (fun hg13_10=>?_)))
     ·replace H:=ite_t (of_decide_eq_true hg13_10) H
      refine TA_begin [⟨some (ba,oba+5),[vi r_1.1]⟩,⟨some (ba,oba+6),[vs a_out_Share]⟩,⟨some (ba,oba+7),[vb a_out_Retry]⟩,⟨some (b1,0),[ptr (some (ba,oba)) 0]⟩] 26 (by kernel_rfl) (N:=26) rfl ?_
      refine TA_tk 0 [0,0,0,0] (dn 26 1) rfl rfl (V_load rfl (.o 3) rfl isAgg70) ?_
      refine TA_tk 1 [0,0,0,0] (dn 26 3) rfl rfl (V_nilCheck rfl) ?_
      refine TA_tk 2 [0,0,0,0] (dn 26 7) rfl rfl (V_fieldE rfl underlying74 rfl rfl inf72 rfl (v:=ptr (some (ba,oba+1)) 0) rfl) ?_
      refine TA_tk 3 [0,0,0,0] (dn 26 15) rfl rfl (V_load rfl (.r 1) rfl isAgg72) ?_
      refine TA_tk 4 [0,0,0,0] (dn 26 31) rfl rfl (V_nilCheck rfl) ?_
      refine TA_tk 5 [0,0,0,0] (dn 26 63) rfl rfl (V_fieldE rfl underlying30 rfl rfl inf27 rfl (v:=ptr (some (ba_m,oba_m+9)) 0) rfl) ?_
      refine TA_tk 6 [0,0,0,0] (dn 26 127) rfl rfl (V_load rfl (.r 36) rfl isAgg27) ?_
      refine TA_tk 7 [0,0,0,0] (dn 26 255) rfl rfl (V_len_slice rfl underlying27) ?_
      refine TA_tk 8 [0,0,0,0] (dn 26 511) rfl rfl (V_bin rfl rfl (fun w=>neqI w ((a_m_Shares).length:Int) 1)) ?_
      refine TA_tk 9 [0,0,0,0] (dn 26 1023) rfl rfl (V_move rfl) ?_
      refine TA_re (d:=84) (v:=vb (decide (((a_m_Shares).length:Int) ≠ 1))) (v':=vb true) rfl (congrArg vb hg13_10) ?_
      refine TA_ts 10 [0,0,0,0] (dn 26 2047) rfl rfl ?_
      refine TA_ts 11 [0,0,0,0] (dn 26 4095) rfl rfl ?_
      refine TA_ts 12 [0,0,0,0] (dn 26 8191) rfl rfl ?_
      refine TA_ts 13 [0,0,0,0] (dn 26 16383) rfl rfl ?_
      refine TA_ts 14 [0,0,0,0] (dn 26 32767) rfl rfl ?_
      refine TA_ts 15 [0,0,0,0] (dn 26 65535) rfl rfl ?_
      refine TA_ts 16 [0,0,0,0] (dn 26 131071) rfl rfl ?_
      refine TA_ts 17 [0,0,0,0] (dn 26 262143) rfl rfl ?_
      refine TA_ts 18 [0,0,0,0] (dn 26 524287) rfl rfl ?_
      refine TA_ts 19 [0,0,0,0] (dn 26 1048575) rfl rfl ?_
      refine TA_ts 20 [0,0,0,0] (dn 26 2097151) rfl rfl ?_
      refine TA_ts 21 [0,0,0,0] (dn 26 4194303) rfl rfl ?_
      refine TA_ts 22 [0,0,0,0] (dn 26 8388607) rfl rfl ?_
      refine TA_ts 23 [0,0,0,0] (dn 26 16777215) rfl rfl ?_
      refine TA_ts 24 [0,0,0,0] (dn 26 33554431) rfl rfl ?_
      refine TA_tk 25 [0,0,0,0] (dn 26 67108863) rfl rfl (V_pick (b:=true) rfl rfl) ?_
      refine TA_done (by kernel_rfl) ?_ 0
      refine TX_next (TC.sub (m':=[(1,_),(100,_)]) ⟨rfl,rfl,trivial⟩ ?_)
      refine TC.pull (is:=[0,0,0,0]) (L':=[_,_,_,_]) rfl ?_
      refine TC_cond_t rfl ?_
      refine TC_seq (TC_region (TVa ?_))
      refine TL_nil (TX_next (TC_ret (TX_then_ret (TX_then_ret ?_))))
      obtain rfl:=sj H
      exact TX_ret (rs:=[.tmp 2]) (vs:=[vi 47]) rfl ⟨rfl,trivial⟩ (fun w' hs'=>⟨(),rfl,Step.left (Step.pulled (is:=[0,0,0]) (A:=[⟨some (ba,oba+5),[vi r_1.1]⟩,⟨some (ba,oba+6),[vs a_out_Share]⟩,⟨some (ba,oba+7),[vb a_out_Retry]⟩]) hs' rfl)⟩)
     ·replace H:=ite_f (of_decide_eq_false hg13_10) H
      obtain ⟨h6,H⟩:=if_elim H
      refine TA_begin [⟨some (ba,oba+5),[vi r_1.1]⟩,⟨some (ba,oba+6),[vs a_out_Share]⟩,⟨some (ba,oba+7),[vb a_out_Retry]⟩,⟨some (b1,0),[ptr (some (ba,oba)) 0]⟩] 26 (by kernel_rfl) (N:=26) rfl ?_
      refine TA_tk 0 [0,0,0,0] (dn 26 1) rfl rfl (V_load rfl (.o 3) rfl isAgg70) ?_
      refine TA_tk 1 [0,0,0,0] (dn 26 3) rfl rfl (V_nilCheck rfl) ?_
      refine TA_tk 2 [0,0,0,0] (dn 26 7) rfl rfl (V_fieldE rfl underlying74 rfl rfl inf72 rfl (v:=ptr (some (ba,oba+1)) 0) rfl) ?_
      refine TA_tk 3 [0,0,0,0] (dn 26 15) rfl rfl (V_load rfl (.r 1) rfl isAgg72) ?_
      refine TA_tk 4 [0,0,0,0] (dn 26 31) rfl rfl (V_nilCheck rfl) ?_
      refine TA_tk 5 [0,0,0,0] (dn 26 63) rfl rfl (V_fieldE rfl underlying30 rfl rfl inf27 rfl (v:=ptr (some (ba_m,oba_m+9)) 0) rfl) ?_
      refine TA_tk 6 [0,0,0,0] (dn 26 127) rfl rfl (V_load rfl (.r 36) rfl isAgg27) ?_
      refine TA_tk 7 [0,0,0,0] (dn 26 255) rfl rfl (V_len_slice rfl underlying27) ?_
      refine TA_tk 8 [0,0,0,0] (dn 26 511) rfl rfl (V_bin rfl rfl (fun w=>neqI w ((a_m_Shares).length:Int) 1)) ?_
      refine TA_tk 9 [0,0,0,0] (dn 26 1023) rfl rfl (V_move rfl) ?_
      refine TA_re (d:=84) (v:=vb (decide (((a_m_Shares).length:Int) ≠ 1))) (v':=vb false) rfl (congrArg vb hg13_10) ?_
      refine TA_tw 10 [0,0,0,0] (dn 26 2047) rfl rfl (V_load rfl (.o 3) rfl isAgg70) ?_
      refine TA_tw 11 [0,0,0,0] (dn 26 4095) rfl rfl (V_nilCheck rfl) ?_
      refine TA_tw 12 [0,0,0,0] (dn 26 8191) rfl rfl (V_fieldE rfl underlying74 rfl rfl inf72 rfl (v:=ptr (some (ba,oba+1)) 0) rfl) ?_
      refine TA_tw 13 [0,0,0,0] (dn 26 16383) rfl rfl (V_load rfl (.r 1) rfl isAgg72) ?_
      refine TA_tw 14 [0,0,0,0] (dn 26 32767) rfl rfl (V_nilCheck rfl) ?_
      refine TA_tw 15 [0,0,0,0] (dn 26 65535) rfl rfl (V_fieldE rfl underlying30 rfl rfl inf27 rfl (v:=ptr (some (ba_m,oba_m+9)) 0) rfl) ?_
      refine TA_tw 16 [0,0,0,0] (dn 26 131071) rfl rfl (V_load rfl (.r 36) rfl isAgg27) ?_
      refine TA_tw 17 [0,0,0,0] (dn 26 262143) rfl rfl (V_idxSlS (i:=0) rfl rfl underlying27 inf50 rfl (.r 53) (eF_ne2 (s:=2) (fun _=>rfl) rfl (toNat_lt h6.1 h6.2)) h6.1 h6.2 (k:=0 * 2) rfl) ?_
      refine TA_tw 18 [0,0,0,0] (dn 26 524287) rfl rfl (V_field rfl underlying50 rfl (k:=0) rfl inf3 rfl) ?_
      refine TA_tw 19 [0,0,0,0] (dn 26 1048575) rfl rfl (V_load rfl (.r 53) ((get_eF (g:=fun p:Int × Str=>[vi p.1,vs p.2]) (s:=2) (fun _=>rfl) a_m_Shares 0 0 (toNat_lt h6.1 h6.2) (by decide:0<2)).trans rfl) isAgg3) ?_
      refine TA_tw 20 [0,0,0,0] (dn 26 2097151) rfl rfl (V_load rfl (.o 3) rfl isAgg70) ?_
      refine TA_tw 21 [0,0,0,0] (dn 26 4194303) rfl rfl (V_nilCheck rfl) ?_
      refine TA_tw 22 [0,0,0,0] (dn 26 8388607) rfl rfl (V_fieldE rfl underlying74 rfl rfl inf3 rfl (v:=ptr (some (ba,oba+3)) 0) rfl) ?_
      refine TA_tw 23 [0,0,0,0] (dn 26 16777215) rfl rfl (V_load rfl (.r 3) rfl isAgg3) ?_
      refine TA_tw 24 [0,0,0,0] (dn 26 33554431) rfl rfl (V_bin rfl rfl (fun w=>neqI w ((lg a_m_Shares 0).1) a_group)) ?_
      refine TA_tk 25 [0,0,0,0] (dn 26 67108863) rfl rfl (V_pick (b:=false) rfl rfl) ?_
      refine TA_done (by kernel_rfl) ?_ 0
      refine TX_next (TC.sub (m':=[(1,_),(100,_)]) ⟨rfl,rfl,trivial⟩ ?_)
      refine TC.pull (is:=[0,0,0,0]) (L':=[_,_,_,_]) rfl ?_
      refine TCd H (fun hc H=>?_) (fun hc H=>?_)
      ·refine TC_seq (TC_region (TVa ?_))
       refine TL_nil (TX_next (TC_ret (TX_then_ret (TX_then_ret ?_))))
       obtain rfl:=sj H
       exact TX_ret (rs:=[.tmp 2]) (vs:=[vi 47]) rfl ⟨rfl,trivial⟩ (fun w' hs'=>⟨(),rfl,Step.left (Step.pulled (is:=[0,0,0]) (A:=[⟨some (ba,oba+5),[vi r_1.1]⟩,⟨some (ba,oba+6),[vs a_out_Share]⟩,⟨some (ba,oba+7),[vb a_out_Retry]⟩]) hs' rfl)⟩)
      ·refine TC_skip (TX_next (TA_begin [] 9 (by kernel_rfl) (N:=9) rfl ?_))
       refine TA_mix (is:=[]) (done':=dn 9 255) [itV 0 101 (ptr (some (ba,oba)) 0) [],itV 1 102 (ptr (some (ba,oba)) 0) [],itV 2 103 (ptr (some (ba,oba)) 0) [1],itV 3 104 (ptr (some (ba,oba+3)) 0) [2],itV 4 105 (vi a_group) [3],itV 5 106 (ptr (some (ba,oba)) 0) [0],itV 6 107 (ptr (some (ba,oba+4)) 0) [5],itV 7 108 (ptr (some (ba,oba+5)) 0) [6]] [] 1 (by kernel_rfl) (QP.then QP.body) (by kernel_rfl) rfl (.v rfl (V_load rfl (.o 3) rfl isAgg70) (.v rfl (V_load rfl (.o 3) rfl isAgg70) (.v rfl (V_nilCheck rfl) (.v rfl (V_fe underlying74 inf3) (.v rfl (V_load rfl (.r 3) rfl isAgg3) (.v rfl (V_nilCheck rfl) (.v rfl (V_fe underlying74 inf34) (.v rfl (V_fe underlying34 inf3) .nil)))))))) .nil (by kernel_rfl) rfl (fun γ=>?_)
       refine TA_cut [(108,ptr (some (ba,oba+5)) 0),(105,vi a_group),(1,ptr (some (b1,0)) 0)] [⟨some (ba,oba+5),[vi r_1.1]⟩,⟨some (ba,oba+6),[vs a_out_Share]⟩,⟨some (ba,oba+7),[vb a_out_Retry]⟩,⟨some (b1,0),[ptr (some (ba,oba)) 0]⟩] ⟨rfl,rfl,rfl,trivial⟩ rfl ?_
       refine TA_all (rs:=[8]) (by kernel_rfl) rfl ?_
       refine ⟨?_,trivial⟩
       refine TO_n (is:=[]) (done':=dn 9 511) rfl rfl rfl (by kernel_rfl) (E_store (j:=0) rfl rfl inf3 rfl rfl rfl (Nat.lt_succ_self 0) (cs':=[vi a_group]) rfl) (fun _ _=>rfl) (fun _=>?_)
       refine TA_done (by kernel_rfl) ?_ 0
       refine TX_next (TC_seq (TC_region (TLv (V_load rfl (.o 3) rfl isAgg70) ?_)))
       refine TLv (V_nilCheck rfl) ?_
       refine TLv (V_fieldE rfl underlying74 rfl rfl inf72 rfl (v:=ptr (some (ba,oba+1)) 0) rfl) ?_
       refine TLv (V_load rfl (.r 1) rfl isAgg72) ?_
       refine TLv (V_nilCheck rfl) ?_
       refine TLv (V_fieldE rfl underlying30 rfl rfl inf27 rfl (v:=ptr (some (ba_m,oba_m+9)) 0) rfl) ?_
       refine TLv (V_load rfl (.r 36) rfl isAgg27) ?_
       refine TLv (V_makeFunc rfl) ?_
       obtain ⟨r_4,hr_4,H⟩:=bind_elim H
       refine TLe (E_c0 (F65_fn1_66_calls Aa_m_Shares ca_m_Shares b1 0 ba oba ba_c oba_c Aa_c_Suites ca_c_Suites Aa_c_Groups ca_c_Groups Aa_c_Chain ca_c_Chain Aa_c_Roots ca_c_Roots Aa_c_Psk ca_c_Psk ba_m oba_m Aa_m_Suites ca_m_Suites Aa_m_Versions ca_m_Versions Aa_m_Groups ca_m_Groups Aa_m_Schemes ca_m_Schemes Aa_m_Modes ca_m_Modes Aa_m_Shares ca_m_Shares Aa_m_Identities ca_m_Identities Aa_m_Binders ca_m_Binders Aa_m_Others ca_m_Others Aa_m_Certs ca_m_Certs a_m_Shares a_c_Server a_c_Suites a_c_Groups a_c_Chain a_c_Key a_c_Roots a_c_Name a_c_Tickets a_c_Seal a_c_Psk a_c_Tape a_c_Clock a_c_Pad a_c_Limit a_c_Ring a_m_Kind a_m_Random a_m_Session a_m_Suites a_m_Name a_m_Versions a_m_Groups a_m_Schemes a_m_Modes a_m_Shares a_m_Identities a_m_Binders a_m_Psk a_m_Others a_m_Certs a_m_Scheme a_m_Data a_m_Life a_m_Add a_m_Nonce a_m_Update a_again a_group a_out_Suite a_group a_out_Share a_out_Retry a_out_Psk a_out_Alert hca_m_Shares hca_c_Suites hca_c_Groups hca_c_Chain hca_c_Roots hca_c_Psk hca_m_Suites hca_m_Versions hca_m_Groups hca_m_Schemes hca_m_Modes hca_m_Shares hca_m_Identities hca_m_Binders hca_m_Others hca_m_Certs r_4 hr_4) call65 ⟨.r 53, .o 3, .r 0, .r 1, .r 2, .r 3, .r 4, .o 0, .o 1, .o 2, .r 5, .r 6, .r 7, .r 8, .r 9, .r 10, .r 11, .r 12, .r 13, .r 14, .r 15, .r 16, .r 17, .r 18, .r 19, .r 20, .r 21, .r 22, .r 23, .r 24, .r 25, .r 26, .r 27, .r 28, .r 29, .r 30, .r 31, .r 32, .r 33, .r 34, .r 35, .r 36, .r 37, .r 38, .r 39, .r 40, .r 41, .r 42, .r 43, .r 44, .r 45, .r 46, .r 47, .r 48, .r 49, .r 50, .r 51, .r 52, .r 53, .r 54, .r 55, .r 56, .r 57,trivial⟩) (fun g_4=>?_)
       refine TVa ?_
       refine TL_nil (TX_next (TC_seq (TC_seq (TC_region (TLv (V_load rfl (.o 3) rfl isAgg70) ?_)))))
       refine TVm ?_
       refine TLv (V_bin rfl rfl (fun w=>lssI w r_4 0)) ?_
       refine TLv (V_nilCheck rfl) ?_
       refine TLv (V_fieldE rfl underlying74 rfl rfl inf34 rfl (v:=ptr (some (ba,oba+4)) 0) rfl) ?_
       refine TLv (V_fieldE rfl underlying34 rfl rfl inf4 rfl (v:=ptr (some (ba,oba+7)) 0) rfl) ?_
       refine TLn (E_store (j:=2) rfl rfl inf4 rfl rfl rfl (Nat.lt_succ_self 0) (cs':=[vb (decide (r_4<0))]) rfl) (fun _=>?_)
       refine TL_nil (TX_next (TC_seq (TC_region (TLv (V_load rfl (.o 3) rfl isAgg70) ?_))))
       refine TLv (V_nilCheck rfl) ?_
       refine TLv (V_fieldE rfl underlying74 rfl rfl inf34 rfl (v:=ptr (some (ba,oba+4)) 0) rfl) ?_
       refine TLv (V_fieldE rfl underlying34 rfl rfl inf4 rfl (v:=ptr (some (ba,oba+7)) 0) rfl) ?_
       refine TLv (V_load rfl (.o 2) rfl isAgg4) ?_
       refine TLv (V_un rfl (fun w=>notB w (decide (r_4<0)))) ?_
       refine TL_nil (TX_next (TCb H (fun hc H=>?_) (fun hc H=>?_)))
       ·obtain ⟨h7,H⟩:=if_elim H
        refine TA_begin [] 16 (by kernel_rfl) (N:=16) rfl ?_
        refine TA_mix (is:=[]) (done':=dn 16 32767) [itV 0 130 (ptr (some (ba,oba)) 0) [],itV 1 131 (ptr (some (ba,oba)) 0) [],itV 2 132 (ptr (some (ba,oba)) 0) [1],itV 3 133 (ptr (some (ba,oba+1)) 0) [2],itV 4 134 (ptr (some (ba_m,oba_m)) 0) [3],itV 5 135 (ptr (some (ba_m,oba_m)) 0) [4],itV 6 136 (ptr (some (ba_m,oba_m+9)) 0) [5],itV 7 137 (sl Aa_m_Shares ((a_m_Shares).length) ca_m_Shares) [6],itV 8 138 (vi r_4) [],itV 9 139 (ptr Aa_m_Shares (((r_4).toNat) * 2)) [7,8],itV 10 140 (ptr Aa_m_Shares (((r_4).toNat) * 2+1)) [9],itV 11 141 (vs ((lg a_m_Shares ((r_4).toNat)).2)) [10],itV 12 142 (ptr (some (ba,oba)) 0) [0],itV 13 143 (ptr (some (ba,oba+4)) 0) [12],itV 14 144 (ptr (some (ba,oba+6)) 0) [13]] [] 1 (by kernel_rfl) (QP.then QP.body) (by kernel_rfl) rfl (.v rfl (V_load rfl (.o 3) rfl isAgg70) (.v rfl (V_load rfl (.o 3) rfl isAgg70) (.v rfl (V_nilCheck rfl) (.v rfl (V_fe underlying74 inf72) (.v rfl (V_load rfl (.r 1) rfl isAgg72) (.v rfl (V_nilCheck rfl) (.v rfl (V_fe underlying30 inf27) (.v rfl (V_load rfl (.r 36) rfl isAgg27) (.v rfl (V_move rfl) (.v rfl (V_idxSlS (i:=r_4) rfl rfl underlying27 inf50 rfl (.r 53) (eF_ne2 (s:=2) (fun _=>rfl) rfl (toNat_lt h7.1 h7.2)) h7.1 h7.2 (k:=((r_4).toNat) * 2) rfl) (.v rfl (V_field rfl underlying50 rfl (k:=1) rfl inf9 rfl) (.v rfl (V_load rfl (.r 53) ((get_eF (g:=fun p:Int × Str=>[vi p.1,vs p.2]) (s:=2) (fun _=>rfl) a_m_Shares ((r_4).toNat) 1 (toNat_lt h7.1 h7.2) (by decide:1<2)).trans rfl) isAgg9) (.v rfl (V_nilCheck rfl) (.v rfl (V_fe underlying74 inf34) (.v rfl (V_fe underlying34 inf9) .nil))))))))))))))) .nil (by kernel_rfl) rfl (fun γ=>?_)
        refine TA_cut [(144,ptr (some (ba,oba+6)) 0),(141,vs ((lg a_m_Shares ((r_4).toNat)).2))] [⟨some (ba,oba+5),[vi a_group]⟩,⟨some (ba,oba+6),[vs a_out_Share]⟩,⟨some (ba,oba+7),[vb (decide (r_4<0))]⟩,⟨some (b1,0),[ptr (some (ba,oba)) 0]⟩] ⟨rfl,rfl,trivial⟩ rfl ?_
        refine TA_all (rs:=[15]) (by kernel_rfl) rfl ?_
        refine ⟨?_,trivial⟩
        refine TO_n (is:=[]) (done':=dn 16 65535) rfl rfl rfl (by kernel_rfl) (E_store (j:=1) rfl rfl inf9 rfl rfl rfl (Nat.lt_succ_self 0) (cs':=[vs ((lg a_m_Shares ((r_4).toNat)).2)]) rfl) (fun _ _=>rfl) (fun _=>?_)
        refine TA_done (by kernel_rfl) ?_ 0
        refine TX_next (TC_seq (TC_region (TVa ?_)))
        refine TL_nil (TX_next (TC_ret ?_))
        obtain rfl:=sj H
        exact TX_ret (rs:=[.tmp 2]) (vs:=[vi (-1)]) rfl ⟨rfl,trivial⟩ (fun w' hs'=>⟨(),rfl,Step.left (Step.pulled (is:=[0,0,0]) (A:=[⟨some (ba,oba+5),[vi a_group]⟩,⟨some (ba,oba+6),[vs ((lg a_m_Shares ((r_4).toNat)).2)]⟩,⟨some (ba,oba+7),[vb (decide (r_4<0))]⟩]) hs' rfl)⟩)
       ·refine TC_skip (TX_next (TC_seq (TC_region (TVa ?_))))
        refine TL_nil (TX_next (TC_ret ?_))
        obtain rfl:=sj H
        exact TX_ret (rs:=[.tmp 2]) (vs:=[vi (-1)]) rfl ⟨rfl,trivial⟩ (fun w' hs'=>⟨(),rfl,Step.left (Step.pulled (is:=[0,0,0]) (A:=[⟨some (ba,oba+5),[vi a_group]⟩,⟨some (ba,oba+6),[vs a_out_Share]⟩,⟨some (ba,oba+7),[vb (decide (r_4<0))]⟩]) hs' rfl)⟩)
    ·refine TC_skip (TX_next (TC_seq (TC_region (TLv (V_load rfl (.o 3) rfl isAgg70) ?_))))
     refine TLv (V_nilCheck rfl) ?_
     refine TLv (V_fieldE rfl underlying74 rfl rfl inf72 rfl (v:=ptr (some (ba,oba+1)) 0) rfl) ?_
     refine TLv (V_load rfl (.r 1) rfl isAgg72) ?_
     refine TLv (V_nilCheck rfl) ?_
     refine TLv (V_fieldE rfl underlying30 rfl rfl inf27 rfl (v:=ptr (some (ba_m,oba_m+9)) 0) rfl) ?_
     refine TLv (V_load rfl (.r 36) rfl isAgg27) ?_
     refine TLv (V_makeFunc rfl) ?_
     obtain ⟨r_5,hr_5,H⟩:=bind_elim H
     refine TLe (E_c0 (F65_fn1_66_calls Aa_m_Shares ca_m_Shares b1 0 ba oba ba_c oba_c Aa_c_Suites ca_c_Suites Aa_c_Groups ca_c_Groups Aa_c_Chain ca_c_Chain Aa_c_Roots ca_c_Roots Aa_c_Psk ca_c_Psk ba_m oba_m Aa_m_Suites ca_m_Suites Aa_m_Versions ca_m_Versions Aa_m_Groups ca_m_Groups Aa_m_Schemes ca_m_Schemes Aa_m_Modes ca_m_Modes Aa_m_Shares ca_m_Shares Aa_m_Identities ca_m_Identities Aa_m_Binders ca_m_Binders Aa_m_Others ca_m_Others Aa_m_Certs ca_m_Certs a_m_Shares a_c_Server a_c_Suites a_c_Groups a_c_Chain a_c_Key a_c_Roots a_c_Name a_c_Tickets a_c_Seal a_c_Psk a_c_Tape a_c_Clock a_c_Pad a_c_Limit a_c_Ring a_m_Kind a_m_Random a_m_Session a_m_Suites a_m_Name a_m_Versions a_m_Groups a_m_Schemes a_m_Modes a_m_Shares a_m_Identities a_m_Binders a_m_Psk a_m_Others a_m_Certs a_m_Scheme a_m_Data a_m_Life a_m_Add a_m_Nonce a_m_Update a_again a_group a_out_Suite r_1.1 a_out_Share a_out_Retry a_out_Psk a_out_Alert hca_m_Shares hca_c_Suites hca_c_Groups hca_c_Chain hca_c_Roots hca_c_Psk hca_m_Suites hca_m_Versions hca_m_Groups hca_m_Schemes hca_m_Modes hca_m_Shares hca_m_Identities hca_m_Binders hca_m_Others hca_m_Certs r_5 hr_5) call65 ⟨.r 53, .o 3, .r 0, .r 1, .r 2, .r 3, .r 4, .o 0, .o 1, .o 2, .r 5, .r 6, .r 7, .r 8, .r 9, .r 10, .r 11, .r 12, .r 13, .r 14, .r 15, .r 16, .r 17, .r 18, .r 19, .r 20, .r 21, .r 22, .r 23, .r 24, .r 25, .r 26, .r 27, .r 28, .r 29, .r 30, .r 31, .r 32, .r 33, .r 34, .r 35, .r 36, .r 37, .r 38, .r 39, .r 40, .r 41, .r 42, .r 43, .r 44, .r 45, .r 46, .r 47, .r 48, .r 49, .r 50, .r 51, .r 52, .r 53, .r 54, .r 55, .r 56, .r 57,trivial⟩) (fun g_5=>?_)
     refine TVa ?_
     refine TL_nil (TX_next (TC_seq (TC_seq (TC_region (TLv (V_load rfl (.o 3) rfl isAgg70) ?_)))))
     refine TVm ?_
     refine TLv (V_bin rfl rfl (fun w=>lssI w r_5 0)) ?_
     refine TLv (V_nilCheck rfl) ?_
     refine TLv (V_fieldE rfl underlying74 rfl rfl inf34 rfl (v:=ptr (some (ba,oba+4)) 0) rfl) ?_
     refine TLv (V_fieldE rfl underlying34 rfl rfl inf4 rfl (v:=ptr (some (ba,oba+7)) 0) rfl) ?_
     refine TLn (E_store (j:=2) rfl rfl inf4 rfl rfl rfl (Nat.lt_succ_self 0) (cs':=[vb (decide (r_5<0))]) rfl) (fun _=>?_)
     refine TL_nil (TX_next (TC_seq (TC_region (TLv (V_load rfl (.o 3) rfl isAgg70) ?_))))
     refine TLv (V_nilCheck rfl) ?_
     refine TLv (V_fieldE rfl underlying74 rfl rfl inf34 rfl (v:=ptr (some (ba,oba+4)) 0) rfl) ?_
     refine TLv (V_fieldE rfl underlying34 rfl rfl inf4 rfl (v:=ptr (some (ba,oba+7)) 0) rfl) ?_
     refine TLv (V_load rfl (.o 2) rfl isAgg4) ?_
     refine TLv (V_un rfl (fun w=>notB w (decide (r_5<0)))) ?_
     refine TL_nil (TX_next (TCb H (fun hc H=>?_) (fun hc H=>?_)))
     ·obtain ⟨h8,H⟩:=if_elim H
      refine TA_begin [] 16 (by kernel_rfl) (N:=16) rfl ?_
      refine TA_mix (is:=[]) (done':=dn 16 32767) [itV 0 130 (ptr (some (ba,oba)) 0) [],itV 1 131 (ptr (some (ba,oba)) 0) [],itV 2 132 (ptr (some (ba,oba)) 0) [1],itV 3 133 (ptr (some (ba,oba+1)) 0) [2],itV 4 134 (ptr (some (ba_m,oba_m)) 0) [3],itV 5 135 (ptr (some (ba_m,oba_m)) 0) [4],itV 6 136 (ptr (some (ba_m,oba_m+9)) 0) [5],itV 7 137 (sl Aa_m_Shares ((a_m_Shares).length) ca_m_Shares) [6],itV 8 138 (vi r_5) [],itV 9 139 (ptr Aa_m_Shares (((r_5).toNat) * 2)) [7,8],itV 10 140 (ptr Aa_m_Shares (((r_5).toNat) * 2+1)) [9],itV 11 141 (vs ((lg a_m_Shares ((r_5).toNat)).2)) [10],itV 12 142 (ptr (some (ba,oba)) 0) [0],itV 13 143 (ptr (some (ba,oba+4)) 0) [12],itV 14 144 (ptr (some (ba,oba+6)) 0) [13]] [] 1 (by kernel_rfl) (QP.then QP.body) (by kernel_rfl) rfl (.v rfl (V_load rfl (.o 3) rfl isAgg70) (.v rfl (V_load rfl (.o 3) rfl isAgg70) (.v rfl (V_nilCheck rfl) (.v rfl (V_fe underlying74 inf72) (.v rfl (V_load rfl (.r 1) rfl isAgg72) (.v rfl (V_nilCheck rfl) (.v rfl (V_fe underlying30 inf27) (.v rfl (V_load rfl (.r 36) rfl isAgg27) (.v rfl (V_move rfl) (.v rfl (V_idxSlS (i:=r_5) rfl rfl underlying27 inf50 rfl (.r 53) (eF_ne2 (s:=2) (fun _=>rfl) rfl (toNat_lt h8.1 h8.2)) h8.1 h8.2 (k:=((r_5).toNat) * 2) rfl) (.v rfl (V_field rfl underlying50 rfl (k:=1) rfl inf9 rfl) (.v rfl (V_load rfl (.r 53) ((get_eF (g:=fun p:Int × Str=>[vi p.1,vs p.2]) (s:=2) (fun _=>rfl) a_m_Shares ((r_5).toNat) 1 (toNat_lt h8.1 h8.2) (by decide:1<2)).trans rfl) isAgg9) (.v rfl (V_nilCheck rfl) (.v rfl (V_fe underlying74 inf34) (.v rfl (V_fe underlying34 inf9) .nil))))))))))))))) .nil (by kernel_rfl) rfl (fun γ=>?_)
      refine TA_cut [(144,ptr (some (ba,oba+6)) 0),(141,vs ((lg a_m_Shares ((r_5).toNat)).2))] [⟨some (ba,oba+5),[vi r_1.1]⟩,⟨some (ba,oba+6),[vs a_out_Share]⟩,⟨some (ba,oba+7),[vb (decide (r_5<0))]⟩,⟨some (b1,0),[ptr (some (ba,oba)) 0]⟩] ⟨rfl,rfl,trivial⟩ rfl ?_
      refine TA_all (rs:=[15]) (by kernel_rfl) rfl ?_
      refine ⟨?_,trivial⟩
      refine TO_n (is:=[]) (done':=dn 16 65535) rfl rfl rfl (by kernel_rfl) (E_store (j:=1) rfl rfl inf9 rfl rfl rfl (Nat.lt_succ_self 0) (cs':=[vs ((lg a_m_Shares ((r_5).toNat)).2)]) rfl) (fun _ _=>rfl) (fun _=>?_)
      refine TA_done (by kernel_rfl) ?_ 0
      refine TX_next (TC_seq (TC_region (TVa ?_)))
      refine TL_nil (TX_next (TC_ret ?_))
      obtain rfl:=sj H
      exact TX_ret (rs:=[.tmp 2]) (vs:=[vi (-1)]) rfl ⟨rfl,trivial⟩ (fun w' hs'=>⟨(),rfl,Step.left (Step.pulled (is:=[0,0,0]) (A:=[⟨some (ba,oba+5),[vi r_1.1]⟩,⟨some (ba,oba+6),[vs ((lg a_m_Shares ((r_5).toNat)).2)]⟩,⟨some (ba,oba+7),[vb (decide (r_5<0))]⟩]) hs' rfl)⟩)
     ·refine TC_skip (TX_next (TC_seq (TC_region (TVa ?_))))
      refine TL_nil (TX_next (TC_ret ?_))
      obtain rfl:=sj H
      exact TX_ret (rs:=[.tmp 2]) (vs:=[vi (-1)]) rfl ⟨rfl,trivial⟩ (fun w' hs'=>⟨(),rfl,Step.left (Step.pulled (is:=[0,0,0]) (A:=[⟨some (ba,oba+5),[vi r_1.1]⟩,⟨some (ba,oba+6),[vs a_out_Share]⟩,⟨some (ba,oba+7),[vb (decide (r_5<0))]⟩]) hs' rfl)⟩)
   ·exact (Option.some.inj H)
end Go.Proofs
end

section
namespace Go.Proofs
open Go Go.Kx
open TryzI Tryz
def aes_twice (x:BitVec 8):Option (BitVec 8) :=
 ltt ((x <<< 1) ^^^ (27#8 &&& (-(x >>> 7)))) fun (x1:BitVec 8)=>(some x1)
set_option maxHeartbeats 4000000 in
set_option maxRecDepth 20000 in
theorem F153_calls (x:BitVec 8) (r:BitVec 8) (H:aes_twice x=some r) :
  Does Tryz.prog 153 [v8 x] [] [] (Γ:=Unit) (fun g=>v8 r) (fun g=>[]):=by
 intro w hmem hro hd
 refine calls_of (N:=10) (m0:=[(0,v8 x)]) func153 rfl ntmps153 (argM_ok [v8 x]) rfl hmem hro hd ?_
 unfold aes_twice at H
 refine TC_seq (TC_region (TVa ?_))
 refine TL_nil (TX_next (TC_seq (TC_region (TVm ?_))))
 refine TLv (V_bin rfl rfl (fun w=>shl8 w x .u64 1 (by decide))) ?_
 refine TVm ?_
 refine TLv (V_bin rfl rfl (fun w=>shr8 w x .u64 7 (by decide))) ?_
 refine TLv (V_un rfl (fun w=>neg8 w (x >>> 7))) ?_
 refine TLv (V_bin rfl rfl (fun w=>and8 w 27#8 (-(x >>> 7)))) ?_
 refine TLv (V_bin rfl rfl (fun w=>xor8 w (x <<< 1) (27#8 &&& (-(x >>> 7))))) ?_
 refine TVa ?_
 obtain ⟨x1,hx1,H⟩:=ltt_elim H
 refine TLr 2 (congrArg v8 hx1) ?_
 refine TL_nil (TX_next (TC_ret ?_))
 obtain rfl:=sj H
 exact TX1
end Go.Proofs
end

section
namespace Go.Proofs
open Go Go.Kx
open TryzI Tryz
def math_bits_RotateLeft8 (x:BitVec 8) (k:Int):Option (BitVec 8) :=
 ltt ((BitVec.ofInt 64 k) &&& 7#64) fun (s_1:BitVec 64)=>(ltt ((x <<< s_1.toNat) ||| (x >>> (8#64 - s_1).toNat)) fun (x1:BitVec 8)=>(some x1))
set_option maxHeartbeats 4000000 in
set_option maxRecDepth 20000 in
theorem F155_calls (x:BitVec 8) (k:Int) (r:BitVec 8) (H:math_bits_RotateLeft8 x k=some r) :
  Does Tryz.prog 155 [v8 x,vi k] [] [] (Γ:=Unit) (fun g=>v8 r) (fun g=>[]):=by
 intro w hmem hro hd
 refine calls_of (N:=17) (m0:=[(0,v8 x),(1,vi k)]) func155 rfl ntmps155 (argM_ok [v8 x,vi k]) rfl hmem hro hd ?_
 unfold math_bits_RotateLeft8 at H
 refine TC_seq (TC_region (TVa ?_))
 refine TL_nil (TX_next (TC_seq (TC_region (TVm ?_))))
 refine TLv (V_conv rfl (fun w=>cvI64 w _ _ underlying53 (und3) .i64 k)) ?_
 refine TLv (V_bin rfl rfl (fun w=>and64 w (BitVec.ofInt 64 k) 7#64)) ?_
 refine TVa ?_
 obtain ⟨s_1,hs_1,H⟩:=ltt_elim H
 refine TLr 5 (congrArg v64 hs_1) ?_
 refine TL_nil (TX_next (TC_seq (TC_region (TVm ?_))))
 refine TVm ?_
 refine TLv (V_bin rfl rfl (fun w=>shl8 w x .u64 (s_1.toNat:Int) (Int.natCast_nonneg _))) ?_
 refine TVm ?_
 refine TVm ?_
 refine TLv (V_bin rfl rfl (fun w=>sub64 w 8#64 s_1)) ?_
 refine TLv (V_bin rfl rfl (fun w=>shr8 w x .u64 ((8#64 - s_1).toNat:Int) (Int.natCast_nonneg _))) ?_
 refine TLv (V_bin rfl rfl (fun w=>or8 w (x <<< s_1.toNat) (x >>> (8#64 - s_1).toNat))) ?_
 refine TVa ?_
 obtain ⟨x1,hx1,H⟩:=ltt_elim H
 refine TLr 4 (congrArg v8 hx1) ?_
 refine TL_nil (TX_next (TC_ret ?_))
 obtain rfl:=sj H
 exact TX1
end Go.Proofs
end

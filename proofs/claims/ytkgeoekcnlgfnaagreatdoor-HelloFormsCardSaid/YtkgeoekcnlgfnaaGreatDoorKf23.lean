/-
  Part 23 of the proof of what several laws share.
-/
import Derived.Test.YtkgeoekcnlgfnaaGreatDoorKf1
import Derived.Test.YtkgeoekcnlgfnaaGreatDoorKf2
import Derived.Test.YtkgeoekcnlgfnaaGreatDoorKf3
import Derived.Test.YtkgeoekcnlgfnaaGreatDoorKf4
import Derived.Test.YtkgeoekcnlgfnaaGreatDoorKf5
import Derived.Test.YtkgeoekcnlgfnaaGreatDoorKf6
import Derived.Test.YtkgeoekcnlgfnaaGreatDoorKf13
import Derived.Test.YtkgeoekcnlgfnaaGreatDoorKf14
import Derived.Test.YtkgeoekcnlgfnaaGreatDoorKf15
import Derived.Test.YtkgeoekcnlgfnaaGreatDoorKf16
import Derived.Test.YtkgeoekcnlgfnaaGreatDoorKf17
import Derived.Test.YtkgeoekcnlgfnaaGreatDoorKf18
import Derived.Test.YtkgeoekcnlgfnaaGreatDoorKf19
import Derived.Test.YtkgeoekcnlgfnaaGreatDoorKf20
import Derived.Test.YtkgeoekcnlgfnaaGreatDoorKf21
import Derived.Test.YtkgeoekcnlgfnaaGreatDoorKf22
set_option linter.unusedVariables false
set_option linter.unusedSimpArgs false
section
namespace Go.Proofs
open Go Go.Kx
open TryzI Tryz
def hello_asking_proof (a_c_Server:Bool) (a_c_Suites:List (Int)) (a_c_Groups:List (Int)) (a_c_Chain:List (Str)) (a_c_Key:Str) (a_c_Roots:List (Str)) (a_c_Name:Str) (a_c_Tickets:Int) (a_c_Seal:Str) (a_c_Psk:List (Str × Str × Int × Int × Int × Int)) (a_c_Tape:Str) (a_c_Clock:Int) (a_c_Pad:Int) (a_c_Limit:Int) (a_c_Ring:Int) (a_m_Kind:Int) (a_m_Random:Str) (a_m_Session:Str) (a_m_Suites:List (Int)) (a_m_Name:Str) (a_m_Versions:List (Int)) (a_m_Groups:List (Int)) (a_m_Schemes:List (Int)) (a_m_Modes:List (Int)) (a_m_Shares:List (Int × Str)) (a_m_Identities:List (Str × Int)) (a_m_Binders:List (Str)) (a_m_Psk:Int) (a_m_Others:List (Int)) (a_m_Certs:List (Str)) (a_m_Scheme:Int) (a_m_Data:Str) (a_m_Life:Int) (a_m_Add:Int) (a_m_Nonce:Str) (a_m_Update:Int) (a_again:Bool) (a_group:Int) (a_out_Suite:Int) (a_out_Group:Int) (a_out_Share:Str) (a_out_Retry:Bool) (a_out_Psk:Bool) (a_out_Alert:Int):Option (Int × Bool) :=
 if a_out_Retry=true then (some ((-1),a_out_Psk)) else ((if 0<((a_m_Identities).length:Int) then (some (decide (((a_m_Modes).length:Int)=0))) else (some false)).bind fun (j1:Bool)=>(if j1=true then (some (109,a_out_Psk)) else ((hello_Opened a_c_Server a_c_Suites a_c_Groups a_c_Chain a_c_Key a_c_Roots a_c_Name a_c_Tickets a_c_Seal a_c_Psk a_c_Tape a_c_Clock a_c_Pad a_c_Limit a_c_Ring a_m_Kind a_m_Random a_m_Session a_m_Suites a_m_Name a_m_Versions a_m_Groups a_m_Schemes a_m_Modes a_m_Shares a_m_Identities a_m_Binders a_m_Psk a_m_Others a_m_Certs a_m_Scheme a_m_Data a_m_Life a_m_Add a_m_Nonce a_m_Update a_out_Suite).bind fun (r_1:Int × Str × Int × Int × Bool)=>(if r_1.2.2.2.2=true then (some ((-1),r_1.2.2.2.2)) else (ltt (decide (((a_m_Schemes).length:Int)=0)) fun (x1:Bool)=>(if x1=true then (some (109,r_1.2.2.2.2)) else ((slices_Contains___int_int_ a_m_Schemes 1027).bind fun (r_2:Bool)=>(if (!r_2)=true then (some (40,r_1.2.2.2.2)) else (some ((-1),r_1.2.2.2.2))))))))))
set_option maxHeartbeats 4000000 in
set_option maxRecDepth 20000 in
theorem F32_calls (ba:Nat) (oba:Nat) (ba_c:Nat) (oba_c:Nat) (Aa_c_Suites:Adr) (ca_c_Suites:Nat) (Aa_c_Groups:Adr) (ca_c_Groups:Nat) (Aa_c_Chain:Adr) (ca_c_Chain:Nat) (Aa_c_Roots:Adr) (ca_c_Roots:Nat) (Aa_c_Psk:Adr) (ca_c_Psk:Nat) (ba_m:Nat) (oba_m:Nat) (Aa_m_Suites:Adr) (ca_m_Suites:Nat) (Aa_m_Versions:Adr) (ca_m_Versions:Nat) (Aa_m_Groups:Adr) (ca_m_Groups:Nat) (Aa_m_Schemes:Adr) (ca_m_Schemes:Nat) (Aa_m_Modes:Adr) (ca_m_Modes:Nat) (Aa_m_Shares:Adr) (ca_m_Shares:Nat) (Aa_m_Identities:Adr) (ca_m_Identities:Nat) (Aa_m_Binders:Adr) (ca_m_Binders:Nat) (Aa_m_Others:Adr) (ca_m_Others:Nat) (Aa_m_Certs:Adr) (ca_m_Certs:Nat) (a_c_Server:Bool) (a_c_Suites:List (Int)) (a_c_Groups:List (Int)) (a_c_Chain:List (Str)) (a_c_Key:Str) (a_c_Roots:List (Str)) (a_c_Name:Str) (a_c_Tickets:Int) (a_c_Seal:Str) (a_c_Psk:List (Str × Str × Int × Int × Int × Int)) (a_c_Tape:Str) (a_c_Clock:Int) (a_c_Pad:Int) (a_c_Limit:Int) (a_c_Ring:Int) (a_m_Kind:Int) (a_m_Random:Str) (a_m_Session:Str) (a_m_Suites:List (Int)) (a_m_Name:Str) (a_m_Versions:List (Int)) (a_m_Groups:List (Int)) (a_m_Schemes:List (Int)) (a_m_Modes:List (Int)) (a_m_Shares:List (Int × Str)) (a_m_Identities:List (Str × Int)) (a_m_Binders:List (Str)) (a_m_Psk:Int) (a_m_Others:List (Int)) (a_m_Certs:List (Str)) (a_m_Scheme:Int) (a_m_Data:Str) (a_m_Life:Int) (a_m_Add:Int) (a_m_Nonce:Str) (a_m_Update:Int) (a_again:Bool) (a_group:Int) (a_out_Suite:Int) (a_out_Group:Int) (a_out_Share:Str) (a_out_Retry:Bool) (a_out_Psk:Bool) (a_out_Alert:Int) (hca_c_Suites:(a_c_Suites).length≤ca_c_Suites) (hca_c_Groups:(a_c_Groups).length≤ca_c_Groups) (hca_c_Chain:(a_c_Chain).length≤ca_c_Chain) (hca_c_Roots:(a_c_Roots).length≤ca_c_Roots) (hca_c_Psk:(a_c_Psk).length≤ca_c_Psk) (hca_m_Suites:(a_m_Suites).length≤ca_m_Suites) (hca_m_Versions:(a_m_Versions).length≤ca_m_Versions) (hca_m_Groups:(a_m_Groups).length≤ca_m_Groups) (hca_m_Schemes:(a_m_Schemes).length≤ca_m_Schemes) (hca_m_Modes:(a_m_Modes).length≤ca_m_Modes) (hca_m_Shares:(a_m_Shares).length≤ca_m_Shares) (hca_m_Identities:(a_m_Identities).length≤ca_m_Identities) (hca_m_Binders:(a_m_Binders).length≤ca_m_Binders) (hca_m_Others:(a_m_Others).length≤ca_m_Others) (hca_m_Certs:(a_m_Certs).length≤ca_m_Certs) (r:Int × Bool) (H:hello_asking_proof a_c_Server a_c_Suites a_c_Groups a_c_Chain a_c_Key a_c_Roots a_c_Name a_c_Tickets a_c_Seal a_c_Psk a_c_Tape a_c_Clock a_c_Pad a_c_Limit a_c_Ring a_m_Kind a_m_Random a_m_Session a_m_Suites a_m_Name a_m_Versions a_m_Groups a_m_Schemes a_m_Modes a_m_Shares a_m_Identities a_m_Binders a_m_Psk a_m_Others a_m_Certs a_m_Scheme a_m_Data a_m_Life a_m_Add a_m_Nonce a_m_Update a_again a_group a_out_Suite a_out_Group a_out_Share a_out_Retry a_out_Psk a_out_Alert=some r) :
  Does Tryz.prog 32 [ptr (some (ba,oba)) 0] [⟨some (ba,oba+8),[vb a_out_Psk]⟩] [⟨some (ba,oba),[ptr (some (ba_c,oba_c)) 0]⟩,⟨some (ba,oba+1),[ptr (some (ba_m,oba_m)) 0]⟩,⟨some (ba,oba+2),[vb a_again]⟩,⟨some (ba,oba+3),[vi a_group]⟩,⟨some (ba,oba+4),[vi a_out_Suite]⟩,⟨some (ba,oba+5),[vi a_out_Group]⟩,⟨some (ba,oba+6),[vs a_out_Share]⟩,⟨some (ba,oba+7),[vb a_out_Retry]⟩,⟨some (ba,oba+9),[vi a_out_Alert]⟩,⟨some (ba_c,oba_c),[vb a_c_Server]⟩,⟨some (ba_c,oba_c+1),[sl Aa_c_Suites ((a_c_Suites).length) ca_c_Suites]⟩,⟨some (ba_c,oba_c+2),[sl Aa_c_Groups ((a_c_Groups).length) ca_c_Groups]⟩,⟨some (ba_c,oba_c+3),[sl Aa_c_Chain ((a_c_Chain).length) ca_c_Chain]⟩,⟨some (ba_c,oba_c+4),[vs a_c_Key]⟩,⟨some (ba_c,oba_c+5),[sl Aa_c_Roots ((a_c_Roots).length) ca_c_Roots]⟩,⟨some (ba_c,oba_c+6),[vs a_c_Name]⟩,⟨some (ba_c,oba_c+7),[vi a_c_Tickets]⟩,⟨some (ba_c,oba_c+8),[vs a_c_Seal]⟩,⟨some (ba_c,oba_c+9),[sl Aa_c_Psk ((a_c_Psk).length) ca_c_Psk]⟩,⟨some (ba_c,oba_c+10),[vs a_c_Tape]⟩,⟨some (ba_c,oba_c+11),[vi a_c_Clock]⟩,⟨some (ba_c,oba_c+12),[vi a_c_Pad]⟩,⟨some (ba_c,oba_c+13),[vi a_c_Limit]⟩,⟨some (ba_c,oba_c+14),[vi a_c_Ring]⟩,⟨Aa_c_Suites,eI a_c_Suites⟩,⟨Aa_c_Groups,eI a_c_Groups⟩,⟨Aa_c_Chain,eS a_c_Chain⟩,⟨Aa_c_Roots,eS a_c_Roots⟩,⟨Aa_c_Psk,eF (fun p:Str × Str × Int × Int × Int × Int=>[vs p.1,vs p.2.1,vi p.2.2.1,vi p.2.2.2.1,vi p.2.2.2.2.1,vi p.2.2.2.2.2]) a_c_Psk⟩,⟨some (ba_m,oba_m),[vi a_m_Kind]⟩,⟨some (ba_m,oba_m+1),[vs a_m_Random]⟩,⟨some (ba_m,oba_m+2),[vs a_m_Session]⟩,⟨some (ba_m,oba_m+3),[sl Aa_m_Suites ((a_m_Suites).length) ca_m_Suites]⟩,⟨some (ba_m,oba_m+4),[vs a_m_Name]⟩,⟨some (ba_m,oba_m+5),[sl Aa_m_Versions ((a_m_Versions).length) ca_m_Versions]⟩,⟨some (ba_m,oba_m+6),[sl Aa_m_Groups ((a_m_Groups).length) ca_m_Groups]⟩,⟨some (ba_m,oba_m+7),[sl Aa_m_Schemes ((a_m_Schemes).length) ca_m_Schemes]⟩,⟨some (ba_m,oba_m+8),[sl Aa_m_Modes ((a_m_Modes).length) ca_m_Modes]⟩,⟨some (ba_m,oba_m+9),[sl Aa_m_Shares ((a_m_Shares).length) ca_m_Shares]⟩,⟨some (ba_m,oba_m+10),[sl Aa_m_Identities ((a_m_Identities).length) ca_m_Identities]⟩,⟨some (ba_m,oba_m+11),[sl Aa_m_Binders ((a_m_Binders).length) ca_m_Binders]⟩,⟨some (ba_m,oba_m+12),[vi a_m_Psk]⟩,⟨some (ba_m,oba_m+13),[sl Aa_m_Others ((a_m_Others).length) ca_m_Others]⟩,⟨some (ba_m,oba_m+14),[sl Aa_m_Certs ((a_m_Certs).length) ca_m_Certs]⟩,⟨some (ba_m,oba_m+15),[vi a_m_Scheme]⟩,⟨some (ba_m,oba_m+16),[vs a_m_Data]⟩,⟨some (ba_m,oba_m+17),[vi a_m_Life]⟩,⟨some (ba_m,oba_m+18),[vi a_m_Add]⟩,⟨some (ba_m,oba_m+19),[vs a_m_Nonce]⟩,⟨some (ba_m,oba_m+20),[vi a_m_Update]⟩,⟨Aa_m_Suites,eI a_m_Suites⟩,⟨Aa_m_Versions,eI a_m_Versions⟩,⟨Aa_m_Groups,eI a_m_Groups⟩,⟨Aa_m_Schemes,eI a_m_Schemes⟩,⟨Aa_m_Modes,eI a_m_Modes⟩,⟨Aa_m_Shares,eF (fun p:Int × Str=>[vi p.1,vs p.2]) a_m_Shares⟩,⟨Aa_m_Identities,eF (fun p:Str × Int=>[vs p.1,vi p.2]) a_m_Identities⟩,⟨Aa_m_Binders,eS a_m_Binders⟩,⟨Aa_m_Others,eI a_m_Others⟩,⟨Aa_m_Certs,eS a_m_Certs⟩,⟨some (0,0),[hdE]⟩] (Γ:=Unit) (fun g=>vi r.1) (fun g=>[⟨some (ba,oba+8),[vb r.2]⟩]):=by
 intro w hmem hro hd
 refine calls_of (N:=75) (m0:=[(0,ptr (some (ba,oba)) 0)]) func32 rfl ntmps32 (argM_ok [ptr (some (ba,oba)) 0]) rfl hmem hro hd ?_
 unfold hello_asking_proof at H
 refine TC_seq (TC_region (TVa ?_))
 refine TL_nil (TX_next (TC_seq (TC_seq (TC_region (TVm ?_)))))
 refine TLv (V_nilCheck rfl) ?_
 refine TLv (V_fieldE rfl underlying74 rfl rfl inf34 rfl (v:=ptr (some (ba,oba+4)) 0) rfl) ?_
 refine TLv (V_fieldE rfl underlying34 rfl rfl inf4 rfl (v:=ptr (some (ba,oba+7)) 0) rfl) ?_
 refine TLv (V_load rfl (.r 7) rfl isAgg4) ?_
 refine TL_nil (TX_next (TCb H (fun hc H=>?_) (fun hc H=>?_)))
 ·refine TC_seq (TC_region (TVa ?_))
  refine TL_nil (TX_next (TC_ret (TX_then_ret ?_)))
  obtain rfl:=sj H
  exact TX_ret (rs:=[.tmp 2]) (vs:=[vi (-1)]) rfl ⟨rfl,trivial⟩ (fun w' hs'=>⟨(),rfl,Step.left (Step.pulled (is:=[0]) (A:=[⟨some (ba,oba+8),[vb a_out_Psk]⟩]) hs' rfl)⟩)
 ·refine TC_skip (TX_next (TC_seq (TC_seq (TC_region (TVm ?_)))))
  refine TLv (V_nilCheck rfl) ?_
  refine TLv (V_fieldE rfl underlying74 rfl rfl inf72 rfl (v:=ptr (some (ba,oba+1)) 0) rfl) ?_
  refine TLv (V_load rfl (.r 1) rfl isAgg72) ?_
  refine TLv (V_nilCheck rfl) ?_
  refine TLv (V_fieldE rfl underlying30 rfl rfl inf28 rfl (v:=ptr (some (ba_m,oba_m+10)) 0) rfl) ?_
  refine TLv (V_load rfl (.r 39) rfl isAgg28) ?_
  refine TLv (V_len_slice rfl underlying28) ?_
  refine TLv (V_bin rfl rfl (fun w=>gtrI w ((a_m_Identities).length:Int) 0)) ?_
  refine TVm ?_
  obtain ⟨j1,Hj,H⟩:=bind_elim H
  refine TL_join (Γ:=Unit) (fun gj1=>[(0,ptr (some (ba,oba)) 0),(27,vb j1)]) (fun gj1=>[⟨some (ba,oba+8),[vb a_out_Psk]⟩]) ?_ ?_
  ·intro gj1
   refine TX_next (TCb H (fun hc H=>?_) (fun hc H=>?_))
   ·refine TC_seq (TC_region (TVa ?_))
    refine TL_nil (TX_next (TC_ret (TX_then_ret ?_)))
    obtain rfl:=sj H
    exact TX_ret (rs:=[.tmp 2]) (vs:=[vi 109]) rfl ⟨rfl,trivial⟩ (fun w' hs'=>⟨(),rfl,Step.left (Step.pulled (is:=[0]) (A:=[⟨some (ba,oba+8),[vb a_out_Psk]⟩]) hs' rfl)⟩)
   ·refine TC_skip (TX_next (TC_seq ?_))
    obtain ⟨r_1,hr_1,H⟩:=bind_elim H
    refine TA_begin [] 22 (by kernel_rfl) (N:=22) rfl ?_
    refine TA_mix (is:=[]) (done':=dn 22 2097151) [itV 0 29 (ptr (some (ba,oba)) 0) [],itV 1 30 (ptr (some (ba,oba)) 0) [],itV 2 31 (ptr (some (ba,oba)) 0) [1],itV 3 32 (ptr (some (ba,oba)) 0) [2],itV 4 33 (ptr (some (ba_c,oba_c)) 0) [3],itV 5 34 (ptr (some (ba,oba)) 0) [],itV 6 35 (ptr (some (ba,oba)) 0) [5],itV 7 36 (ptr (some (ba,oba+1)) 0) [6],itV 8 37 (ptr (some (ba_m,oba_m)) 0) [7],itV 9 38 (ptr (some (ba,oba)) 0) [],itV 10 39 (ptr (some (ba,oba)) 0) [9],itV 11 40 (ptr (some (ba,oba+4)) 0) [10],itV 12 41 (ptr (some (ba,oba+4)) 0) [11],itV 13 42 (vi a_out_Suite) [12],itV 14 43 (Value.tuple [aG [(1,[vi r_1.1]),(1,[vs r_1.2.1]),(1,[vi r_1.2.2.1]),(1,[vi r_1.2.2.2.1])],vb r_1.2.2.2.2].toArray) [4,13,8],itV 15 28 (Value.tuple [aG [(1,[vi r_1.1]),(1,[vs r_1.2.1]),(1,[vi r_1.2.2.1]),(1,[vi r_1.2.2.2.1])],vb r_1.2.2.2.2].toArray) [14],itV 16 44 (aG [(1,[vi r_1.1]),(1,[vs r_1.2.1]),(1,[vi r_1.2.2.1]),(1,[vi r_1.2.2.2.1])]) [15],itV 17 45 (vb r_1.2.2.2.2) [15],itV 18 46 (ptr (some (ba,oba)) 0) [0],itV 19 47 (ptr (some (ba,oba+4)) 0) [18],itV 20 48 (ptr (some (ba,oba+8)) 0) [19]] [] 1 (by kernel_rfl) (QP.then QP.body) (by kernel_rfl) rfl (.v rfl (V_move rfl) (.v rfl (V_move rfl) (.v rfl (V_nilCheck rfl) (.v rfl (V_fe underlying74 inf71) (.v rfl (V_load rfl (.r 0) rfl isAgg71) (.v rfl (V_move rfl) (.v rfl (V_nilCheck rfl) (.v rfl (V_fe underlying74 inf72) (.v rfl (V_load rfl (.r 1) rfl isAgg72) (.v rfl (V_move rfl) (.v rfl (V_nilCheck rfl) (.v rfl (V_fe underlying74 inf34) (.v rfl (V_fe underlying34 inf3) (.v rfl (V_load rfl (.r 4) rfl isAgg3) (.e rfl (E_cu (F67_calls ba_c oba_c Aa_c_Suites ca_c_Suites Aa_c_Groups ca_c_Groups Aa_c_Chain ca_c_Chain Aa_c_Roots ca_c_Roots Aa_c_Psk ca_c_Psk ba_m oba_m Aa_m_Suites ca_m_Suites Aa_m_Versions ca_m_Versions Aa_m_Groups ca_m_Groups Aa_m_Schemes ca_m_Schemes Aa_m_Modes ca_m_Modes Aa_m_Shares ca_m_Shares Aa_m_Identities ca_m_Identities Aa_m_Binders ca_m_Binders Aa_m_Others ca_m_Others Aa_m_Certs ca_m_Certs a_c_Server a_c_Suites a_c_Groups a_c_Chain a_c_Key a_c_Roots a_c_Name a_c_Tickets a_c_Seal a_c_Psk a_c_Tape a_c_Clock a_c_Pad a_c_Limit a_c_Ring a_m_Kind a_m_Random a_m_Session a_m_Suites a_m_Name a_m_Versions a_m_Groups a_m_Schemes a_m_Modes a_m_Shares a_m_Identities a_m_Binders a_m_Psk a_m_Others a_m_Certs a_m_Scheme a_m_Data a_m_Life a_m_Add a_m_Nonce a_m_Update a_out_Suite hca_c_Suites hca_c_Groups hca_c_Chain hca_c_Roots hca_c_Psk hca_m_Suites hca_m_Versions hca_m_Groups hca_m_Schemes hca_m_Modes hca_m_Shares hca_m_Identities hca_m_Binders hca_m_Others hca_m_Certs r_1 hr_1) call67 ⟨.r 9, .r 10, .r 11, .r 12, .r 13, .r 14, .r 15, .r 16, .r 17, .r 18, .r 19, .r 20, .r 21, .r 22, .r 23, .r 24, .r 25, .r 26, .r 27, .r 28, .r 29, .r 30, .r 31, .r 32, .r 33, .r 34, .r 35, .r 36, .r 37, .r 38, .r 39, .r 40, .r 41, .r 42, .r 43, .r 44, .r 45, .r 46, .r 47, .r 48, .r 49, .r 50, .r 51, .r 52, .r 53, .r 54, .r 55, .r 56, .r 57, .r 58, .r 59, .r 60,trivial⟩) (.v rfl (V_move rfl) (.v rfl V_ex (.v rfl V_ex (.v rfl (V_nilCheck rfl) (.v rfl (V_fe underlying74 inf34) (.v rfl (V_fe underlying34 inf4) .nil))))))))))))))))))))) .nil (by kernel_rfl) rfl (fun γ=>?_)
    refine TA_cut [(48,ptr (some (ba,oba+8)) 0),(45,vb r_1.2.2.2.2),(0,ptr (some (ba,oba)) 0)] [⟨some (ba,oba+8),[vb a_out_Psk]⟩] ⟨rfl,rfl,rfl,trivial⟩ rfl ?_
    refine TA_all (rs:=[21]) (by kernel_rfl) rfl ?_
    refine ⟨?_,trivial⟩
    refine TO_n (is:=[]) (done':=dn 22 4194303) rfl rfl rfl (by kernel_rfl) (E_store (j:=0) rfl rfl inf4 rfl rfl rfl (Nat.lt_succ_self 0) (cs':=[vb r_1.2.2.2.2]) rfl) (fun _ _=>rfl) (fun _=>?_)
    refine TA_done (by kernel_rfl) ?_ 0
    refine TX_next (TC_seq (TC_block (TC_seq (TC_region (TVm ?_)))))
    refine TLv (V_nilCheck rfl) ?_
    refine TLv (V_fieldE rfl underlying74 rfl rfl inf34 rfl (v:=ptr (some (ba,oba+4)) 0) rfl) ?_
    refine TLv (V_fieldE rfl underlying34 rfl rfl inf4 rfl (v:=ptr (some (ba,oba+8)) 0) rfl) ?_
    refine TLv (V_load rfl (.o 0) rfl isAgg4) ?_
    refine TVa ?_
    refine TL_nil (TX_next (TCb H (fun hc H=>?_) (fun hc H=>?_)))
    ·refine TC_seq (TC_region (TVa ?_))
     refine TL_nil (TX_next (TC_ret (TX_block_ret (TX_then_ret ?_))))
     obtain rfl:=sj H
     exact TX_ret (rs:=[.tmp 2]) (vs:=[vi (-1)]) rfl ⟨rfl,trivial⟩ (fun w' hs'=>⟨(),rfl,Step.left (Step.pulled (is:=[0]) (A:=[⟨some (ba,oba+8),[vb r_1.2.2.2.2]⟩]) hs' rfl)⟩)
    ·refine TC_seq (TC_region (TVm ?_))
     refine TLv (V_nilCheck rfl) ?_
     refine TLv (V_fieldE rfl underlying74 rfl rfl inf72 rfl (v:=ptr (some (ba,oba+1)) 0) rfl) ?_
     refine TLv (V_load rfl (.r 1) rfl isAgg72) ?_
     refine TLv (V_nilCheck rfl) ?_
     refine TLv (V_fieldE rfl underlying30 rfl rfl inf22 rfl (v:=ptr (some (ba_m,oba_m+7)) 0) rfl) ?_
     refine TLv (V_load rfl (.r 36) rfl isAgg22) ?_
     refine TLv (V_len_slice rfl underlying22) ?_
     refine TLv (V_bin rfl rfl (fun w=>eqlI w ((a_m_Schemes).length:Int) 0)) ?_
     refine TVa ?_
     obtain ⟨x1,hx1,H⟩:=ltt_elim H
     refine TLr 55 (congrArg vb hx1) ?_
     refine TL_nil (TX_next (TCb H (fun hc H=>?_) (fun hc H=>?_)))
     ·refine TC_seq (TC_region (TVa ?_))
      refine TL_nil (TX_next (TC_ret (TX_block_ret (TX_then_ret ?_))))
      obtain rfl:=sj H
      exact TX_ret (rs:=[.tmp 2]) (vs:=[vi 109]) rfl ⟨rfl,trivial⟩ (fun w' hs'=>⟨(),rfl,Step.left (Step.pulled (is:=[0]) (A:=[⟨some (ba,oba+8),[vb r_1.2.2.2.2]⟩]) hs' rfl)⟩)
     ·refine TC_seq (TC_region (TVm ?_))
      refine TLv (V_nilCheck rfl) ?_
      refine TLv (V_fieldE rfl underlying74 rfl rfl inf72 rfl (v:=ptr (some (ba,oba+1)) 0) rfl) ?_
      refine TLv (V_load rfl (.r 1) rfl isAgg72) ?_
      refine TLv (V_nilCheck rfl) ?_
      refine TLv (V_fieldE rfl underlying30 rfl rfl inf22 rfl (v:=ptr (some (ba_m,oba_m+7)) 0) rfl) ?_
      refine TLv (V_load rfl (.r 36) rfl isAgg22) ?_
      obtain ⟨r_2,hr_2,H⟩:=bind_elim H
      refine TLe (E_c0 (F62_calls Aa_m_Schemes ca_m_Schemes a_m_Schemes 1027 hca_m_Schemes r_2 hr_2) call62 ⟨.r 53,trivial⟩) (fun g_2=>?_)
      refine TLv (V_un rfl (fun w=>notB w r_2)) ?_
      refine TVa ?_
      refine TL_nil (TX_next (TCb H (fun hc H=>?_) (fun hc H=>?_)))
      ·refine TC_seq (TC_region (TVa ?_))
       refine TL_nil (TX_next (TC.sub (m':=[(2,_)]) ⟨rfl,trivial⟩ ?_))
       refine TC.pull (is:=[0]) (L':=[_]) rfl ?_
       refine TC_ret (TX_block_ret (TX_then_ret ?_))
       obtain rfl:=sj H
       exact TX_ret (rs:=[.tmp 2]) (vs:=[vi 40]) rfl ⟨rfl,trivial⟩ (fun w' hs'=>⟨(),rfl,Step.left (Step.pulled (is:=[0]) (A:=[⟨some (ba,oba+8),[vb r_1.2.2.2.2]⟩]) hs' rfl)⟩)
      ·refine TC_skip (TX_block_normal (TX_next (TC_seq (TC_region (TVa ?_)))))
       refine TL_nil (TX_next (TC.sub (m':=[(2,_)]) ⟨rfl,trivial⟩ ?_))
       refine TC.pull (is:=[0]) (L':=[_]) rfl ?_
       refine TC_ret ?_
       obtain rfl:=sj H
       exact TX_ret (rs:=[.tmp 2]) (vs:=[vi (-1)]) rfl ⟨rfl,trivial⟩ (fun w' hs'=>⟨(),rfl,Step.left (Step.pulled (is:=[0]) (A:=[⟨some (ba,oba+8),[vb r_1.2.2.2.2]⟩]) hs' rfl)⟩)
  ·intro hJ
   replace H:=Hj
   refine TFd (d:=17) H (fun hc H=>?_) (fun hc H=>?_)
   ·refine TLw (V_move rfl) ?_
    refine TLw (V_nilCheck rfl) ?_
    refine TLw (V_fieldE rfl underlying74 rfl rfl inf72 rfl (v:=ptr (some (ba,oba+1)) 0) rfl) ?_
    refine TLw (V_load rfl (.r 1) rfl isAgg72) ?_
    refine TLw (V_nilCheck rfl) ?_
    refine TLw (V_fieldE rfl underlying30 rfl rfl inf22 rfl (v:=ptr (some (ba_m,oba_m+8)) 0) rfl) ?_
    refine TLw (V_load rfl (.r 37) rfl isAgg22) ?_
    refine TLw (V_len_slice rfl underlying22) ?_
    refine TLw (V_bin rfl rfl (fun w=>eqlI w ((a_m_Modes).length:Int) 0)) ?_
    refine TVt ?_
    refine TL_nil ?_
    obtain rfl:=sj H
    exact TXj [0] (hJ ())
   ·refine TLs ?_
    refine TLs ?_
    refine TLs ?_
    refine TLs ?_
    refine TLs ?_
    refine TLs ?_
    refine TLs ?_
    refine TLs ?_
    refine TLs ?_
    refine TVf ?_
    refine TL_nil ?_
    obtain rfl:=sj H
    exact TXj [0] (hJ ())
end Go.Proofs
end

/-
  Part 23 of the proof of what several laws share.
-/
import Derived.Test.YtkgeoekcnlgfnaaGreatDoorKc1
import Derived.Test.YtkgeoekcnlgfnaaGreatDoorKc2
import Derived.Test.YtkgeoekcnlgfnaaGreatDoorKc3
import Derived.Test.YtkgeoekcnlgfnaaGreatDoorKc4
import Derived.Test.YtkgeoekcnlgfnaaGreatDoorKc5
import Derived.Test.YtkgeoekcnlgfnaaGreatDoorKc6
import Derived.Test.YtkgeoekcnlgfnaaGreatDoorKc7
import Derived.Test.YtkgeoekcnlgfnaaGreatDoorKc8
import Derived.Test.YtkgeoekcnlgfnaaGreatDoorKc9
import Derived.Test.YtkgeoekcnlgfnaaGreatDoorKc10
import Derived.Test.YtkgeoekcnlgfnaaGreatDoorKc11
import Derived.Test.YtkgeoekcnlgfnaaGreatDoorKc12
import Derived.Test.YtkgeoekcnlgfnaaGreatDoorKc13
import Derived.Test.YtkgeoekcnlgfnaaGreatDoorKc14
import Derived.Test.YtkgeoekcnlgfnaaGreatDoorKc15
import Derived.Test.YtkgeoekcnlgfnaaGreatDoorKc16
import Derived.Test.YtkgeoekcnlgfnaaGreatDoorKc17
import Derived.Test.YtkgeoekcnlgfnaaGreatDoorKc18
import Derived.Test.YtkgeoekcnlgfnaaGreatDoorKc19
import Derived.Test.YtkgeoekcnlgfnaaGreatDoorKc20
import Derived.Test.YtkgeoekcnlgfnaaGreatDoorKc21
import Derived.Test.YtkgeoekcnlgfnaaGreatDoorKc22
set_option linter.unusedVariables false
set_option linter.unusedSimpArgs false
section
namespace Go.Proofs
open Go Go.Kx
open TryzI Tryz
def hello_asking_proof (a_c_Server:Bool) (a_c_Suites:List (Int)) (a_c_Groups:List (Int)) (a_c_Chain:List (Str)) (a_c_Key:Str) (a_c_Roots:List (Str)) (a_c_Name:Str) (a_c_Tickets:Int) (a_c_Seal:Str) (a_c_Psk:List (Str × Str × Int × Int × Int × Int)) (a_c_Tape:Str) (a_c_Clock:Int) (a_c_Pad:Int) (a_c_Limit:Int) (a_c_Ring:Int) (a_m_Kind:Int) (a_m_Random:Str) (a_m_Session:Str) (a_m_Suites:List (Int)) (a_m_Name:Str) (a_m_Versions:List (Int)) (a_m_Groups:List (Int)) (a_m_Schemes:List (Int)) (a_m_Modes:List (Int)) (a_m_Shares:List (Int × Str)) (a_m_Identities:List (Str × Int)) (a_m_Binders:List (Str)) (a_m_Psk:Int) (a_m_Others:List (Int)) (a_m_Certs:List (Str)) (a_m_Scheme:Int) (a_m_Data:Str) (a_m_Life:Int) (a_m_Add:Int) (a_m_Nonce:Str) (a_m_Update:Int) (a_again:Bool) (a_group:Int) (a_out_Suite:Int) (a_out_Group:Int) (a_out_Share:Str) (a_out_Retry:Bool) (a_out_Psk:Bool) (a_out_Alert:Int):Option (Int × Bool) :=
 if a_out_Retry=true then (some ((-1),a_out_Psk)) else ((if 0<((a_m_Identities).length:Int) then (some (decide (((a_m_Modes).length:Int)=0))) else (some false)).bind fun (j1:Bool)=>(if j1=true then (some (109,a_out_Psk)) else ((hello_Opened a_c_Server a_c_Suites a_c_Groups a_c_Chain a_c_Key a_c_Roots a_c_Name a_c_Tickets a_c_Seal a_c_Psk a_c_Tape a_c_Clock a_c_Pad a_c_Limit a_c_Ring a_m_Kind a_m_Random a_m_Session a_m_Suites a_m_Name a_m_Versions a_m_Groups a_m_Schemes a_m_Modes a_m_Shares a_m_Identities a_m_Binders a_m_Psk a_m_Others a_m_Certs a_m_Scheme a_m_Data a_m_Life a_m_Add a_m_Nonce a_m_Update a_out_Suite).bind fun (r_1:Int × Str × Int × Int × Bool)=>(if r_1.2.2.2.2=true then (some ((-1),r_1.2.2.2.2)) else (ltt (decide (((a_m_Schemes).length:Int)=0)) fun (x1:Bool)=>(if x1=true then (some (109,r_1.2.2.2.2)) else ((slices_Contains___int_int_ a_m_Schemes 1027).bind fun (r_2:Bool)=>(if (!r_2)=true then (some (40,r_1.2.2.2.2)) else (some ((-1),r_1.2.2.2.2))))))))))
set_option maxHeartbeats 4000000 in
set_option maxRecDepth 20000 in
theorem F32_calls (ba:Nat) (oba:Nat) (ba_c:Nat) (oba_c:Nat) (Aa_c_Suites:Adr) (ca_c_Suites:Nat) (Aa_c_Groups:Adr) (ca_c_Groups:Nat) (Aa_c_Chain:Adr) (ca_c_Chain:Nat) (Aa_c_Roots:Adr) (ca_c_Roots:Nat) (Aa_c_Psk:Adr) (ca_c_Psk:Nat) (ba_m:Nat) (oba_m:Nat) (Aa_m_Suites:Adr) (ca_m_Suites:Nat) (Aa_m_Versions:Adr) (ca_m_Versions:Nat) (Aa_m_Groups:Adr) (ca_m_Groups:Nat) (Aa_m_Schemes:Adr) (ca_m_Schemes:Nat) (Aa_m_Modes:Adr) (ca_m_Modes:Nat) (Aa_m_Shares:Adr) (ca_m_Shares:Nat) (Aa_m_Identities:Adr) (ca_m_Identities:Nat) (Aa_m_Binders:Adr) (ca_m_Binders:Nat) (Aa_m_Others:Adr) (ca_m_Others:Nat) (Aa_m_Certs:Adr) (ca_m_Certs:Nat) (a_c_Server:Bool) (a_c_Suites:List (Int)) (a_c_Groups:List (Int)) (a_c_Chain:List (Str)) (a_c_Key:Str) (a_c_Roots:List (Str)) (a_c_Name:Str) (a_c_Tickets:Int) (a_c_Seal:Str) (a_c_Psk:List (Str × Str × Int × Int × Int × Int)) (a_c_Tape:Str) (a_c_Clock:Int) (a_c_Pad:Int) (a_c_Limit:Int) (a_c_Ring:Int) (a_m_Kind:Int) (a_m_Random:Str) (a_m_Session:Str) (a_m_Suites:List (Int)) (a_m_Name:Str) (a_m_Versions:List (Int)) (a_m_Groups:List (Int)) (a_m_Schemes:List (Int)) (a_m_Modes:List (Int)) (a_m_Shares:List (Int × Str)) (a_m_Identities:List (Str × Int)) (a_m_Binders:List (Str)) (a_m_Psk:Int) (a_m_Others:List (Int)) (a_m_Certs:List (Str)) (a_m_Scheme:Int) (a_m_Data:Str) (a_m_Life:Int) (a_m_Add:Int) (a_m_Nonce:Str) (a_m_Update:Int) (a_again:Bool) (a_group:Int) (a_out_Suite:Int) (a_out_Group:Int) (a_out_Share:Str) (a_out_Retry:Bool) (a_out_Psk:Bool) (a_out_Alert:Int) (hca_c_Suites:(a_c_Suites).length≤ca_c_Suites) (hca_c_Groups:(a_c_Groups).length≤ca_c_Groups) (hca_c_Chain:(a_c_Chain).length≤ca_c_Chain) (hca_c_Roots:(a_c_Roots).length≤ca_c_Roots) (hca_c_Psk:(a_c_Psk).length≤ca_c_Psk) (hca_m_Suites:(a_m_Suites).length≤ca_m_Suites) (hca_m_Versions:(a_m_Versions).length≤ca_m_Versions) (hca_m_Groups:(a_m_Groups).length≤ca_m_Groups) (hca_m_Schemes:(a_m_Schemes).length≤ca_m_Schemes) (hca_m_Modes:(a_m_Modes).length≤ca_m_Modes) (hca_m_Shares:(a_m_Shares).length≤ca_m_Shares) (hca_m_Identities:(a_m_Identities).length≤ca_m_Identities) (hca_m_Binders:(a_m_Binders).length≤ca_m_Binders) (hca_m_Others:(a_m_Others).length≤ca_m_Others) (hca_m_Certs:(a_m_Certs).length≤ca_m_Certs) (r:Int × Bool) (H:hello_asking_proof a_c_Server a_c_Suites a_c_Groups a_c_Chain a_c_Key a_c_Roots a_c_Name a_c_Tickets a_c_Seal a_c_Psk a_c_Tape a_c_Clock a_c_Pad a_c_Limit a_c_Ring a_m_Kind a_m_Random a_m_Session a_m_Suites a_m_Name a_m_Versions a_m_Groups a_m_Schemes a_m_Modes a_m_Shares a_m_Identities a_m_Binders a_m_Psk a_m_Others a_m_Certs a_m_Scheme a_m_Data a_m_Life a_m_Add a_m_Nonce a_m_Update a_again a_group a_out_Suite a_out_Group a_out_Share a_out_Retry a_out_Psk a_out_Alert=some r) :
  Does Tryz.prog 32 [ptr (some (ba,oba)) 0] [⟨some (ba,oba+8),[vb a_out_Psk]⟩] [⟨some (ba,oba),[ptr (some (ba_c,oba_c)) 0]⟩,⟨some (ba,oba+1),[ptr (some (ba_m,oba_m)) 0]⟩,⟨some (ba,oba+2),[vb a_again]⟩,⟨some (ba,oba+3),[vi a_group]⟩,⟨some (ba,oba+4),[vi a_out_Suite]⟩,⟨some (ba,oba+5),[vi a_out_Group]⟩,⟨some (ba,oba+6),[vs a_out_Share]⟩,⟨some (ba,oba+7),[vb a_out_Retry]⟩,⟨some (ba,oba+9),[vi a_out_Alert]⟩,⟨some (ba_c,oba_c),[vb a_c_Server]⟩,⟨some (ba_c,oba_c+1),[sl Aa_c_Suites ((a_c_Suites).length) ca_c_Suites]⟩,⟨some (ba_c,oba_c+2),[sl Aa_c_Groups ((a_c_Groups).length) ca_c_Groups]⟩,⟨some (ba_c,oba_c+3),[sl Aa_c_Chain ((a_c_Chain).length) ca_c_Chain]⟩,⟨some (ba_c,oba_c+4),[vs a_c_Key]⟩,⟨some (ba_c,oba_c+5),[sl Aa_c_Roots ((a_c_Roots).length) ca_c_Roots]⟩,⟨some (ba_c,oba_c+6),[vs a_c_Name]⟩,⟨some (ba_c,oba_c+7),[vi a_c_Tickets]⟩,⟨some (ba_c,oba_c+8),[vs a_c_Seal]⟩,⟨some (ba_c,oba_c+9),[sl Aa_c_Psk ((a_c_Psk).length) ca_c_Psk]⟩,⟨some (ba_c,oba_c+10),[vs a_c_Tape]⟩,⟨some (ba_c,oba_c+11),[vi a_c_Clock]⟩,⟨some (ba_c,oba_c+12),[vi a_c_Pad]⟩,⟨some (ba_c,oba_c+13),[vi a_c_Limit]⟩,⟨some (ba_c,oba_c+14),[vi a_c_Ring]⟩,⟨Aa_c_Suites,eI a_c_Suites⟩,⟨Aa_c_Groups,eI a_c_Groups⟩,⟨Aa_c_Chain,eS a_c_Chain⟩,⟨Aa_c_Roots,eS a_c_Roots⟩,⟨Aa_c_Psk,eF (fun p:Str × Str × Int × Int × Int × Int=>[vs p.1,vs p.2.1,vi p.2.2.1,vi p.2.2.2.1,vi p.2.2.2.2.1,vi p.2.2.2.2.2]) a_c_Psk⟩,⟨some (ba_m,oba_m),[vi a_m_Kind]⟩,⟨some (ba_m,oba_m+1),[vs a_m_Random]⟩,⟨some (ba_m,oba_m+2),[vs a_m_Session]⟩,⟨some (ba_m,oba_m+3),[sl Aa_m_Suites ((a_m_Suites).length) ca_m_Suites]⟩,⟨some (ba_m,oba_m+4),[vs a_m_Name]⟩,⟨some (ba_m,oba_m+5),[sl Aa_m_Versions ((a_m_Versions).length) ca_m_Versions]⟩,⟨some (ba_m,oba_m+6),[sl Aa_m_Groups ((a_m_Groups).length) ca_m_Groups]⟩,⟨some (ba_m,oba_m+7),[sl Aa_m_Schemes ((a_m_Schemes).length) ca_m_Schemes]⟩,⟨some (ba_m,oba_m+8),[sl Aa_m_Modes ((a_m_Modes).length) ca_m_Modes]⟩,⟨some (ba_m,oba_m+9),[sl Aa_m_Shares ((a_m_Shares).length) ca_m_Shares]⟩,⟨some (ba_m,oba_m+10),[sl Aa_m_Identities ((a_m_Identities).length) ca_m_Identities]⟩,⟨some (ba_m,oba_m+11),[sl Aa_m_Binders ((a_m_Binders).length) ca_m_Binders]⟩,⟨some (ba_m,oba_m+12),[vi a_m_Psk]⟩,⟨some (ba_m,oba_m+13),[sl Aa_m_Others ((a_m_Others).length) ca_m_Others]⟩,⟨some (ba_m,oba_m+14),[sl Aa_m_Certs ((a_m_Certs).length) ca_m_Certs]⟩,⟨some (ba_m,oba_m+15),[vi a_m_Scheme]⟩,⟨some (ba_m,oba_m+16),[vs a_m_Data]⟩,⟨some (ba_m,oba_m+17),[vi a_m_Life]⟩,⟨some (ba_m,oba_m+18),[vi a_m_Add]⟩,⟨some (ba_m,oba_m+19),[vs a_m_Nonce]⟩,⟨some (ba_m,oba_m+20),[vi a_m_Update]⟩,⟨Aa_m_Suites,eI a_m_Suites⟩,⟨Aa_m_Versions,eI a_m_Versions⟩,⟨Aa_m_Groups,eI a_m_Groups⟩,⟨Aa_m_Schemes,eI a_m_Schemes⟩,⟨Aa_m_Modes,eI a_m_Modes⟩,⟨Aa_m_Shares,eF (fun p:Int × Str=>[vi p.1,vs p.2]) a_m_Shares⟩,⟨Aa_m_Identities,eF (fun p:Str × Int=>[vs p.1,vi p.2]) a_m_Identities⟩,⟨Aa_m_Binders,eS a_m_Binders⟩,⟨Aa_m_Others,eI a_m_Others⟩,⟨Aa_m_Certs,eS a_m_Certs⟩,⟨some (0,0),[hdE]⟩] (Γ:=Unit) (fun g=>vi r.1) (fun g=>[⟨some (ba,oba+8),[vb r.2]⟩]):=by
 intro w hmem hro hd
 refine calls_of (N:=75) (m0:=[(0,ptr (some (ba,oba)) 0)]) func32 rfl ntmps32 (argM_ok [ptr (some (ba,oba)) 0]) rfl hmem hro hd ?_
 unfold hello_asking_proof at H
 refine TC_seq (TC_region (TVa ?_))
 refine TL_nil (TX_next (TC_seq (TC_seq (TC_region (TVm ?_)))))
 refine TLv (V_nilCheck rfl) ?_
 refine TLv (V_fieldE rfl underlying74 rfl rfl inf34 rfl (v:=ptr (some (ba,oba+4)) 0) rfl) ?_
 refine TLv (V_fieldE rfl underlying34 rfl rfl inf4 rfl (v:=ptr (some (ba,oba+7)) 0) rfl) ?_
 refine TLv (V_load rfl (.r 7) rfl isAgg4) ?_
 refine TL_nil (TX_next (TCb H (fun hc H=>?_) (fun hc H=>?_)))
 ·refine TC_seq (TC_region (TVa ?_))
  refine TL_nil (TX_next (TC_ret (TX_then_ret ?_)))
  obtain rfl:=sj H
  exact TX_ret (rs:=[.tmp 2]) (vs:=[vi (-1)]) rfl ⟨rfl,trivial⟩ (fun w' hs'=>⟨(),rfl,Step.left (Step.pulled (is:=[0]) (A:=[⟨some (ba,oba+8),[vb a_out_Psk]⟩]) hs' rfl)⟩)
 ·refine TC_skip (TX_next (TC_seq (TC_seq (TC_region (TVm ?_)))))
  refine TLv (V_nilCheck rfl) ?_
  refine TLv (V_fieldE rfl underlying74 rfl rfl inf72 rfl (v:=ptr (some (ba,oba+1)) 0) rfl) ?_
  refine TLv (V_load rfl (.r 1) rfl isAgg72) ?_
  refine TLv (V_nilCheck rfl) ?_
  refine TLv (V_fieldE rfl underlying30 rfl rfl inf28 rfl (v:=ptr (some (ba_m,oba_m+10)) 0) rfl) ?_
  refine TLv (V_load rfl (.r 39) rfl isAgg28) ?_
  refine TLv (V_len_slice rfl underlying28) ?_
  refine TLv (V_bin rfl rfl (fun w=>gtrI w ((a_m_Identities).length:Int) 0)) ?_
  refine TVm ?_
  obtain ⟨j1,Hj,H⟩:=bind_elim H
  refine TL_join (Γ:=Unit) (fun gj1=>[(0,ptr (some (ba,oba)) 0),(27,vb j1)]) (fun gj1=>[⟨some (ba,oba+8),[vb a_out_Psk]⟩]) ?_ ?_
  ·intro gj1
   refine TX_next (TCb H (fun hc H=>?_) (fun hc H=>?_))
   ·refine TC_seq (TC_region (TVa ?_))
    refine TL_nil (TX_next (TC_ret (TX_then_ret ?_)))
    obtain rfl:=sj H
    exact TX_ret (rs:=[.tmp 2]) (vs:=[vi 109]) rfl ⟨rfl,trivial⟩ (fun w' hs'=>⟨(),rfl,Step.left (Step.pulled (is:=[0]) (A:=[⟨some (ba,oba+8),[vb a_out_Psk]⟩]) hs' rfl)⟩)
   ·refine TC_skip (TX_next (TC_seq ?_))
    obtain ⟨r_1,hr_1,H⟩:=bind_elim H
    refine TA_begin [] 22 (by kernel_rfl) (N:=22) rfl ?_
    refine TA_mix (is:=[]) (done':=dn 22 2097151) [itV 0 29 (ptr (some (ba,oba)) 0) [],itV 1 30 (ptr (some (ba,oba)) 0) [],itV 2 31 (ptr (some (ba,oba)) 0) [1],itV 3 32 (ptr (some (ba,oba)) 0) [2],itV 4 33 (ptr (some (ba_c,oba_c)) 0) [3],itV 5 34 (ptr (some (ba,oba)) 0) [],itV 6 35 (ptr (some (ba,oba)) 0) [5],itV 7 36 (ptr (some (ba,oba+1)) 0) [6],itV 8 37 (ptr (some (ba_m,oba_m)) 0) [7],itV 9 38 (ptr (some (ba,oba)) 0) [],itV 10 39 (ptr (some (ba,oba)) 0) [9],itV 11 40 (ptr (some (ba,oba+4)) 0) [10],itV 12 41 (ptr (some (ba,oba+4)) 0) [11],itV 13 42 (vi a_out_Suite) [12],itV 14 43 (Value.tuple [aG [(1,[vi r_1.1]),(1,[vs r_1.2.1]),(1,[vi r_1.2.2.1]),(1,[vi r_1.2.2.2.1])],vb r_1.2.2.2.2].toArray) [4,13,8],itV 15 28 (Value.tuple [aG [(1,[vi r_1.1]),(1,[vs r_1.2.1]),(1,[vi r_1.2.2.1]),(1,[vi r_1.2.2.2.1])],vb r_1.2.2.2.2].toArray) [14],itV 16 44 (aG [(1,[vi r_1.1]),(1,[vs r_1.2.1]),(1,[vi r_1.2.2.1]),(1,[vi r_1.2.2.2.1])]) [15],itV 17 45 (vb r_1.2.2.2.2) [15],itV 18 46 (ptr (some (ba,oba)) 0) [0],itV 19 47 (ptr (some (ba,oba+4)) 0) [18],itV 20 48 (ptr (some (ba,oba+8)) 0) [19]] [] 1 (by kernel_rfl) (QP.then QP.body) (by kernel_rfl) rfl (.v rfl (V_move rfl) (.v rfl (V_move rfl) (.v rfl (V_nilCheck rfl) (.v rfl (V_fe underlying74 inf71) (.v rfl (V_load rfl (.r 0) rfl isAgg71) (.v rfl (V_move rfl) (.v rfl (V_nilCheck rfl) (.v rfl (V_fe underlying74 inf72) (.v rfl (V_load rfl (.r 1) rfl isAgg72) (.v rfl (V_move rfl) (.v rfl (V_nilCheck rfl) (.v rfl (V_fe underlying74 inf34) (.v rfl (V_fe underlying34 inf3) (.v rfl (V_load rfl (.r 4) rfl isAgg3) (.e rfl (E_cu (F67_calls ba_c oba_c Aa_c_Suites ca_c_Suites Aa_c_Groups ca_c_Groups Aa_c_Chain ca_c_Chain Aa_c_Roots ca_c_Roots Aa_c_Psk ca_c_Psk ba_m oba_m Aa_m_Suites ca_m_Suites Aa_m_Versions ca_m_Versions Aa_m_Groups ca_m_Groups Aa_m_Schemes ca_m_Schemes Aa_m_Modes ca_m_Modes Aa_m_Shares ca_m_Shares Aa_m_Identities ca_m_Identities Aa_m_Binders ca_m_Binders Aa_m_Others ca_m_Others Aa_m_Certs ca_m_Certs a_c_Server a_c_Suites a_c_Groups a_c_Chain a_c_Key a_c_Roots a_c_Name a_c_Tickets a_c_Seal a_c_Psk a_c_Tape a_c_Clock a_c_Pad a_c_Limit a_c_Ring a_m_Kind a_m_Random a_m_Session a_m_Suites a_m_Name a_m_Versions a_m_Groups a_m_Schemes a_m_Modes a_m_Shares a_m_Identities a_m_Binders a_m_Psk a_m_Others a_m_Certs a_m_Scheme a_m_Data a_m_Life a_m_Add a_m_Nonce a_m_Update a_out_Suite hca_c_Suites hca_c_Groups hca_c_Chain hca_c_Roots hca_c_Psk hca_m_Suites hca_m_Versions hca_m_Groups hca_m_Schemes hca_m_Modes hca_m_Shares hca_m_Identities hca_m_Binders hca_m_Others hca_m_Certs r_1 hr_1) call67 ⟨.r 9, .r 10, .r 11, .r 12, .r 13, .r 14, .r 15, .r 16, .r 17, .r 18, .r 19, .r 20, .r 21, .r 22, .r 23, .r 24, .r 25, .r 26, .r 27, .r 28, .r 29, .r 30, .r 31, .r 32, .r 33, .r 34, .r 35, .r 36, .r 37, .r 38, .r 39, .r 40, .r 41, .r 42, .r 43, .r 44, .r 45, .r 46, .r 47, .r 48, .r 49, .r 50, .r 51, .r 52, .r 53, .r 54, .r 55, .r 56, .r 57, .r 58, .r 59, .r 60,trivial⟩) (.v rfl (V_move rfl) (.v rfl V_ex (.v rfl V_ex (.v rfl (V_nilCheck rfl) (.v rfl (V_fe underlying74 inf34) (.v rfl (V_fe underlying34 inf4) .nil))))))))))))))))))))) .nil (by kernel_rfl) rfl (fun γ=>?_)
    refine TA_cut [(48,ptr (some (ba,oba+8)) 0),(45,vb r_1.2.2.2.2),(0,ptr (some (ba,oba)) 0)] [⟨some (ba,oba+8),[vb a_out_Psk]⟩] ⟨rfl,rfl,rfl,trivial⟩ rfl ?_
    refine TA_all (rs:=[21]) (by kernel_rfl) rfl ?_
    refine ⟨?_,trivial⟩
    refine TO_n (is:=[]) (done':=dn 22 4194303) rfl rfl rfl (by kernel_rfl) (E_store (j:=0) rfl rfl inf4 rfl rfl rfl (Nat.lt_succ_self 0) (cs':=[vb r_1.2.2.2.2]) rfl) (fun _ _=>rfl) (fun _=>?_)
    refine TA_done (by kernel_rfl) ?_ 0
    refine TX_next (TC_seq (TC_block (TC_seq (TC_region (TVm ?_)))))
    refine TLv (V_nilCheck rfl) ?_
    refine TLv (V_fieldE rfl underlying74 rfl rfl inf34 rfl (v:=ptr (some (ba,oba+4)) 0) rfl) ?_
    refine TLv (V_fieldE rfl underlying34 rfl rfl inf4 rfl (v:=ptr (some (ba,oba+8)) 0) rfl) ?_
    refine TLv (V_load rfl (.o 0) rfl isAgg4) ?_
    refine TVa ?_
    refine TL_nil (TX_next (TCb H (fun hc H=>?_) (fun hc H=>?_)))
    ·refine TC_seq (TC_region (TVa ?_))
     refine TL_nil (TX_next (TC_ret (TX_block_ret (TX_then_ret ?_))))
     obtain rfl:=sj H
     exact TX_ret (rs:=[.tmp 2]) (vs:=[vi (-1)]) rfl ⟨rfl,trivial⟩ (fun w' hs'=>⟨(),rfl,Step.left (Step.pulled (is:=[0]) (A:=[⟨some (ba,oba+8),[vb r_1.2.2.2.2]⟩]) hs' rfl)⟩)
    ·refine TC_seq (TC_region (TVm ?_))
     refine TLv (V_nilCheck rfl) ?_
     refine TLv (V_fieldE rfl underlying74 rfl rfl inf72 rfl (v:=ptr (some (ba,oba+1)) 0) rfl) ?_
     refine TLv (V_load rfl (.r 1) rfl isAgg72) ?_
     refine TLv (V_nilCheck rfl) ?_
     refine TLv (V_fieldE rfl underlying30 rfl rfl inf22 rfl (v:=ptr (some (ba_m,oba_m+7)) 0) rfl) ?_
     refine TLv (V_load rfl (.r 36) rfl isAgg22) ?_
     refine TLv (V_len_slice rfl underlying22) ?_
     refine TLv (V_bin rfl rfl (fun w=>eqlI w ((a_m_Schemes).length:Int) 0)) ?_
     refine TVa ?_
     obtain ⟨x1,hx1,H⟩:=ltt_elim H
     refine TLr 55 (congrArg vb hx1) ?_
     refine TL_nil (TX_next (TCb H (fun hc H=>?_) (fun hc H=>?_)))
     ·refine TC_seq (TC_region (TVa ?_))
      refine TL_nil (TX_next (TC_ret (TX_block_ret (TX_then_ret ?_))))
      obtain rfl:=sj H
      exact TX_ret (rs:=[.tmp 2]) (vs:=[vi 109]) rfl ⟨rfl,trivial⟩ (fun w' hs'=>⟨(),rfl,Step.left (Step.pulled (is:=[0]) (A:=[⟨some (ba,oba+8),[vb r_1.2.2.2.2]⟩]) hs' rfl)⟩)
     ·refine TC_seq (TC_region (TVm ?_))
      refine TLv (V_nilCheck rfl) ?_
      refine TLv (V_fieldE rfl underlying74 rfl rfl inf72 rfl (v:=ptr (some (ba,oba+1)) 0) rfl) ?_
      refine TLv (V_load rfl (.r 1) rfl isAgg72) ?_
      refine TLv (V_nilCheck rfl) ?_
      refine TLv (V_fieldE rfl underlying30 rfl rfl inf22 rfl (v:=ptr (some (ba_m,oba_m+7)) 0) rfl) ?_
      refine TLv (V_load rfl (.r 36) rfl isAgg22) ?_
      obtain ⟨r_2,hr_2,H⟩:=bind_elim H
      refine TLe (E_c0 (F62_calls Aa_m_Schemes ca_m_Schemes a_m_Schemes 1027 hca_m_Schemes r_2 hr_2) call62 ⟨.r 53,trivial⟩) (fun g_2=>?_)
      refine TLv (V_un rfl (fun w=>notB w r_2)) ?_
      refine TVa ?_
      refine TL_nil (TX_next (TCb H (fun hc H=>?_) (fun hc H=>?_)))
      ·refine TC_seq (TC_region (TVa ?_))
       refine TL_nil (TX_next (TC.sub (m':=[(2,_)]) ⟨rfl,trivial⟩ ?_))
       refine TC.pull (is:=[0]) (L':=[_]) rfl ?_
       refine TC_ret (TX_block_ret (TX_then_ret ?_))
       obtain rfl:=sj H
       exact TX_ret (rs:=[.tmp 2]) (vs:=[vi 40]) rfl ⟨rfl,trivial⟩ (fun w' hs'=>⟨(),rfl,Step.left (Step.pulled (is:=[0]) (A:=[⟨some (ba,oba+8),[vb r_1.2.2.2.2]⟩]) hs' rfl)⟩)
      ·refine TC_skip (TX_block_normal (TX_next (TC_seq (TC_region (TVa ?_)))))
       refine TL_nil (TX_next (TC.sub (m':=[(2,_)]) ⟨rfl,trivial⟩ ?_))
       refine TC.pull (is:=[0]) (L':=[_]) rfl ?_
       refine TC_ret ?_
       obtain rfl:=sj H
       exact TX_ret (rs:=[.tmp 2]) (vs:=[vi (-1)]) rfl ⟨rfl,trivial⟩ (fun w' hs'=>⟨(),rfl,Step.left (Step.pulled (is:=[0]) (A:=[⟨some (ba,oba+8),[vb r_1.2.2.2.2]⟩]) hs' rfl)⟩)
  ·intro hJ
   replace H:=Hj
   refine TFd (d:=17) H (fun hc H=>?_) (fun hc H=>?_)
   ·refine TLw (V_move rfl) ?_
    refine TLw (V_nilCheck rfl) ?_
    refine TLw (V_fieldE rfl underlying74 rfl rfl inf72 rfl (v:=ptr (some (ba,oba+1)) 0) rfl) ?_
    refine TLw (V_load rfl (.r 1) rfl isAgg72) ?_
    refine TLw (V_nilCheck rfl) ?_
    refine TLw (V_fieldE rfl underlying30 rfl rfl inf22 rfl (v:=ptr (some (ba_m,oba_m+8)) 0) rfl) ?_
    refine TLw (V_load rfl (.r 37) rfl isAgg22) ?_
    refine TLw (V_len_slice rfl underlying22) ?_
    refine TLw (V_bin rfl rfl (fun w=>eqlI w ((a_m_Modes).length:Int) 0)) ?_
    refine TVt ?_
    refine TL_nil ?_
    obtain rfl:=sj H
    exact TXj [0] (hJ ())
   ·refine TLs ?_
    refine TLs ?_
    refine TLs ?_
    refine TLs ?_
    refine TLs ?_
    refine TLs ?_
    refine TLs ?_
    refine TLs ?_
    refine TLs ?_
    refine TVf ?_
    refine TL_nil ?_
    obtain rfl:=sj H
    exact TXj [0] (hJ ())
end Go.Proofs
end

section
namespace Go.Proofs
open Go Go.Kx
open TryzI Tryz
def hello_Choose (c_Server:Bool) (c_Suites:List (Int)) (c_Groups:List (Int)) (c_Chain:List (Str)) (c_Key:Str) (c_Roots:List (Str)) (c_Name:Str) (c_Tickets:Int) (c_Seal:Str) (c_Psk:List (Str × Str × Int × Int × Int × Int)) (c_Tape:Str) (c_Clock:Int) (c_Pad:Int) (c_Limit:Int) (c_Ring:Int) (m_Kind:Int) (m_Random:Str) (m_Session:Str) (m_Suites:List (Int)) (m_Name:Str) (m_Versions:List (Int)) (m_Groups:List (Int)) (m_Schemes:List (Int)) (m_Modes:List (Int)) (m_Shares:List (Int × Str)) (m_Identities:List (Str × Int)) (m_Binders:List (Str)) (m_Psk:Int) (m_Others:List (Int)) (m_Certs:List (Str)) (m_Scheme:Int) (m_Data:Str) (m_Life:Int) (m_Add:Int) (m_Nonce:Str) (m_Update:Int) (again:Bool) (group:Int):Option (Int × Int × Str × Bool × Bool × Int) :=
 (hello_May c_Server c_Suites c_Groups c_Chain c_Key c_Roots c_Name c_Tickets c_Seal c_Psk c_Tape c_Clock c_Pad c_Limit c_Ring).bind fun (r_1:Bool)=>((if (!r_1)=true then (some true) else (if (!c_Server)=true then (some true) else (some (decide (m_Kind ≠ 1))))).bind fun (j1:Bool)=>(if j1=true then (some (0,0,([]:Str),false,false,40)) else ((hello_asking_offers c_Server c_Suites c_Groups c_Chain c_Key c_Roots c_Name c_Tickets c_Seal c_Psk c_Tape c_Clock c_Pad c_Limit c_Ring m_Kind m_Random m_Session m_Suites m_Name m_Versions m_Groups m_Schemes m_Modes m_Shares m_Identities m_Binders m_Psk m_Others m_Certs m_Scheme m_Data m_Life m_Add m_Nonce m_Update again group 0 0 ([]:Str) false false 0).bind fun (r_2:Int × Int)=>(if r_2.1 ≠ (-1) then (some (0,0,([]:Str),false,false,r_2.1)) else ((hello_asking_shares c_Server c_Suites c_Groups c_Chain c_Key c_Roots c_Name c_Tickets c_Seal c_Psk c_Tape c_Clock c_Pad c_Limit c_Ring m_Kind m_Random m_Session m_Suites m_Name m_Versions m_Groups m_Schemes m_Modes m_Shares m_Identities m_Binders m_Psk m_Others m_Certs m_Scheme m_Data m_Life m_Add m_Nonce m_Update again group r_2.2 0 ([]:Str) false false 0).bind fun (r_3:Int × Int × Str × Bool)=>(if r_3.1 ≠ (-1) then (some (0,0,([]:Str),false,false,r_3.1)) else ((hello_asking_proof c_Server c_Suites c_Groups c_Chain c_Key c_Roots c_Name c_Tickets c_Seal c_Psk c_Tape c_Clock c_Pad c_Limit c_Ring m_Kind m_Random m_Session m_Suites m_Name m_Versions m_Groups m_Schemes m_Modes m_Shares m_Identities m_Binders m_Psk m_Others m_Certs m_Scheme m_Data m_Life m_Add m_Nonce m_Update again group r_2.2 r_3.2.1 r_3.2.2.1 r_3.2.2.2 false 0).bind fun (r_4:Int × Bool)=>(if r_4.1 ≠ (-1) then (some (0,0,([]:Str),false,false,r_4.1)) else (some (r_2.2,r_3.2.1,r_3.2.2.1,r_3.2.2.2,r_4.2,(-1)))))))))))
set_option maxHeartbeats 4000000 in
set_option maxRecDepth 20000 in
theorem F12_calls (Ac_Suites:Adr) (cc_Suites:Nat) (Ac_Groups:Adr) (cc_Groups:Nat) (Ac_Chain:Adr) (cc_Chain:Nat) (Ac_Roots:Adr) (cc_Roots:Nat) (Ac_Psk:Adr) (cc_Psk:Nat) (Am_Suites:Adr) (cm_Suites:Nat) (Am_Versions:Adr) (cm_Versions:Nat) (Am_Groups:Adr) (cm_Groups:Nat) (Am_Schemes:Adr) (cm_Schemes:Nat) (Am_Modes:Adr) (cm_Modes:Nat) (Am_Shares:Adr) (cm_Shares:Nat) (Am_Identities:Adr) (cm_Identities:Nat) (Am_Binders:Adr) (cm_Binders:Nat) (Am_Others:Adr) (cm_Others:Nat) (Am_Certs:Adr) (cm_Certs:Nat) (c_Server:Bool) (c_Suites:List (Int)) (c_Groups:List (Int)) (c_Chain:List (Str)) (c_Key:Str) (c_Roots:List (Str)) (c_Name:Str) (c_Tickets:Int) (c_Seal:Str) (c_Psk:List (Str × Str × Int × Int × Int × Int)) (c_Tape:Str) (c_Clock:Int) (c_Pad:Int) (c_Limit:Int) (c_Ring:Int) (m_Kind:Int) (m_Random:Str) (m_Session:Str) (m_Suites:List (Int)) (m_Name:Str) (m_Versions:List (Int)) (m_Groups:List (Int)) (m_Schemes:List (Int)) (m_Modes:List (Int)) (m_Shares:List (Int × Str)) (m_Identities:List (Str × Int)) (m_Binders:List (Str)) (m_Psk:Int) (m_Others:List (Int)) (m_Certs:List (Str)) (m_Scheme:Int) (m_Data:Str) (m_Life:Int) (m_Add:Int) (m_Nonce:Str) (m_Update:Int) (again:Bool) (group:Int) (hcc_Suites:(c_Suites).length≤cc_Suites) (hcc_Groups:(c_Groups).length≤cc_Groups) (hcc_Chain:(c_Chain).length≤cc_Chain) (hcc_Roots:(c_Roots).length≤cc_Roots) (hcc_Psk:(c_Psk).length≤cc_Psk) (hcm_Suites:(m_Suites).length≤cm_Suites) (hcm_Versions:(m_Versions).length≤cm_Versions) (hcm_Groups:(m_Groups).length≤cm_Groups) (hcm_Schemes:(m_Schemes).length≤cm_Schemes) (hcm_Modes:(m_Modes).length≤cm_Modes) (hcm_Shares:(m_Shares).length≤cm_Shares) (hcm_Identities:(m_Identities).length≤cm_Identities) (hcm_Binders:(m_Binders).length≤cm_Binders) (hcm_Others:(m_Others).length≤cm_Others) (hcm_Certs:(m_Certs).length≤cm_Certs) (r:Int × Int × Str × Bool × Bool × Int) (H:hello_Choose c_Server c_Suites c_Groups c_Chain c_Key c_Roots c_Name c_Tickets c_Seal c_Psk c_Tape c_Clock c_Pad c_Limit c_Ring m_Kind m_Random m_Session m_Suites m_Name m_Versions m_Groups m_Schemes m_Modes m_Shares m_Identities m_Binders m_Psk m_Others m_Certs m_Scheme m_Data m_Life m_Add m_Nonce m_Update again group=some r) :
  Does Tryz.prog 12 [aG [(1,[vb c_Server]),(1,[sl Ac_Suites ((c_Suites).length) cc_Suites]),(1,[sl Ac_Groups ((c_Groups).length) cc_Groups]),(1,[sl Ac_Chain ((c_Chain).length) cc_Chain]),(1,[vs c_Key]),(1,[sl Ac_Roots ((c_Roots).length) cc_Roots]),(1,[vs c_Name]),(1,[vi c_Tickets]),(1,[vs c_Seal]),(1,[sl Ac_Psk ((c_Psk).length) cc_Psk]),(1,[vs c_Tape]),(1,[vi c_Clock]),(1,[vi c_Pad]),(1,[vi c_Limit]),(1,[vi c_Ring])],aG [(1,[vi m_Kind]),(1,[vs m_Random]),(1,[vs m_Session]),(1,[sl Am_Suites ((m_Suites).length) cm_Suites]),(1,[vs m_Name]),(1,[sl Am_Versions ((m_Versions).length) cm_Versions]),(1,[sl Am_Groups ((m_Groups).length) cm_Groups]),(1,[sl Am_Schemes ((m_Schemes).length) cm_Schemes]),(1,[sl Am_Modes ((m_Modes).length) cm_Modes]),(1,[sl Am_Shares ((m_Shares).length) cm_Shares]),(1,[sl Am_Identities ((m_Identities).length) cm_Identities]),(1,[sl Am_Binders ((m_Binders).length) cm_Binders]),(1,[vi m_Psk]),(1,[sl Am_Others ((m_Others).length) cm_Others]),(1,[sl Am_Certs ((m_Certs).length) cm_Certs]),(1,[vi m_Scheme]),(1,[vs m_Data]),(1,[vi m_Life]),(1,[vi m_Add]),(1,[vs m_Nonce]),(1,[vi m_Update])],vb again,vi group] [] [⟨Ac_Suites,eI c_Suites⟩,⟨Ac_Groups,eI c_Groups⟩,⟨Ac_Chain,eS c_Chain⟩,⟨Ac_Roots,eS c_Roots⟩,⟨Ac_Psk,eF (fun p:Str × Str × Int × Int × Int × Int=>[vs p.1,vs p.2.1,vi p.2.2.1,vi p.2.2.2.1,vi p.2.2.2.2.1,vi p.2.2.2.2.2]) c_Psk⟩,⟨Am_Suites,eI m_Suites⟩,⟨Am_Versions,eI m_Versions⟩,⟨Am_Groups,eI m_Groups⟩,⟨Am_Schemes,eI m_Schemes⟩,⟨Am_Modes,eI m_Modes⟩,⟨Am_Shares,eF (fun p:Int × Str=>[vi p.1,vs p.2]) m_Shares⟩,⟨Am_Identities,eF (fun p:Str × Int=>[vs p.1,vi p.2]) m_Identities⟩,⟨Am_Binders,eS m_Binders⟩,⟨Am_Others,eI m_Others⟩,⟨Am_Certs,eS m_Certs⟩,⟨some (0,0),[hdE]⟩] (Γ:=Unit) (fun g=>aG [(1,[vi r.1]),(1,[vi r.2.1]),(1,[vs r.2.2.1]),(1,[vb r.2.2.2.1]),(1,[vb r.2.2.2.2.1]),(1,[vi r.2.2.2.2.2])]) (fun g=>[]):=by
 intro w hmem hro hd
 refine calls_of (N:=53) (m0:=[(0,aG [(1,[vb c_Server]),(1,[sl Ac_Suites ((c_Suites).length) cc_Suites]),(1,[sl Ac_Groups ((c_Groups).length) cc_Groups]),(1,[sl Ac_Chain ((c_Chain).length) cc_Chain]),(1,[vs c_Key]),(1,[sl Ac_Roots ((c_Roots).length) cc_Roots]),(1,[vs c_Name]),(1,[vi c_Tickets]),(1,[vs c_Seal]),(1,[sl Ac_Psk ((c_Psk).length) cc_Psk]),(1,[vs c_Tape]),(1,[vi c_Clock]),(1,[vi c_Pad]),(1,[vi c_Limit]),(1,[vi c_Ring])]),(1,aG [(1,[vi m_Kind]),(1,[vs m_Random]),(1,[vs m_Session]),(1,[sl Am_Suites ((m_Suites).length) cm_Suites]),(1,[vs m_Name]),(1,[sl Am_Versions ((m_Versions).length) cm_Versions]),(1,[sl Am_Groups ((m_Groups).length) cm_Groups]),(1,[sl Am_Schemes ((m_Schemes).length) cm_Schemes]),(1,[sl Am_Modes ((m_Modes).length) cm_Modes]),(1,[sl Am_Shares ((m_Shares).length) cm_Shares]),(1,[sl Am_Identities ((m_Identities).length) cm_Identities]),(1,[sl Am_Binders ((m_Binders).length) cm_Binders]),(1,[vi m_Psk]),(1,[sl Am_Others ((m_Others).length) cm_Others]),(1,[sl Am_Certs ((m_Certs).length) cm_Certs]),(1,[vi m_Scheme]),(1,[vs m_Data]),(1,[vi m_Life]),(1,[vi m_Add]),(1,[vs m_Nonce]),(1,[vi m_Update])]),(2,vb again),(3,vi group)]) func12 rfl ntmps12 (argM_ok [aG [(1,[vb c_Server]),(1,[sl Ac_Suites ((c_Suites).length) cc_Suites]),(1,[sl Ac_Groups ((c_Groups).length) cc_Groups]),(1,[sl Ac_Chain ((c_Chain).length) cc_Chain]),(1,[vs c_Key]),(1,[sl Ac_Roots ((c_Roots).length) cc_Roots]),(1,[vs c_Name]),(1,[vi c_Tickets]),(1,[vs c_Seal]),(1,[sl Ac_Psk ((c_Psk).length) cc_Psk]),(1,[vs c_Tape]),(1,[vi c_Clock]),(1,[vi c_Pad]),(1,[vi c_Limit]),(1,[vi c_Ring])],aG [(1,[vi m_Kind]),(1,[vs m_Random]),(1,[vs m_Session]),(1,[sl Am_Suites ((m_Suites).length) cm_Suites]),(1,[vs m_Name]),(1,[sl Am_Versions ((m_Versions).length) cm_Versions]),(1,[sl Am_Groups ((m_Groups).length) cm_Groups]),(1,[sl Am_Schemes ((m_Schemes).length) cm_Schemes]),(1,[sl Am_Modes ((m_Modes).length) cm_Modes]),(1,[sl Am_Shares ((m_Shares).length) cm_Shares]),(1,[sl Am_Identities ((m_Identities).length) cm_Identities]),(1,[sl Am_Binders ((m_Binders).length) cm_Binders]),(1,[vi m_Psk]),(1,[sl Am_Others ((m_Others).length) cm_Others]),(1,[sl Am_Certs ((m_Certs).length) cm_Certs]),(1,[vi m_Scheme]),(1,[vs m_Data]),(1,[vi m_Life]),(1,[vi m_Add]),(1,[vs m_Nonce]),(1,[vi m_Update])],vb again,vi group]) rfl hmem hro hd ?_
 unfold hello_Choose at H
 refine TC_seq (TC_region (TLe (E_boxP [(1,[vb c_Server]),(1,[sl Ac_Suites ((c_Suites).length) cc_Suites]),(1,[sl Ac_Groups ((c_Groups).length) cc_Groups]),(1,[sl Ac_Chain ((c_Chain).length) cc_Chain]),(1,[vs c_Key]),(1,[sl Ac_Roots ((c_Roots).length) cc_Roots]),(1,[vs c_Name]),(1,[vi c_Tickets]),(1,[vs c_Seal]),(1,[sl Ac_Psk ((c_Psk).length) cc_Psk]),(1,[vs c_Tape]),(1,[vi c_Clock]),(1,[vi c_Pad]),(1,[vi c_Limit]),(1,[vi c_Ring])] rfl rfl ⟨rfl,rfl,rfl,rfl,rfl,rfl,rfl,rfl,rfl,rfl,rfl,rfl,rfl,rfl,rfl,trivial⟩) (fun b1=>?_)))
 refine TLe (E_boxP [(1,[vi m_Kind]),(1,[vs m_Random]),(1,[vs m_Session]),(1,[sl Am_Suites ((m_Suites).length) cm_Suites]),(1,[vs m_Name]),(1,[sl Am_Versions ((m_Versions).length) cm_Versions]),(1,[sl Am_Groups ((m_Groups).length) cm_Groups]),(1,[sl Am_Schemes ((m_Schemes).length) cm_Schemes]),(1,[sl Am_Modes ((m_Modes).length) cm_Modes]),(1,[sl Am_Shares ((m_Shares).length) cm_Shares]),(1,[sl Am_Identities ((m_Identities).length) cm_Identities]),(1,[sl Am_Binders ((m_Binders).length) cm_Binders]),(1,[vi m_Psk]),(1,[sl Am_Others ((m_Others).length) cm_Others]),(1,[sl Am_Certs ((m_Certs).length) cm_Certs]),(1,[vi m_Scheme]),(1,[vs m_Data]),(1,[vi m_Life]),(1,[vi m_Add]),(1,[vs m_Nonce]),(1,[vi m_Update])] rfl rfl ⟨rfl,rfl,rfl,rfl,rfl,rfl,rfl,rfl,rfl,rfl,rfl,rfl,rfl,rfl,rfl,rfl,rfl,rfl,rfl,rfl,rfl,trivial⟩) (fun b2=>?_)
 refine TLe (E_ap inf34 zer34) (fun b3=>?_)
 refine TL_nil (TX_next (TC.sub (m':=[(2,_),(3,_),(4,_),(5,_),(8,_)]) ⟨rfl,rfl,rfl,rfl,rfl,trivial⟩ ?_))
 refine TC.pull (is:=(rp 15 27++rp 21 6++rp 6 0)) (L':=[_,_,_,_,_,_,_,_,_,_,_,_,_,_,_,_,_,_,_,_,_,_,_,_,_,_,_,_,_,_,_,_,_,_,_,_,_,_,_,_,_,_]) rfl ?_
 refine TC_seq (TC_seq (TC_region (TLv (V_lp (b:=b1) (o:=0) (n:=15) (ps:=[(1,_),(1,_),(1,_),(1,_),(1,_),(1,_),(1,_),(1,_),(1,_),(1,_),(1,_),(1,_),(1,_),(1,_),(1,_)]) ⟨.o 0, .o 1, .o 2, .o 3, .o 4, .o 5, .o 6, .o 7, .o 8, .o 9, .o 10, .o 11, .o 12, .o 13, .o 14,trivial⟩ isAgg26 inf26) ?_)))
 obtain ⟨r_1,hr_1,H⟩:=bind_elim H
 refine TLe (E_c0 (F16_calls Ac_Suites cc_Suites Ac_Groups cc_Groups Ac_Chain cc_Chain Ac_Roots cc_Roots Ac_Psk cc_Psk c_Server c_Suites c_Groups c_Chain c_Key c_Roots c_Name c_Tickets c_Seal c_Psk c_Tape c_Clock c_Pad c_Limit c_Ring hcc_Suites hcc_Groups hcc_Chain hcc_Roots hcc_Psk r_1 hr_1) call16 ⟨.r 0, .r 1, .r 2, .r 3, .r 4,trivial⟩) (fun g_1=>?_)
 refine TLv (V_un rfl (fun w=>notB w r_1)) ?_
 refine TVm ?_
 obtain ⟨j1,Hj,H⟩:=bind_elim H
 refine TL_join (Γ:=Unit) (fun gj1=>[(2,vb again),(3,vi group),(4,ptr (some (b1,0)) 0),(5,ptr (some (b2,0)) 0),(8,ptr (some (b3,0)) 0),(25,vb j1)]) (fun gj1=>[⟨some (b1,0),[vb c_Server]⟩,⟨some (b1,1),[sl Ac_Suites ((c_Suites).length) cc_Suites]⟩,⟨some (b1,2),[sl Ac_Groups ((c_Groups).length) cc_Groups]⟩,⟨some (b1,3),[sl Ac_Chain ((c_Chain).length) cc_Chain]⟩,⟨some (b1,4),[vs c_Key]⟩,⟨some (b1,5),[sl Ac_Roots ((c_Roots).length) cc_Roots]⟩,⟨some (b1,6),[vs c_Name]⟩,⟨some (b1,7),[vi c_Tickets]⟩,⟨some (b1,8),[vs c_Seal]⟩,⟨some (b1,9),[sl Ac_Psk ((c_Psk).length) cc_Psk]⟩,⟨some (b1,10),[vs c_Tape]⟩,⟨some (b1,11),[vi c_Clock]⟩,⟨some (b1,12),[vi c_Pad]⟩,⟨some (b1,13),[vi c_Limit]⟩,⟨some (b1,14),[vi c_Ring]⟩,⟨some (b2,0),[vi m_Kind]⟩,⟨some (b2,1),[vs m_Random]⟩,⟨some (b2,2),[vs m_Session]⟩,⟨some (b2,3),[sl Am_Suites ((m_Suites).length) cm_Suites]⟩,⟨some (b2,4),[vs m_Name]⟩,⟨some (b2,5),[sl Am_Versions ((m_Versions).length) cm_Versions]⟩,⟨some (b2,6),[sl Am_Groups ((m_Groups).length) cm_Groups]⟩,⟨some (b2,7),[sl Am_Schemes ((m_Schemes).length) cm_Schemes]⟩,⟨some (b2,8),[sl Am_Modes ((m_Modes).length) cm_Modes]⟩,⟨some (b2,9),[sl Am_Shares ((m_Shares).length) cm_Shares]⟩,⟨some (b2,10),[sl Am_Identities ((m_Identities).length) cm_Identities]⟩,⟨some (b2,11),[sl Am_Binders ((m_Binders).length) cm_Binders]⟩,⟨some (b2,12),[vi m_Psk]⟩,⟨some (b2,13),[sl Am_Others ((m_Others).length) cm_Others]⟩,⟨some (b2,14),[sl Am_Certs ((m_Certs).length) cm_Certs]⟩,⟨some (b2,15),[vi m_Scheme]⟩,⟨some (b2,16),[vs m_Data]⟩,⟨some (b2,17),[vi m_Life]⟩,⟨some (b2,18),[vi m_Add]⟩,⟨some (b2,19),[vs m_Nonce]⟩,⟨some (b2,20),[vi m_Update]⟩,⟨some (b3,0),[vi 0]⟩,⟨some (b3,1),[vi 0]⟩,⟨some (b3,2),[vs ([]:Str)]⟩,⟨some (b3,3),[vb false]⟩,⟨some (b3,4),[vb false]⟩,⟨some (b3,5),[vi 0]⟩]) ?_ ?_
 ·intro gj1
  refine TX_next (TCb H (fun hc H=>?_) (fun hc H=>?_))
  ·refine TC_seq (TC_region (TLv (V_buildStruct (pv:=[(5,vi 40)]) (pl:=[(0,1),(1,1),(2,1),(3,1),(4,1),(5,1)]) rfl rfl underlying34 inf34 places34 zer34 (cs:=flat [(1,[vi 0]),(1,[vi 0]),(1,[vs ([]:Str)]),(1,[vb false]),(1,[vb false]),(1,[vi 40])]) (by kernel_rfl)) ?_))
   refine TLn (E_sq (b:=b3) (o:=0) [36,36,36,36,36,36] [(1,_),(1,_),(1,_),(1,_),(1,_),(1,_)] rfl inf34) (fun _=>?_)
   refine TL_nil (TX_next (TC_ret (TX_then_ret ?_)))
   obtain rfl:=sj H
   exact TXr (vs:=[_]) rfl ⟨(Res_lp (b:=b3) (o:=0) (n:=6) (ps:=[(1,_),(1,_),(1,_),(1,_),(1,_),(1,_)]) ⟨.o 0, .o 1, .o 2, .o 3, .o 4, .o 5,trivial⟩ isAgg34 inf34),trivial⟩
  ·refine TC_skip (TX_next (TC_seq (TC_region (TVm ?_))))
   refine TVm ?_
   refine TLv (V_buildStruct (pv:=[(0,ptr (some (b1,0)) 0),(1,ptr (some (b2,0)) 0),(2,vb again),(3,vi group)]) (pl:=[(0,1),(1,1),(2,1),(3,1),(4,6)]) rfl rfl underlying74 inf74 places74 zer74 (cs:=flat [(1,[ptr (some (b1,0)) 0]),(1,[ptr (some (b2,0)) 0]),(1,[vb again]),(1,[vi group]),(1,[vi 0]),(1,[vi 0]),(1,[vs ([]:Str)]),(1,[vb false]),(1,[vb false]),(1,[vi 0])]) (by kernel_rfl)) ?_
   refine TLe (E_boxP [(1,[ptr (some (b1,0)) 0]),(1,[ptr (some (b2,0)) 0]),(1,[vb again]),(1,[vi group]),(1,[vi 0]),(1,[vi 0]),(1,[vs ([]:Str)]),(1,[vb false]),(1,[vb false]),(1,[vi 0])] rfl rfl ⟨rfl,rfl,rfl,rfl,rfl,rfl,rfl,rfl,rfl,rfl,trivial⟩) (fun b4=>?_)
   refine TVa ?_
   refine TL_nil (TX_next (TC_seq (TC_seq (TC_region (TLe (E_buildSlice (pv:=[(0,Value.func (.func 30) #[] #[]),(1,Value.func (.func 31) #[] #[]),(2,Value.func (.func 32) #[] #[])]) rfl rfl underlying77 inf75 (s:=1) rfl zer75 rfl rfl rfl (cs:=[Value.func (.func 30) #[] #[],Value.func (.func 31) #[] #[],Value.func (.func 32) #[] #[]]) (by kernel_rfl)) (fun b5=>?_))))))
   refine TLv (V_len_slice rfl underlying77) ?_
   refine TVm ?_
   refine TL_nil (TX_next (TC.sub (m':=[(8,_),(9,_),(31,_),(32,_),(33,_)]) ⟨rfl,rfl,rfl,rfl,rfl,trivial⟩ ?_))
   refine TC.pull (is:=(rp 6 47++1 :: rp 15 10++1 :: rp 21 9++rp 8 1++0 :: [])) (L':=[_,_,_,_,_,_,_,_,_,_,_,_,_,_,_,_,_,_,_,_,_,_,_,_,_,_,_,_,_,_,_,_,_,_,_,_,_,_,_,_,_,_,_,_,_,_,_,_,_,_,_,_,_]) rfl ?_
   refine TC_block (TC_rounds 4 ?_)
   refine TR_step (TC_seq (TC_region (TLv (V_bin rfl rfl (fun w=>lssI w 0 3)) ?_)))
   refine TL_nil (TX_next (TC_seq (TC_cond_t rfl ?_)))
   refine TC_skip (TX_next (TC_seq (TC_block (TC_seq (TC_region (TLv (V_idxSl (i:=0) rfl rfl underlying77 inf75 rfl (fun _ h=>by cases h) (by decide) (by decide) (k:=0) (km1 _)) ?_))))))
   refine TLv (V_load rfl (.o 52) rfl isAgg75) ?_
   refine TVa ?_
   refine TL_nil (TX_next (TC_seq (TC_region (TVm ?_))))
   refine TVm ?_
   obtain ⟨r_2,hr_2,H⟩:=bind_elim H
   refine TLe (E_callV (Γ:=Unit) (val:=fun g=>vi r_2.1) (mem:=fun g=>[⟨some (b4,4),[vi r_2.2]⟩]) (vs:=[ptr (some (b4,0)) 0]) (cap:=[]) (Lin:=[⟨some (b4,4),[vi 0]⟩]) (is:=[46]) rfl rfl call30 (F30_calls b4 0 b1 0 Ac_Suites cc_Suites Ac_Groups cc_Groups Ac_Chain cc_Chain Ac_Roots cc_Roots Ac_Psk cc_Psk b2 0 Am_Suites cm_Suites Am_Versions cm_Versions Am_Groups cm_Groups Am_Schemes cm_Schemes Am_Modes cm_Modes Am_Shares cm_Shares Am_Identities cm_Identities Am_Binders cm_Binders Am_Others cm_Others Am_Certs cm_Certs c_Server c_Suites c_Groups c_Chain c_Key c_Roots c_Name c_Tickets c_Seal c_Psk c_Tape c_Clock c_Pad c_Limit c_Ring m_Kind m_Random m_Session m_Suites m_Name m_Versions m_Groups m_Schemes m_Modes m_Shares m_Identities m_Binders m_Psk m_Others m_Certs m_Scheme m_Data m_Life m_Add m_Nonce m_Update again group 0 0 ([]:Str) false false 0 hcc_Suites hcc_Groups hcc_Chain hcc_Roots hcc_Psk hcm_Suites hcm_Versions hcm_Groups hcm_Schemes hcm_Modes hcm_Shares hcm_Identities hcm_Binders hcm_Others hcm_Certs r_2 hr_2) rfl ⟨.o 6, .o 22, .o 44, .o 45, .o 46, .o 47, .o 48, .o 49, .o 50, .o 7, .o 8, .o 9, .o 10, .o 11, .o 12, .o 13, .o 14, .o 15, .o 16, .o 17, .o 18, .o 19, .o 20, .o 21, .r 0, .r 1, .r 2, .r 3, .r 4, .o 23, .o 24, .o 25, .o 26, .o 27, .o 28, .o 29, .o 30, .o 31, .o 32, .o 33, .o 34, .o 35, .o 36, .o 37, .o 38, .o 39, .o 40, .o 41, .o 42, .o 43, .r 5, .r 6, .r 7, .r 8, .r 9, .r 10, .r 11, .r 12, .r 13, .r 14,trivial⟩) (fun g_2=>?_)
   refine TVa ?_
   refine TL_nil (TX_next (TC_seq (TC_region (TVm ?_))))
   refine TLv (V_bin rfl rfl (fun w=>neqI w r_2.1 (-1))) ?_
   refine TL_nil (TX_next (TCd H (fun hc H=>?_) (fun hc H=>?_)))
   ·refine TC_seq (TC_region (TVm ?_))
    refine TLv (V_buildStruct (pv:=[(5,vi r_2.1)]) (pl:=[(0,1),(1,1),(2,1),(3,1),(4,1),(5,1)]) rfl rfl underlying34 inf34 places34 zer34 (cs:=flat [(1,[vi 0]),(1,[vi 0]),(1,[vs ([]:Str)]),(1,[vb false]),(1,[vb false]),(1,[vi r_2.1])]) (by kernel_rfl)) ?_
    refine TLn (E_sq (b:=b3) (o:=0) [1,1,1,1,1,1] [(1,_),(1,_),(1,_),(1,_),(1,_),(1,_)] rfl inf34) (fun _=>?_)
    refine TL_nil (TX_next (TC.sub (m':=[(8,_)]) ⟨rfl,trivial⟩ ?_))
    refine TC.pull (is:=[0,0,0,0,0,0]) (L':=[_,_,_,_,_,_]) rfl ?_
    refine TC_ret (TX_block_ret (TX_then_ret (TX_then_ret (TX_block_ret (TX_then_ret ?_)))))
    obtain rfl:=sj H
    exact TXr (vs:=[_]) rfl ⟨(Res_lp (b:=b3) (o:=0) (n:=6) (ps:=[(1,_),(1,_),(1,_),(1,_),(1,_),(1,_)]) ⟨.o 0, .o 1, .o 2, .o 3, .o 4, .o 5,trivial⟩ isAgg34 inf34),trivial⟩
   ·refine TC_skip (TX_block_normal (TX_next (TC_region (TLv (V_bin rfl rfl (fun w=>addI_lit w (a:=0) (b:=1) (c:=1) (by decide))) ?_))))
    refine TVm ?_
    refine TL_nil (TX_again (TR_step (TC.sub (m':=[(8,_),(9,_),(31,_),(32,_),(33,_)]) ⟨rfl,rfl,rfl,rfl,rfl,trivial⟩ ?_)))
    refine TC.pull (is:=(rp 46 1++rp 7 0)) (L':=[_,_,_,_,_,_,_,_,_,_,_,_,_,_,_,_,_,_,_,_,_,_,_,_,_,_,_,_,_,_,_,_,_,_,_,_,_,_,_,_,_,_,_,_,_,_,_,_,_,_,_,_,_]) rfl ?_
    refine TC_seq (TC_region (TLv (V_bin rfl rfl (fun w=>lssI w 1 3)) ?_))
    refine TL_nil (TX_next (TC_seq (TC_cond_t rfl ?_)))
    refine TC_skip (TX_next (TC_seq (TC_block (TC_seq (TC_region (TLv (V_idxSl (i:=1) rfl rfl underlying77 inf75 rfl (fun _ h=>by cases h) (by decide) (by decide) (k:=1) (km1 _)) ?_))))))
    refine TLv (V_load rfl (.o 52) rfl isAgg75) ?_
    refine TVa ?_
    refine TL_nil (TX_next (TC_seq (TC_region (TVm ?_))))
    refine TVm ?_
    obtain ⟨r_3,hr_3,H⟩:=bind_elim H
    refine TLe (E_callV (Γ:=Unit) (val:=fun g=>vi r_3.1) (mem:=fun g=>[⟨some (b4,5),[vi r_3.2.1]⟩,⟨some (b4,6),[vs r_3.2.2.1]⟩,⟨some (b4,7),[vb r_3.2.2.2]⟩]) (vs:=[ptr (some (b4,0)) 0]) (cap:=[]) (Lin:=[⟨some (b4,5),[vi 0]⟩,⟨some (b4,6),[vs ([]:Str)]⟩,⟨some (b4,7),[vb false]⟩]) (is:=[47,47,47]) rfl rfl call31 (F31_calls b4 0 b1 0 Ac_Suites cc_Suites Ac_Groups cc_Groups Ac_Chain cc_Chain Ac_Roots cc_Roots Ac_Psk cc_Psk b2 0 Am_Suites cm_Suites Am_Versions cm_Versions Am_Groups cm_Groups Am_Schemes cm_Schemes Am_Modes cm_Modes Am_Shares cm_Shares Am_Identities cm_Identities Am_Binders cm_Binders Am_Others cm_Others Am_Certs cm_Certs c_Server c_Suites c_Groups c_Chain c_Key c_Roots c_Name c_Tickets c_Seal c_Psk c_Tape c_Clock c_Pad c_Limit c_Ring m_Kind m_Random m_Session m_Suites m_Name m_Versions m_Groups m_Schemes m_Modes m_Shares m_Identities m_Binders m_Psk m_Others m_Certs m_Scheme m_Data m_Life m_Add m_Nonce m_Update again group r_2.2 0 ([]:Str) false false 0 hcc_Suites hcc_Groups hcc_Chain hcc_Roots hcc_Psk hcm_Suites hcm_Versions hcm_Groups hcm_Schemes hcm_Modes hcm_Shares hcm_Identities hcm_Binders hcm_Others hcm_Certs r_3 hr_3) rfl ⟨.o 6, .o 22, .o 44, .o 45, .o 46, .o 47, .o 48, .o 7, .o 8, .o 9, .o 10, .o 11, .o 12, .o 13, .o 14, .o 15, .o 16, .o 17, .o 18, .o 19, .o 20, .o 21, .r 0, .r 1, .r 2, .r 3, .r 4, .o 23, .o 24, .o 25, .o 26, .o 27, .o 28, .o 29, .o 30, .o 31, .o 32, .o 33, .o 34, .o 35, .o 36, .o 37, .o 38, .o 39, .o 40, .o 41, .o 42, .o 43, .r 5, .r 6, .r 7, .r 8, .r 9, .r 10, .r 11, .r 12, .r 13, .r 14,trivial⟩) (fun g_3=>?_)
    refine TVa ?_
    refine TL_nil (TX_next (TC_seq (TC_region (TVm ?_))))
    refine TLv (V_bin rfl rfl (fun w=>neqI w r_3.1 (-1))) ?_
    refine TL_nil (TX_next (TCd H (fun hc H=>?_) (fun hc H=>?_)))
    ·refine TC_seq (TC_region (TVm ?_))
     refine TLv (V_buildStruct (pv:=[(5,vi r_3.1)]) (pl:=[(0,1),(1,1),(2,1),(3,1),(4,1),(5,1)]) rfl rfl underlying34 inf34 places34 zer34 (cs:=flat [(1,[vi 0]),(1,[vi 0]),(1,[vs ([]:Str)]),(1,[vb false]),(1,[vb false]),(1,[vi r_3.1])]) (by kernel_rfl)) ?_
     refine TLn (E_sq (b:=b3) (o:=0) [3,3,3,3,3,3] [(1,_),(1,_),(1,_),(1,_),(1,_),(1,_)] rfl inf34) (fun _=>?_)
     refine TL_nil (TX_next (TC.sub (m':=[(8,_)]) ⟨rfl,trivial⟩ ?_))
     refine TC.pull (is:=[0,0,0,0,0,0]) (L':=[_,_,_,_,_,_]) rfl ?_
     refine TC_ret (TX_block_ret (TX_then_ret (TX_then_ret (TX_block_ret (TX_then_ret ?_)))))
     obtain rfl:=sj H
     exact TXr (vs:=[_]) rfl ⟨(Res_lp (b:=b3) (o:=0) (n:=6) (ps:=[(1,_),(1,_),(1,_),(1,_),(1,_),(1,_)]) ⟨.o 0, .o 1, .o 2, .o 3, .o 4, .o 5,trivial⟩ isAgg34 inf34),trivial⟩
    ·refine TC_skip (TX_block_normal (TX_next (TC_region (TLv (V_bin rfl rfl (fun w=>addI_lit w (a:=1) (b:=1) (c:=2) (by decide))) ?_))))
     refine TVm ?_
     refine TL_nil (TX_again (TR_step (TC.sub (m':=[(8,_),(9,_),(31,_),(32,_),(33,_)]) ⟨rfl,rfl,rfl,rfl,rfl,trivial⟩ ?_)))
     refine TC.pull (is:=(rp 47 3++rp 6 0)) (L':=[_,_,_,_,_,_,_,_,_,_,_,_,_,_,_,_,_,_,_,_,_,_,_,_,_,_,_,_,_,_,_,_,_,_,_,_,_,_,_,_,_,_,_,_,_,_,_,_,_,_,_,_,_]) rfl ?_
     refine TC_seq (TC_region (TLv (V_bin rfl rfl (fun w=>lssI w 2 3)) ?_))
     refine TL_nil (TX_next (TC_seq (TC_cond_t rfl ?_)))
     refine TC_skip (TX_next (TC_seq (TC_block (TC_seq (TC_region (TLv (V_idxSl (i:=2) rfl rfl underlying77 inf75 rfl (fun _ h=>by cases h) (by decide) (by decide) (k:=2) (km1 _)) ?_))))))
     refine TLv (V_load rfl (.o 52) rfl isAgg75) ?_
     refine TVa ?_
     refine TL_nil (TX_next (TC_seq (TC_region (TVm ?_))))
     refine TVm ?_
     obtain ⟨r_4,hr_4,H⟩:=bind_elim H
     refine TLe (E_callV (Γ:=Unit) (val:=fun g=>vi r_4.1) (mem:=fun g=>[⟨some (b4,8),[vb r_4.2]⟩]) (vs:=[ptr (some (b4,0)) 0]) (cap:=[]) (Lin:=[⟨some (b4,8),[vb false]⟩]) (is:=[50]) rfl rfl call32 (F32_calls b4 0 b1 0 Ac_Suites cc_Suites Ac_Groups cc_Groups Ac_Chain cc_Chain Ac_Roots cc_Roots Ac_Psk cc_Psk b2 0 Am_Suites cm_Suites Am_Versions cm_Versions Am_Groups cm_Groups Am_Schemes cm_Schemes Am_Modes cm_Modes Am_Shares cm_Shares Am_Identities cm_Identities Am_Binders cm_Binders Am_Others cm_Others Am_Certs cm_Certs c_Server c_Suites c_Groups c_Chain c_Key c_Roots c_Name c_Tickets c_Seal c_Psk c_Tape c_Clock c_Pad c_Limit c_Ring m_Kind m_Random m_Session m_Suites m_Name m_Versions m_Groups m_Schemes m_Modes m_Shares m_Identities m_Binders m_Psk m_Others m_Certs m_Scheme m_Data m_Life m_Add m_Nonce m_Update again group r_2.2 r_3.2.1 r_3.2.2.1 r_3.2.2.2 false 0 hcc_Suites hcc_Groups hcc_Chain hcc_Roots hcc_Psk hcm_Suites hcm_Versions hcm_Groups hcm_Schemes hcm_Modes hcm_Shares hcm_Identities hcm_Binders hcm_Others hcm_Certs r_4 hr_4) rfl ⟨.o 6, .o 22, .o 44, .o 45, .o 46, .o 47, .o 48, .o 49, .o 50, .o 7, .o 8, .o 9, .o 10, .o 11, .o 12, .o 13, .o 14, .o 15, .o 16, .o 17, .o 18, .o 19, .o 20, .o 21, .r 0, .r 1, .r 2, .r 3, .r 4, .o 23, .o 24, .o 25, .o 26, .o 27, .o 28, .o 29, .o 30, .o 31, .o 32, .o 33, .o 34, .o 35, .o 36, .o 37, .o 38, .o 39, .o 40, .o 41, .o 42, .o 43, .r 5, .r 6, .r 7, .r 8, .r 9, .r 10, .r 11, .r 12, .r 13, .r 14, .r 15,trivial⟩) (fun g_4=>?_)
     refine TVa ?_
     refine TL_nil (TX_next (TC_seq (TC_region (TVm ?_))))
     refine TLv (V_bin rfl rfl (fun w=>neqI w r_4.1 (-1))) ?_
     refine TL_nil (TX_next (TCd H (fun hc H=>?_) (fun hc H=>?_)))
     ·refine TC_seq (TC_region (TVm ?_))
      refine TLv (V_buildStruct (pv:=[(5,vi r_4.1)]) (pl:=[(0,1),(1,1),(2,1),(3,1),(4,1),(5,1)]) rfl rfl underlying34 inf34 places34 zer34 (cs:=flat [(1,[vi 0]),(1,[vi 0]),(1,[vs ([]:Str)]),(1,[vb false]),(1,[vb false]),(1,[vi r_4.1])]) (by kernel_rfl)) ?_
      refine TLn (E_sq (b:=b3) (o:=0) [1,1,1,1,1,1] [(1,_),(1,_),(1,_),(1,_),(1,_),(1,_)] rfl inf34) (fun _=>?_)
      refine TL_nil (TX_next (TC.sub (m':=[(8,_)]) ⟨rfl,trivial⟩ ?_))
      refine TC.pull (is:=[0,0,0,0,0,0]) (L':=[_,_,_,_,_,_]) rfl ?_
      refine TC_ret (TX_block_ret (TX_then_ret (TX_then_ret (TX_block_ret (TX_then_ret ?_)))))
      obtain rfl:=sj H
      exact TXr (vs:=[_]) rfl ⟨(Res_lp (b:=b3) (o:=0) (n:=6) (ps:=[(1,_),(1,_),(1,_),(1,_),(1,_),(1,_)]) ⟨.o 0, .o 1, .o 2, .o 3, .o 4, .o 5,trivial⟩ isAgg34 inf34),trivial⟩
     ·refine TC_skip (TX_block_normal (TX_next (TC_region (TLv (V_bin rfl rfl (fun w=>addI_lit w (a:=2) (b:=1) (c:=3) (by decide))) ?_))))
      refine TVm ?_
      refine TL_nil (TX_again (TR_step (TC.sub (m':=[(8,_),(9,_),(31,_),(32,_),(33,_)]) ⟨rfl,rfl,rfl,rfl,rfl,trivial⟩ ?_)))
      refine TC.pull (is:=(rp 50 1++0 :: 0 :: 0 :: [])) (L':=[_,_,_,_,_,_,_,_,_,_,_,_,_,_,_,_,_,_,_,_,_,_,_,_,_,_,_,_,_,_,_,_,_,_,_,_,_,_,_,_,_,_,_,_,_,_,_,_,_,_,_,_,_]) rfl ?_
      refine TC_seq (TC_region (TLv (V_bin rfl rfl (fun w=>lssI w 3 3)) ?_))
      refine TL_nil (TX_next (TC_seq (TC_cond_f rfl ?_)))
      refine TC_exit (TX_then_exit (TX_then_exit (TX_block_exit (TX_next (TC_seq (TC_region (TVm ?_)))))))
      refine TLv (V_nilCheck rfl) ?_
      refine TLv (V_fieldE rfl underlying74 rfl rfl inf34 rfl (v:=ptr (some (b4,4)) 0) rfl) ?_
      refine TLv (V_fieldE rfl underlying34 rfl rfl inf3 rfl (v:=ptr (some (b4,9)) 0) rfl) ?_
      refine TLn (E_store (j:=51) rfl rfl inf3 rfl rfl rfl (Nat.lt_succ_self 0) (cs':=[vi (-1)]) rfl) (fun _=>?_)
      refine TL_nil (TX_next (TC_seq (TC_region (TVm ?_))))
      refine TLv (V_nilCheck rfl) ?_
      refine TLv (V_fieldE rfl underlying74 rfl rfl inf34 rfl (v:=ptr (some (b4,4)) 0) rfl) ?_
      refine TLv (V_lp (b:=b4) (o:=4) (n:=6) (ps:=[(1,_),(1,_),(1,_),(1,_),(1,_),(1,_)]) ⟨.o 46, .o 47, .o 48, .o 49, .o 50, .o 51,trivial⟩ isAgg34 inf34) ?_
      refine TLn (E_sq (b:=b3) (o:=0) [0,0,0,0,0,0] [(1,_),(1,_),(1,_),(1,_),(1,_),(1,_)] rfl inf34) (fun _=>?_)
      refine TL_nil (TX_next (TC.sub (m':=[(8,_)]) ⟨rfl,trivial⟩ ?_))
      refine TC.pull (is:=[0,0,0,0,0,0]) (L':=[_,_,_,_,_,_]) rfl ?_
      refine TC_ret ?_
      obtain rfl:=sj H
      exact TXr (vs:=[_]) rfl ⟨(Res_lp (b:=b3) (o:=0) (n:=6) (ps:=[(1,_),(1,_),(1,_),(1,_),(1,_),(1,_)]) ⟨.o 0, .o 1, .o 2, .o 3, .o 4, .o 5,trivial⟩ isAgg34 inf34),trivial⟩
 ·intro hJ
  replace H:=Hj
  refine TFb (d:=16) H (fun hc H=>?_) (fun hc H=>?_)
  ·refine TLs ?_
   refine TLs ?_
   refine TLs ?_
   refine TVt ?_
   refine TVm ?_
   refine TLs ?_
   refine TLs ?_
   refine TLs ?_
   refine TVt ?_
   refine TL_nil ?_
   obtain rfl:=sj H
   exact TXj (rp 42 0) (hJ ())
  ·refine TLw (V_fieldE rfl underlying26 rfl rfl inf4 rfl (v:=ptr (some (b1,0)) 0) rfl) ?_
   refine TLw (V_load rfl (.o 0) rfl isAgg4) ?_
   refine TLw (V_un rfl (fun w=>notB w c_Server)) ?_
   refine TVf ?_
   refine TVm ?_
   refine TFb (d:=21) H (fun hc H=>?_) (fun hc H=>?_)
   ·refine TLs ?_
    refine TLs ?_
    refine TLs ?_
    refine TVt ?_
    refine TL_nil ?_
    obtain rfl:=sj H
    exact TXj (rp 42 0) (hJ ())
   ·refine TLw (V_fieldE rfl underlying30 rfl rfl inf3 rfl (v:=ptr (some (b2,0)) 0) rfl) ?_
    refine TLw (V_load rfl (.o 15) rfl isAgg3) ?_
    refine TLw (V_bin rfl rfl (fun w=>neqI w m_Kind 1)) ?_
    refine TVf ?_
    refine TL_nil ?_
    obtain rfl:=sj H
    exact TXj (rp 42 0) (hJ ())
end Go.Proofs
end

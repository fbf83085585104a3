/-
  Part 24 of the proof of what several laws share.
-/
import Derived.Test.YtkgeoekcnlgfnaaGreatDoorKf1
import Derived.Test.YtkgeoekcnlgfnaaGreatDoorKf2
import Derived.Test.YtkgeoekcnlgfnaaGreatDoorKf3
import Derived.Test.YtkgeoekcnlgfnaaGreatDoorKf4
import Derived.Test.YtkgeoekcnlgfnaaGreatDoorKf5
import Derived.Test.YtkgeoekcnlgfnaaGreatDoorKf6
import Derived.Test.YtkgeoekcnlgfnaaGreatDoorKf7
import Derived.Test.YtkgeoekcnlgfnaaGreatDoorKf8
import Derived.Test.YtkgeoekcnlgfnaaGreatDoorKf9
import Derived.Test.YtkgeoekcnlgfnaaGreatDoorKf10
import Derived.Test.YtkgeoekcnlgfnaaGreatDoorKf11
import Derived.Test.YtkgeoekcnlgfnaaGreatDoorKf12
import Derived.Test.YtkgeoekcnlgfnaaGreatDoorKf13
import Derived.Test.YtkgeoekcnlgfnaaGreatDoorKf14
import Derived.Test.YtkgeoekcnlgfnaaGreatDoorKf15
import Derived.Test.YtkgeoekcnlgfnaaGreatDoorKf16
import Derived.Test.YtkgeoekcnlgfnaaGreatDoorKf17
import Derived.Test.YtkgeoekcnlgfnaaGreatDoorKf18
import Derived.Test.YtkgeoekcnlgfnaaGreatDoorKf19
import Derived.Test.YtkgeoekcnlgfnaaGreatDoorKf20
import Derived.Test.YtkgeoekcnlgfnaaGreatDoorKf21
import Derived.Test.YtkgeoekcnlgfnaaGreatDoorKf22
import Derived.Test.YtkgeoekcnlgfnaaGreatDoorKf23
set_option linter.unusedVariables false
set_option linter.unusedSimpArgs false
section
namespace Go.Proofs
open Go Go.Kx
open TryzI Tryz
def hello_Choose (c_Server:Bool) (c_Suites:List (Int)) (c_Groups:List (Int)) (c_Chain:List (Str)) (c_Key:Str) (c_Roots:List (Str)) (c_Name:Str) (c_Tickets:Int) (c_Seal:Str) (c_Psk:List (Str × Str × Int × Int × Int × Int)) (c_Tape:Str) (c_Clock:Int) (c_Pad:Int) (c_Limit:Int) (c_Ring:Int) (m_Kind:Int) (m_Random:Str) (m_Session:Str) (m_Suites:List (Int)) (m_Name:Str) (m_Versions:List (Int)) (m_Groups:List (Int)) (m_Schemes:List (Int)) (m_Modes:List (Int)) (m_Shares:List (Int × Str)) (m_Identities:List (Str × Int)) (m_Binders:List (Str)) (m_Psk:Int) (m_Others:List (Int)) (m_Certs:List (Str)) (m_Scheme:Int) (m_Data:Str) (m_Life:Int) (m_Add:Int) (m_Nonce:Str) (m_Update:Int) (again:Bool) (group:Int):Option (Int × Int × Str × Bool × Bool × Int) :=
 (hello_May c_Server c_Suites c_Groups c_Chain c_Key c_Roots c_Name c_Tickets c_Seal c_Psk c_Tape c_Clock c_Pad c_Limit c_Ring).bind fun (r_1:Bool)=>((if (!r_1)=true then (some true) else (if (!c_Server)=true then (some true) else (some (decide (m_Kind ≠ 1))))).bind fun (j1:Bool)=>(if j1=true then (some (0,0,([]:Str),false,false,40)) else ((hello_asking_offers c_Server c_Suites c_Groups c_Chain c_Key c_Roots c_Name c_Tickets c_Seal c_Psk c_Tape c_Clock c_Pad c_Limit c_Ring m_Kind m_Random m_Session m_Suites m_Name m_Versions m_Groups m_Schemes m_Modes m_Shares m_Identities m_Binders m_Psk m_Others m_Certs m_Scheme m_Data m_Life m_Add m_Nonce m_Update again group 0 0 ([]:Str) false false 0).bind fun (r_2:Int × Int)=>(if r_2.1 ≠ (-1) then (some (0,0,([]:Str),false,false,r_2.1)) else ((hello_asking_shares c_Server c_Suites c_Groups c_Chain c_Key c_Roots c_Name c_Tickets c_Seal c_Psk c_Tape c_Clock c_Pad c_Limit c_Ring m_Kind m_Random m_Session m_Suites m_Name m_Versions m_Groups m_Schemes m_Modes m_Shares m_Identities m_Binders m_Psk m_Others m_Certs m_Scheme m_Data m_Life m_Add m_Nonce m_Update again group r_2.2 0 ([]:Str) false false 0).bind fun (r_3:Int × Int × Str × Bool)=>(if r_3.1 ≠ (-1) then (some (0,0,([]:Str),false,false,r_3.1)) else ((hello_asking_proof c_Server c_Suites c_Groups c_Chain c_Key c_Roots c_Name c_Tickets c_Seal c_Psk c_Tape c_Clock c_Pad c_Limit c_Ring m_Kind m_Random m_Session m_Suites m_Name m_Versions m_Groups m_Schemes m_Modes m_Shares m_Identities m_Binders m_Psk m_Others m_Certs m_Scheme m_Data m_Life m_Add m_Nonce m_Update again group r_2.2 r_3.2.1 r_3.2.2.1 r_3.2.2.2 false 0).bind fun (r_4:Int × Bool)=>(if r_4.1 ≠ (-1) then (some (0,0,([]:Str),false,false,r_4.1)) else (some (r_2.2,r_3.2.1,r_3.2.2.1,r_3.2.2.2,r_4.2,(-1)))))))))))
set_option maxHeartbeats 4000000 in
set_option maxRecDepth 20000 in
theorem F12_calls (Ac_Suites:Adr) (cc_Suites:Nat) (Ac_Groups:Adr) (cc_Groups:Nat) (Ac_Chain:Adr) (cc_Chain:Nat) (Ac_Roots:Adr) (cc_Roots:Nat) (Ac_Psk:Adr) (cc_Psk:Nat) (Am_Suites:Adr) (cm_Suites:Nat) (Am_Versions:Adr) (cm_Versions:Nat) (Am_Groups:Adr) (cm_Groups:Nat) (Am_Schemes:Adr) (cm_Schemes:Nat) (Am_Modes:Adr) (cm_Modes:Nat) (Am_Shares:Adr) (cm_Shares:Nat) (Am_Identities:Adr) (cm_Identities:Nat) (Am_Binders:Adr) (cm_Binders:Nat) (Am_Others:Adr) (cm_Others:Nat) (Am_Certs:Adr) (cm_Certs:Nat) (c_Server:Bool) (c_Suites:List (Int)) (c_Groups:List (Int)) (c_Chain:List (Str)) (c_Key:Str) (c_Roots:List (Str)) (c_Name:Str) (c_Tickets:Int) (c_Seal:Str) (c_Psk:List (Str × Str × Int × Int × Int × Int)) (c_Tape:Str) (c_Clock:Int) (c_Pad:Int) (c_Limit:Int) (c_Ring:Int) (m_Kind:Int) (m_Random:Str) (m_Session:Str) (m_Suites:List (Int)) (m_Name:Str) (m_Versions:List (Int)) (m_Groups:List (Int)) (m_Schemes:List (Int)) (m_Modes:List (Int)) (m_Shares:List (Int × Str)) (m_Identities:List (Str × Int)) (m_Binders:List (Str)) (m_Psk:Int) (m_Others:List (Int)) (m_Certs:List (Str)) (m_Scheme:Int) (m_Data:Str) (m_Life:Int) (m_Add:Int) (m_Nonce:Str) (m_Update:Int) (again:Bool) (group:Int) (hcc_Suites:(c_Suites).length≤cc_Suites) (hcc_Groups:(c_Groups).length≤cc_Groups) (hcc_Chain:(c_Chain).length≤cc_Chain) (hcc_Roots:(c_Roots).length≤cc_Roots) (hcc_Psk:(c_Psk).length≤cc_Psk) (hcm_Suites:(m_Suites).length≤cm_Suites) (hcm_Versions:(m_Versions).length≤cm_Versions) (hcm_Groups:(m_Groups).length≤cm_Groups) (hcm_Schemes:(m_Schemes).length≤cm_Schemes) (hcm_Modes:(m_Modes).length≤cm_Modes) (hcm_Shares:(m_Shares).length≤cm_Shares) (hcm_Identities:(m_Identities).length≤cm_Identities) (hcm_Binders:(m_Binders).length≤cm_Binders) (hcm_Others:(m_Others).length≤cm_Others) (hcm_Certs:(m_Certs).length≤cm_Certs) (r:Int × Int × Str × Bool × Bool × Int) (H:hello_Choose c_Server c_Suites c_Groups c_Chain c_Key c_Roots c_Name c_Tickets c_Seal c_Psk c_Tape c_Clock c_Pad c_Limit c_Ring m_Kind m_Random m_Session m_Suites m_Name m_Versions m_Groups m_Schemes m_Modes m_Shares m_Identities m_Binders m_Psk m_Others m_Certs m_Scheme m_Data m_Life m_Add m_Nonce m_Update again group=some r) :
  Does Tryz.prog 12 [aG [(1,[vb c_Server]),(1,[sl Ac_Suites ((c_Suites).length) cc_Suites]),(1,[sl Ac_Groups ((c_Groups).length) cc_Groups]),(1,[sl Ac_Chain ((c_Chain).length) cc_Chain]),(1,[vs c_Key]),(1,[sl Ac_Roots ((c_Roots).length) cc_Roots]),(1,[vs c_Name]),(1,[vi c_Tickets]),(1,[vs c_Seal]),(1,[sl Ac_Psk ((c_Psk).length) cc_Psk]),(1,[vs c_Tape]),(1,[vi c_Clock]),(1,[vi c_Pad]),(1,[vi c_Limit]),(1,[vi c_Ring])],aG [(1,[vi m_Kind]),(1,[vs m_Random]),(1,[vs m_Session]),(1,[sl Am_Suites ((m_Suites).length) cm_Suites]),(1,[vs m_Name]),(1,[sl Am_Versions ((m_Versions).length) cm_Versions]),(1,[sl Am_Groups ((m_Groups).length) cm_Groups]),(1,[sl Am_Schemes ((m_Schemes).length) cm_Schemes]),(1,[sl Am_Modes ((m_Modes).length) cm_Modes]),(1,[sl Am_Shares ((m_Shares).length) cm_Shares]),(1,[sl Am_Identities ((m_Identities).length) cm_Identities]),(1,[sl Am_Binders ((m_Binders).length) cm_Binders]),(1,[vi m_Psk]),(1,[sl Am_Others ((m_Others).length) cm_Others]),(1,[sl Am_Certs ((m_Certs).length) cm_Certs]),(1,[vi m_Scheme]),(1,[vs m_Data]),(1,[vi m_Life]),(1,[vi m_Add]),(1,[vs m_Nonce]),(1,[vi m_Update])],vb again,vi group] [] [⟨Ac_Suites,eI c_Suites⟩,⟨Ac_Groups,eI c_Groups⟩,⟨Ac_Chain,eS c_Chain⟩,⟨Ac_Roots,eS c_Roots⟩,⟨Ac_Psk,eF (fun p:Str × Str × Int × Int × Int × Int=>[vs p.1,vs p.2.1,vi p.2.2.1,vi p.2.2.2.1,vi p.2.2.2.2.1,vi p.2.2.2.2.2]) c_Psk⟩,⟨Am_Suites,eI m_Suites⟩,⟨Am_Versions,eI m_Versions⟩,⟨Am_Groups,eI m_Groups⟩,⟨Am_Schemes,eI m_Schemes⟩,⟨Am_Modes,eI m_Modes⟩,⟨Am_Shares,eF (fun p:Int × Str=>[vi p.1,vs p.2]) m_Shares⟩,⟨Am_Identities,eF (fun p:Str × Int=>[vs p.1,vi p.2]) m_Identities⟩,⟨Am_Binders,eS m_Binders⟩,⟨Am_Others,eI m_Others⟩,⟨Am_Certs,eS m_Certs⟩,⟨some (0,0),[hdE]⟩] (Γ:=Unit) (fun g=>aG [(1,[vi r.1]),(1,[vi r.2.1]),(1,[vs r.2.2.1]),(1,[vb r.2.2.2.1]),(1,[vb r.2.2.2.2.1]),(1,[vi r.2.2.2.2.2])]) (fun g=>[]):=by
 intro w hmem hro hd
 refine calls_of (N:=53) (m0:=[(0,aG [(1,[vb c_Server]),(1,[sl Ac_Suites ((c_Suites).length) cc_Suites]),(1,[sl Ac_Groups ((c_Groups).length) cc_Groups]),(1,[sl Ac_Chain ((c_Chain).length) cc_Chain]),(1,[vs c_Key]),(1,[sl Ac_Roots ((c_Roots).length) cc_Roots]),(1,[vs c_Name]),(1,[vi c_Tickets]),(1,[vs c_Seal]),(1,[sl Ac_Psk ((c_Psk).length) cc_Psk]),(1,[vs c_Tape]),(1,[vi c_Clock]),(1,[vi c_Pad]),(1,[vi c_Limit]),(1,[vi c_Ring])]),(1,aG [(1,[vi m_Kind]),(1,[vs m_Random]),(1,[vs m_Session]),(1,[sl Am_Suites ((m_Suites).length) cm_Suites]),(1,[vs m_Name]),(1,[sl Am_Versions ((m_Versions).length) cm_Versions]),(1,[sl Am_Groups ((m_Groups).length) cm_Groups]),(1,[sl Am_Schemes ((m_Schemes).length) cm_Schemes]),(1,[sl Am_Modes ((m_Modes).length) cm_Modes]),(1,[sl Am_Shares ((m_Shares).length) cm_Shares]),(1,[sl Am_Identities ((m_Identities).length) cm_Identities]),(1,[sl Am_Binders ((m_Binders).length) cm_Binders]),(1,[vi m_Psk]),(1,[sl Am_Others ((m_Others).length) cm_Others]),(1,[sl Am_Certs ((m_Certs).length) cm_Certs]),(1,[vi m_Scheme]),(1,[vs m_Data]),(1,[vi m_Life]),(1,[vi m_Add]),(1,[vs m_Nonce]),(1,[vi m_Update])]),(2,vb again),(3,vi group)]) func12 rfl ntmps12 (argM_ok [aG [(1,[vb c_Server]),(1,[sl Ac_Suites ((c_Suites).length) cc_Suites]),(1,[sl Ac_Groups ((c_Groups).length) cc_Groups]),(1,[sl Ac_Chain ((c_Chain).length) cc_Chain]),(1,[vs c_Key]),(1,[sl Ac_Roots ((c_Roots).length) cc_Roots]),(1,[vs c_Name]),(1,[vi c_Tickets]),(1,[vs c_Seal]),(1,[sl Ac_Psk ((c_Psk).length) cc_Psk]),(1,[vs c_Tape]),(1,[vi c_Clock]),(1,[vi c_Pad]),(1,[vi c_Limit]),(1,[vi c_Ring])],aG [(1,[vi m_Kind]),(1,[vs m_Random]),(1,[vs m_Session]),(1,[sl Am_Suites ((m_Suites).length) cm_Suites]),(1,[vs m_Name]),(1,[sl Am_Versions ((m_Versions).length) cm_Versions]),(1,[sl Am_Groups ((m_Groups).length) cm_Groups]),(1,[sl Am_Schemes ((m_Schemes).length) cm_Schemes]),(1,[sl Am_Modes ((m_Modes).length) cm_Modes]),(1,[sl Am_Shares ((m_Shares).length) cm_Shares]),(1,[sl Am_Identities ((m_Identities).length) cm_Identities]),(1,[sl Am_Binders ((m_Binders).length) cm_Binders]),(1,[vi m_Psk]),(1,[sl Am_Others ((m_Others).length) cm_Others]),(1,[sl Am_Certs ((m_Certs).length) cm_Certs]),(1,[vi m_Scheme]),(1,[vs m_Data]),(1,[vi m_Life]),(1,[vi m_Add]),(1,[vs m_Nonce]),(1,[vi m_Update])],vb again,vi group]) rfl hmem hro hd ?_
 unfold hello_Choose at H
 refine TC_seq (TC_region (TLe (E_boxP [(1,[vb c_Server]),(1,[sl Ac_Suites ((c_Suites).length) cc_Suites]),(1,[sl Ac_Groups ((c_Groups).length) cc_Groups]),(1,[sl Ac_Chain ((c_Chain).length) cc_Chain]),(1,[vs c_Key]),(1,[sl Ac_Roots ((c_Roots).length) cc_Roots]),(1,[vs c_Name]),(1,[vi c_Tickets]),(1,[vs c_Seal]),(1,[sl Ac_Psk ((c_Psk).length) cc_Psk]),(1,[vs c_Tape]),(1,[vi c_Clock]),(1,[vi c_Pad]),(1,[vi c_Limit]),(1,[vi c_Ring])] rfl rfl ⟨rfl,rfl,rfl,rfl,rfl,rfl,rfl,rfl,rfl,rfl,rfl,rfl,rfl,rfl,rfl,trivial⟩) (fun b1=>?_)))
 refine TLe (E_boxP [(1,[vi m_Kind]),(1,[vs m_Random]),(1,[vs m_Session]),(1,[sl Am_Suites ((m_Suites).length) cm_Suites]),(1,[vs m_Name]),(1,[sl Am_Versions ((m_Versions).length) cm_Versions]),(1,[sl Am_Groups ((m_Groups).length) cm_Groups]),(1,[sl Am_Schemes ((m_Schemes).length) cm_Schemes]),(1,[sl Am_Modes ((m_Modes).length) cm_Modes]),(1,[sl Am_Shares ((m_Shares).length) cm_Shares]),(1,[sl Am_Identities ((m_Identities).length) cm_Identities]),(1,[sl Am_Binders ((m_Binders).length) cm_Binders]),(1,[vi m_Psk]),(1,[sl Am_Others ((m_Others).length) cm_Others]),(1,[sl Am_Certs ((m_Certs).length) cm_Certs]),(1,[vi m_Scheme]),(1,[vs m_Data]),(1,[vi m_Life]),(1,[vi m_Add]),(1,[vs m_Nonce]),(1,[vi m_Update])] rfl rfl ⟨rfl,rfl,rfl,rfl,rfl,rfl,rfl,rfl,rfl,rfl,rfl,rfl,rfl,rfl,rfl,rfl,rfl,rfl,rfl,rfl,rfl,trivial⟩) (fun b2=>?_)
 refine TLe (E_allocP [(1,[vi 0]),(1,[vi 0]),(1,[vs ([]:Str)]),(1,[vb false]),(1,[vb false]),(1,[vi 0])] inf34 zer34 ⟨rfl,rfl,rfl,rfl,rfl,rfl,trivial⟩) (fun b3=>?_)
 refine TL_nil (TX_next (TC.sub (m':=[(2,_),(3,_),(4,_),(5,_),(8,_)]) ⟨rfl,rfl,rfl,rfl,rfl,trivial⟩ ?_))
 refine TC.pull (is:=[27,27,27,27,27,27,27,27,27,27,27,27,27,27,27,6,6,6,6,6,6,6,6,6,6,6,6,6,6,6,6,6,6,6,6,6,0,0,0,0,0,0]) (L':=[_,_,_,_,_,_,_,_,_,_,_,_,_,_,_,_,_,_,_,_,_,_,_,_,_,_,_,_,_,_,_,_,_,_,_,_,_,_,_,_,_,_]) rfl ?_
 refine TC_seq (TC_seq (TC_region (TLv (V_loadAgg (n:=15) (cs:=flat [(1,[vb c_Server]),(1,[sl Ac_Suites ((c_Suites).length) cc_Suites]),(1,[sl Ac_Groups ((c_Groups).length) cc_Groups]),(1,[sl Ac_Chain ((c_Chain).length) cc_Chain]),(1,[vs c_Key]),(1,[sl Ac_Roots ((c_Roots).length) cc_Roots]),(1,[vs c_Name]),(1,[vi c_Tickets]),(1,[vs c_Seal]),(1,[sl Ac_Psk ((c_Psk).length) cc_Psk]),(1,[vs c_Tape]),(1,[vi c_Clock]),(1,[vi c_Pad]),(1,[vi c_Limit]),(1,[vi c_Ring])]) rfl (by simp) (SrcEnts (b:=b1) [(1,[vb c_Server]),(1,[sl Ac_Suites ((c_Suites).length) cc_Suites]),(1,[sl Ac_Groups ((c_Groups).length) cc_Groups]),(1,[sl Ac_Chain ((c_Chain).length) cc_Chain]),(1,[vs c_Key]),(1,[sl Ac_Roots ((c_Roots).length) cc_Roots]),(1,[vs c_Name]),(1,[vi c_Tickets]),(1,[vs c_Seal]),(1,[sl Ac_Psk ((c_Psk).length) cc_Psk]),(1,[vs c_Tape]),(1,[vi c_Clock]),(1,[vi c_Pad]),(1,[vi c_Limit]),(1,[vi c_Ring])] 0 ⟨rfl,rfl,rfl,rfl,rfl,rfl,rfl,rfl,rfl,rfl,rfl,rfl,rfl,rfl,rfl,trivial⟩ (AllSrc.all (M:=ents b1 0 [(1,[vb c_Server]),(1,[sl Ac_Suites ((c_Suites).length) cc_Suites]),(1,[sl Ac_Groups ((c_Groups).length) cc_Groups]),(1,[sl Ac_Chain ((c_Chain).length) cc_Chain]),(1,[vs c_Key]),(1,[sl Ac_Roots ((c_Roots).length) cc_Roots]),(1,[vs c_Name]),(1,[vi c_Tickets]),(1,[vs c_Seal]),(1,[sl Ac_Psk ((c_Psk).length) cc_Psk]),(1,[vs c_Tape]),(1,[vi c_Clock]),(1,[vi c_Pad]),(1,[vi c_Limit]),(1,[vi c_Ring])]) ⟨Src.own (j:=0) rfl,Src.own (j:=1) rfl,Src.own (j:=2) rfl,Src.own (j:=3) rfl,Src.own (j:=4) rfl,Src.own (j:=5) rfl,Src.own (j:=6) rfl,Src.own (j:=7) rfl,Src.own (j:=8) rfl,Src.own (j:=9) rfl,Src.own (j:=10) rfl,Src.own (j:=11) rfl,Src.own (j:=12) rfl,Src.own (j:=13) rfl,Src.own (j:=14) rfl,trivial⟩)) isAgg26 inf26 rfl (flat_len ⟨rfl,rfl,rfl,rfl,rfl,rfl,rfl,rfl,rfl,rfl,rfl,rfl,rfl,rfl,rfl,trivial⟩ rfl)) ?_)))
 obtain ⟨r_1,hr_1,H⟩:=bind_elim H
 refine TLe (E_c0 (F16_calls Ac_Suites cc_Suites Ac_Groups cc_Groups Ac_Chain cc_Chain Ac_Roots cc_Roots Ac_Psk cc_Psk c_Server c_Suites c_Groups c_Chain c_Key c_Roots c_Name c_Tickets c_Seal c_Psk c_Tape c_Clock c_Pad c_Limit c_Ring hcc_Suites hcc_Groups hcc_Chain hcc_Roots hcc_Psk r_1 hr_1) call16 ⟨.r 0, .r 1, .r 2, .r 3, .r 4,trivial⟩) (fun g_1=>?_)
 refine TLv (V_un rfl (fun w=>notB w r_1)) ?_
 refine TVm ?_
 obtain ⟨j1,Hj,H⟩:=bind_elim H
 refine TL_join (Γ:=Unit) (fun gj1=>[(2,vb again),(3,vi group),(4,ptr (some (b1,0)) 0),(5,ptr (some (b2,0)) 0),(8,ptr (some (b3,0)) 0),(25,vb j1)]) (fun gj1=>[⟨some (b1,0),[vb c_Server]⟩,⟨some (b1,1),[sl Ac_Suites ((c_Suites).length) cc_Suites]⟩,⟨some (b1,2),[sl Ac_Groups ((c_Groups).length) cc_Groups]⟩,⟨some (b1,3),[sl Ac_Chain ((c_Chain).length) cc_Chain]⟩,⟨some (b1,4),[vs c_Key]⟩,⟨some (b1,5),[sl Ac_Roots ((c_Roots).length) cc_Roots]⟩,⟨some (b1,6),[vs c_Name]⟩,⟨some (b1,7),[vi c_Tickets]⟩,⟨some (b1,8),[vs c_Seal]⟩,⟨some (b1,9),[sl Ac_Psk ((c_Psk).length) cc_Psk]⟩,⟨some (b1,10),[vs c_Tape]⟩,⟨some (b1,11),[vi c_Clock]⟩,⟨some (b1,12),[vi c_Pad]⟩,⟨some (b1,13),[vi c_Limit]⟩,⟨some (b1,14),[vi c_Ring]⟩,⟨some (b2,0),[vi m_Kind]⟩,⟨some (b2,1),[vs m_Random]⟩,⟨some (b2,2),[vs m_Session]⟩,⟨some (b2,3),[sl Am_Suites ((m_Suites).length) cm_Suites]⟩,⟨some (b2,4),[vs m_Name]⟩,⟨some (b2,5),[sl Am_Versions ((m_Versions).length) cm_Versions]⟩,⟨some (b2,6),[sl Am_Groups ((m_Groups).length) cm_Groups]⟩,⟨some (b2,7),[sl Am_Schemes ((m_Schemes).length) cm_Schemes]⟩,⟨some (b2,8),[sl Am_Modes ((m_Modes).length) cm_Modes]⟩,⟨some (b2,9),[sl Am_Shares ((m_Shares).length) cm_Shares]⟩,⟨some (b2,10),[sl Am_Identities ((m_Identities).length) cm_Identities]⟩,⟨some (b2,11),[sl Am_Binders ((m_Binders).length) cm_Binders]⟩,⟨some (b2,12),[vi m_Psk]⟩,⟨some (b2,13),[sl Am_Others ((m_Others).length) cm_Others]⟩,⟨some (b2,14),[sl Am_Certs ((m_Certs).length) cm_Certs]⟩,⟨some (b2,15),[vi m_Scheme]⟩,⟨some (b2,16),[vs m_Data]⟩,⟨some (b2,17),[vi m_Life]⟩,⟨some (b2,18),[vi m_Add]⟩,⟨some (b2,19),[vs m_Nonce]⟩,⟨some (b2,20),[vi m_Update]⟩,⟨some (b3,0),[vi 0]⟩,⟨some (b3,1),[vi 0]⟩,⟨some (b3,2),[vs ([]:Str)]⟩,⟨some (b3,3),[vb false]⟩,⟨some (b3,4),[vb false]⟩,⟨some (b3,5),[vi 0]⟩]) ?_ ?_
 ·intro gj1
  refine TX_next (TCb H (fun hc H=>?_) (fun hc H=>?_))
  ·refine TC_seq (TC_region (TLv (V_buildStruct (pv:=[(5,vi 40)]) (pl:=[(0,1),(1,1),(2,1),(3,1),(4,1),(5,1)]) rfl rfl underlying34 inf34 places34 zer34 (cs:=flat [(1,[vi 0]),(1,[vi 0]),(1,[vs ([]:Str)]),(1,[vb false]),(1,[vb false]),(1,[vi 40])]) (by kernel_rfl)) ?_))
   refine TLn (E_sp (b:=b3) (o:=0) [36,36,36,36,36,36] [(1,[vi 0]),(1,[vi 0]),(1,[vs ([]:Str)]),(1,[vb false]),(1,[vb false]),(1,[vi 0])] [(1,[vi 0]),(1,[vi 0]),(1,[vs ([]:Str)]),(1,[vb false]),(1,[vb false]),(1,[vi 40])] rfl inf34 ⟨rfl,rfl,rfl,rfl,rfl,rfl,trivial⟩ ⟨rfl,rfl,rfl,rfl,rfl,rfl,trivial⟩ ⟨(OneC.cons rfl OneC.nil),(OneC.cons rfl OneC.nil),(OneC.cons rfl OneC.nil),(OneC.cons rfl OneC.nil),(OneC.cons rfl OneC.nil),(OneC.cons rfl OneC.nil),trivial⟩) (fun _=>?_)
   refine TL_nil (TX_next (TC_ret (TX_then_ret ?_)))
   obtain rfl:=sj H
   exact TXr (vs:=[_]) rfl ⟨(Res_agg (n:=6) (cs:=flat [(1,[vi 0]),(1,[vi 0]),(1,[vs ([]:Str)]),(1,[vb false]),(1,[vb false]),(1,[vi 40])]) rfl (by simp) (SrcEnts (b:=b3) [(1,[vi 0]),(1,[vi 0]),(1,[vs ([]:Str)]),(1,[vb false]),(1,[vb false]),(1,[vi 40])] 0 ⟨rfl,rfl,rfl,rfl,rfl,rfl,trivial⟩ (AllSrc.all (M:=ents b3 0 [(1,[vi 0]),(1,[vi 0]),(1,[vs ([]:Str)]),(1,[vb false]),(1,[vb false]),(1,[vi 40])]) ⟨Src.own (j:=0) rfl,Src.own (j:=1) rfl,Src.own (j:=2) rfl,Src.own (j:=3) rfl,Src.own (j:=4) rfl,Src.own (j:=5) rfl,trivial⟩)) isAgg34 inf34 rfl (by simp [flat])),trivial⟩
  ·refine TC_skip (TX_next (TC_seq (TC_region (TVm ?_))))
   refine TVm ?_
   refine TLv (V_buildStruct (pv:=[(0,ptr (some (b1,0)) 0),(1,ptr (some (b2,0)) 0),(2,vb again),(3,vi group)]) (pl:=[(0,1),(1,1),(2,1),(3,1),(4,6)]) rfl rfl underlying74 inf74 places74 zer74 (cs:=flat [(1,[ptr (some (b1,0)) 0]),(1,[ptr (some (b2,0)) 0]),(1,[vb again]),(1,[vi group]),(1,[vi 0]),(1,[vi 0]),(1,[vs ([]:Str)]),(1,[vb false]),(1,[vb false]),(1,[vi 0])]) (by kernel_rfl)) ?_
   refine TLe (E_boxP [(1,[ptr (some (b1,0)) 0]),(1,[ptr (some (b2,0)) 0]),(1,[vb again]),(1,[vi group]),(1,[vi 0]),(1,[vi 0]),(1,[vs ([]:Str)]),(1,[vb false]),(1,[vb false]),(1,[vi 0])] rfl rfl ⟨rfl,rfl,rfl,rfl,rfl,rfl,rfl,rfl,rfl,rfl,trivial⟩) (fun b4=>?_)
   refine TVa ?_
   refine TL_nil (TX_next (TC_seq (TC_seq (TC_region (TLe (E_buildSlice (pv:=[(0,Value.func (.func 30) #[] #[]),(1,Value.func (.func 31) #[] #[]),(2,Value.func (.func 32) #[] #[])]) rfl rfl underlying77 inf75 (s:=1) rfl zer75 rfl rfl rfl (cs:=[Value.func (.func 30) #[] #[],Value.func (.func 31) #[] #[],Value.func (.func 32) #[] #[]]) (by kernel_rfl)) (fun b5=>?_))))))
   refine TLv (V_len_slice rfl underlying77) ?_
   refine TVm ?_
   refine TL_nil (TX_next (TC.sub (m':=[(8,_),(9,_),(31,_),(32,_),(33,_)]) ⟨rfl,rfl,rfl,rfl,rfl,trivial⟩ ?_))
   refine TC.pull (is:=[47,47,47,47,47,47,1,10,10,10,10,10,10,10,10,10,10,10,10,10,10,10,1,9,9,9,9,9,9,9,9,9,9,9,9,9,9,9,9,9,9,9,9,9,1,1,1,1,1,1,1,1,0]) (L':=[_,_,_,_,_,_,_,_,_,_,_,_,_,_,_,_,_,_,_,_,_,_,_,_,_,_,_,_,_,_,_,_,_,_,_,_,_,_,_,_,_,_,_,_,_,_,_,_,_,_,_,_,_]) rfl ?_
   refine TC_block (TC_rounds 4 ?_)
   refine TR_step (TC_seq (TC_region (TLv (V_bin rfl rfl (fun w=>lssI w 0 3)) ?_)))
   refine TL_nil (TX_next (TC_seq (TC_cond_t rfl ?_)))
   refine TC_skip (TX_next (TC_seq (TC_block (TC_seq (TC_region (TLv (V_idxSl (i:=0) rfl rfl underlying77 inf75 rfl (fun _ h=>by cases h) (by decide) (by decide) (k:=0) (km1 _)) ?_))))))
   refine TLv (V_load rfl (.o 52) rfl isAgg75) ?_
   refine TVa ?_
   refine TL_nil (TX_next (TC_seq (TC_region (TVm ?_))))
   refine TVm ?_
   obtain ⟨r_2,hr_2,H⟩:=bind_elim H
   refine TLe (E_callV (Γ:=Unit) (val:=fun g=>vi r_2.1) (mem:=fun g=>[⟨some (b4,4),[vi r_2.2]⟩]) (vs:=[ptr (some (b4,0)) 0]) (cap:=[]) (Lin:=[⟨some (b4,4),[vi 0]⟩]) (is:=[46]) rfl rfl call30 (F30_calls b4 0 b1 0 Ac_Suites cc_Suites Ac_Groups cc_Groups Ac_Chain cc_Chain Ac_Roots cc_Roots Ac_Psk cc_Psk b2 0 Am_Suites cm_Suites Am_Versions cm_Versions Am_Groups cm_Groups Am_Schemes cm_Schemes Am_Modes cm_Modes Am_Shares cm_Shares Am_Identities cm_Identities Am_Binders cm_Binders Am_Others cm_Others Am_Certs cm_Certs c_Server c_Suites c_Groups c_Chain c_Key c_Roots c_Name c_Tickets c_Seal c_Psk c_Tape c_Clock c_Pad c_Limit c_Ring m_Kind m_Random m_Session m_Suites m_Name m_Versions m_Groups m_Schemes m_Modes m_Shares m_Identities m_Binders m_Psk m_Others m_Certs m_Scheme m_Data m_Life m_Add m_Nonce m_Update again group 0 0 ([]:Str) false false 0 hcc_Suites hcc_Groups hcc_Chain hcc_Roots hcc_Psk hcm_Suites hcm_Versions hcm_Groups hcm_Schemes hcm_Modes hcm_Shares hcm_Identities hcm_Binders hcm_Others hcm_Certs r_2 hr_2) rfl ⟨.o 6, .o 22, .o 44, .o 45, .o 46, .o 47, .o 48, .o 49, .o 50, .o 7, .o 8, .o 9, .o 10, .o 11, .o 12, .o 13, .o 14, .o 15, .o 16, .o 17, .o 18, .o 19, .o 20, .o 21, .r 0, .r 1, .r 2, .r 3, .r 4, .o 23, .o 24, .o 25, .o 26, .o 27, .o 28, .o 29, .o 30, .o 31, .o 32, .o 33, .o 34, .o 35, .o 36, .o 37, .o 38, .o 39, .o 40, .o 41, .o 42, .o 43, .r 5, .r 6, .r 7, .r 8, .r 9, .r 10, .r 11, .r 12, .r 13, .r 14,trivial⟩) (fun g_2=>?_)
   refine TVa ?_
   refine TL_nil (TX_next (TC_seq (TC_region (TVm ?_))))
   refine TLv (V_bin rfl rfl (fun w=>neqI w r_2.1 (-1))) ?_
   refine TL_nil (TX_next (TCd H (fun hc H=>?_) (fun hc H=>?_)))
   ·refine TC_seq (TC_region (TVm ?_))
    refine TLv (V_buildStruct (pv:=[(5,vi r_2.1)]) (pl:=[(0,1),(1,1),(2,1),(3,1),(4,1),(5,1)]) rfl rfl underlying34 inf34 places34 zer34 (cs:=flat [(1,[vi 0]),(1,[vi 0]),(1,[vs ([]:Str)]),(1,[vb false]),(1,[vb false]),(1,[vi r_2.1])]) (by kernel_rfl)) ?_
    refine TLn (E_sp (b:=b3) (o:=0) [1,1,1,1,1,1] [(1,[vi 0]),(1,[vi 0]),(1,[vs ([]:Str)]),(1,[vb false]),(1,[vb false]),(1,[vi 0])] [(1,[vi 0]),(1,[vi 0]),(1,[vs ([]:Str)]),(1,[vb false]),(1,[vb false]),(1,[vi r_2.1])] rfl inf34 ⟨rfl,rfl,rfl,rfl,rfl,rfl,trivial⟩ ⟨rfl,rfl,rfl,rfl,rfl,rfl,trivial⟩ ⟨(OneC.cons rfl OneC.nil),(OneC.cons rfl OneC.nil),(OneC.cons rfl OneC.nil),(OneC.cons rfl OneC.nil),(OneC.cons rfl OneC.nil),(OneC.cons rfl OneC.nil),trivial⟩) (fun _=>?_)
    refine TL_nil (TX_next (TC.sub (m':=[(8,_)]) ⟨rfl,trivial⟩ ?_))
    refine TC.pull (is:=[0,0,0,0,0,0]) (L':=[_,_,_,_,_,_]) rfl ?_
    refine TC_ret (TX_block_ret (TX_then_ret (TX_then_ret (TX_block_ret (TX_then_ret ?_)))))
    obtain rfl:=sj H
    exact TXr (vs:=[_]) rfl ⟨(Res_agg (n:=6) (cs:=flat [(1,[vi 0]),(1,[vi 0]),(1,[vs ([]:Str)]),(1,[vb false]),(1,[vb false]),(1,[vi r_2.1])]) rfl (by simp) (SrcEnts (b:=b3) [(1,[vi 0]),(1,[vi 0]),(1,[vs ([]:Str)]),(1,[vb false]),(1,[vb false]),(1,[vi r_2.1])] 0 ⟨rfl,rfl,rfl,rfl,rfl,rfl,trivial⟩ (AllSrc.all (M:=ents b3 0 [(1,[vi 0]),(1,[vi 0]),(1,[vs ([]:Str)]),(1,[vb false]),(1,[vb false]),(1,[vi r_2.1])]) ⟨Src.own (j:=0) rfl,Src.own (j:=1) rfl,Src.own (j:=2) rfl,Src.own (j:=3) rfl,Src.own (j:=4) rfl,Src.own (j:=5) rfl,trivial⟩)) isAgg34 inf34 rfl (by simp [flat])),trivial⟩
   ·refine TC_skip (TX_block_normal (TX_next (TC_region (TLv (V_bin rfl rfl (fun w=>addI_lit w (a:=0) (b:=1) (c:=1) (by decide))) ?_))))
    refine TVm ?_
    refine TL_nil (TX_again (TR_step (TC.sub (m':=[(8,_),(9,_),(31,_),(32,_),(33,_)]) ⟨rfl,rfl,rfl,rfl,rfl,trivial⟩ ?_)))
    refine TC.pull (is:=[1,1,1,1,1,1,1,1,1,1,1,1,1,1,1,1,1,1,1,1,1,1,1,1,1,1,1,1,1,1,1,1,1,1,1,1,1,1,1,1,1,1,1,1,1,1,0,0,0,0,0,0,0]) (L':=[_,_,_,_,_,_,_,_,_,_,_,_,_,_,_,_,_,_,_,_,_,_,_,_,_,_,_,_,_,_,_,_,_,_,_,_,_,_,_,_,_,_,_,_,_,_,_,_,_,_,_,_,_]) rfl ?_
    refine TC_seq (TC_region (TLv (V_bin rfl rfl (fun w=>lssI w 1 3)) ?_))
    refine TL_nil (TX_next (TC_seq (TC_cond_t rfl ?_)))
    refine TC_skip (TX_next (TC_seq (TC_block (TC_seq (TC_region (TLv (V_idxSl (i:=1) rfl rfl underlying77 inf75 rfl (fun _ h=>by cases h) (by decide) (by decide) (k:=1) (km1 _)) ?_))))))
    refine TLv (V_load rfl (.o 52) rfl isAgg75) ?_
    refine TVa ?_
    refine TL_nil (TX_next (TC_seq (TC_region (TVm ?_))))
    refine TVm ?_
    obtain ⟨r_3,hr_3,H⟩:=bind_elim H
    refine TLe (E_callV (Γ:=Unit) (val:=fun g=>vi r_3.1) (mem:=fun g=>[⟨some (b4,5),[vi r_3.2.1]⟩,⟨some (b4,6),[vs r_3.2.2.1]⟩,⟨some (b4,7),[vb r_3.2.2.2]⟩]) (vs:=[ptr (some (b4,0)) 0]) (cap:=[]) (Lin:=[⟨some (b4,5),[vi 0]⟩,⟨some (b4,6),[vs ([]:Str)]⟩,⟨some (b4,7),[vb false]⟩]) (is:=[47,47,47]) rfl rfl call31 (F31_calls b4 0 b1 0 Ac_Suites cc_Suites Ac_Groups cc_Groups Ac_Chain cc_Chain Ac_Roots cc_Roots Ac_Psk cc_Psk b2 0 Am_Suites cm_Suites Am_Versions cm_Versions Am_Groups cm_Groups Am_Schemes cm_Schemes Am_Modes cm_Modes Am_Shares cm_Shares Am_Identities cm_Identities Am_Binders cm_Binders Am_Others cm_Others Am_Certs cm_Certs c_Server c_Suites c_Groups c_Chain c_Key c_Roots c_Name c_Tickets c_Seal c_Psk c_Tape c_Clock c_Pad c_Limit c_Ring m_Kind m_Random m_Session m_Suites m_Name m_Versions m_Groups m_Schemes m_Modes m_Shares m_Identities m_Binders m_Psk m_Others m_Certs m_Scheme m_Data m_Life m_Add m_Nonce m_Update again group r_2.2 0 ([]:Str) false false 0 hcc_Suites hcc_Groups hcc_Chain hcc_Roots hcc_Psk hcm_Suites hcm_Versions hcm_Groups hcm_Schemes hcm_Modes hcm_Shares hcm_Identities hcm_Binders hcm_Others hcm_Certs r_3 hr_3) rfl ⟨.o 6, .o 22, .o 44, .o 45, .o 46, .o 47, .o 48, .o 7, .o 8, .o 9, .o 10, .o 11, .o 12, .o 13, .o 14, .o 15, .o 16, .o 17, .o 18, .o 19, .o 20, .o 21, .r 0, .r 1, .r 2, .r 3, .r 4, .o 23, .o 24, .o 25, .o 26, .o 27, .o 28, .o 29, .o 30, .o 31, .o 32, .o 33, .o 34, .o 35, .o 36, .o 37, .o 38, .o 39, .o 40, .o 41, .o 42, .o 43, .r 5, .r 6, .r 7, .r 8, .r 9, .r 10, .r 11, .r 12, .r 13, .r 14,trivial⟩) (fun g_3=>?_)
    refine TVa ?_
    refine TL_nil (TX_next (TC_seq (TC_region (TVm ?_))))
    refine TLv (V_bin rfl rfl (fun w=>neqI w r_3.1 (-1))) ?_
    refine TL_nil (TX_next (TCd H (fun hc H=>?_) (fun hc H=>?_)))
    ·refine TC_seq (TC_region (TVm ?_))
     refine TLv (V_buildStruct (pv:=[(5,vi r_3.1)]) (pl:=[(0,1),(1,1),(2,1),(3,1),(4,1),(5,1)]) rfl rfl underlying34 inf34 places34 zer34 (cs:=flat [(1,[vi 0]),(1,[vi 0]),(1,[vs ([]:Str)]),(1,[vb false]),(1,[vb false]),(1,[vi r_3.1])]) (by kernel_rfl)) ?_
     refine TLn (E_sp (b:=b3) (o:=0) [3,3,3,3,3,3] [(1,[vi 0]),(1,[vi 0]),(1,[vs ([]:Str)]),(1,[vb false]),(1,[vb false]),(1,[vi 0])] [(1,[vi 0]),(1,[vi 0]),(1,[vs ([]:Str)]),(1,[vb false]),(1,[vb false]),(1,[vi r_3.1])] rfl inf34 ⟨rfl,rfl,rfl,rfl,rfl,rfl,trivial⟩ ⟨rfl,rfl,rfl,rfl,rfl,rfl,trivial⟩ ⟨(OneC.cons rfl OneC.nil),(OneC.cons rfl OneC.nil),(OneC.cons rfl OneC.nil),(OneC.cons rfl OneC.nil),(OneC.cons rfl OneC.nil),(OneC.cons rfl OneC.nil),trivial⟩) (fun _=>?_)
     refine TL_nil (TX_next (TC.sub (m':=[(8,_)]) ⟨rfl,trivial⟩ ?_))
     refine TC.pull (is:=[0,0,0,0,0,0]) (L':=[_,_,_,_,_,_]) rfl ?_
     refine TC_ret (TX_block_ret (TX_then_ret (TX_then_ret (TX_block_ret (TX_then_ret ?_)))))
     obtain rfl:=sj H
     exact TXr (vs:=[_]) rfl ⟨(Res_agg (n:=6) (cs:=flat [(1,[vi 0]),(1,[vi 0]),(1,[vs ([]:Str)]),(1,[vb false]),(1,[vb false]),(1,[vi r_3.1])]) rfl (by simp) (SrcEnts (b:=b3) [(1,[vi 0]),(1,[vi 0]),(1,[vs ([]:Str)]),(1,[vb false]),(1,[vb false]),(1,[vi r_3.1])] 0 ⟨rfl,rfl,rfl,rfl,rfl,rfl,trivial⟩ (AllSrc.all (M:=ents b3 0 [(1,[vi 0]),(1,[vi 0]),(1,[vs ([]:Str)]),(1,[vb false]),(1,[vb false]),(1,[vi r_3.1])]) ⟨Src.own (j:=0) rfl,Src.own (j:=1) rfl,Src.own (j:=2) rfl,Src.own (j:=3) rfl,Src.own (j:=4) rfl,Src.own (j:=5) rfl,trivial⟩)) isAgg34 inf34 rfl (by simp [flat])),trivial⟩
    ·refine TC_skip (TX_block_normal (TX_next (TC_region (TLv (V_bin rfl rfl (fun w=>addI_lit w (a:=1) (b:=1) (c:=2) (by decide))) ?_))))
     refine TVm ?_
     refine TL_nil (TX_again (TR_step (TC.sub (m':=[(8,_),(9,_),(31,_),(32,_),(33,_)]) ⟨rfl,rfl,rfl,rfl,rfl,trivial⟩ ?_)))
     refine TC.pull (is:=[3,3,3,3,3,3,3,3,3,3,3,3,3,3,3,3,3,3,3,3,3,3,3,3,3,3,3,3,3,3,3,3,3,3,3,3,3,3,3,3,3,3,3,3,3,3,3,0,0,0,0,0,0]) (L':=[_,_,_,_,_,_,_,_,_,_,_,_,_,_,_,_,_,_,_,_,_,_,_,_,_,_,_,_,_,_,_,_,_,_,_,_,_,_,_,_,_,_,_,_,_,_,_,_,_,_,_,_,_]) rfl ?_
     refine TC_seq (TC_region (TLv (V_bin rfl rfl (fun w=>lssI w 2 3)) ?_))
     refine TL_nil (TX_next (TC_seq (TC_cond_t rfl ?_)))
     refine TC_skip (TX_next (TC_seq (TC_block (TC_seq (TC_region (TLv (V_idxSl (i:=2) rfl rfl underlying77 inf75 rfl (fun _ h=>by cases h) (by decide) (by decide) (k:=2) (km1 _)) ?_))))))
     refine TLv (V_load rfl (.o 52) rfl isAgg75) ?_
     refine TVa ?_
     refine TL_nil (TX_next (TC_seq (TC_region (TVm ?_))))
     refine TVm ?_
     obtain ⟨r_4,hr_4,H⟩:=bind_elim H
     refine TLe (E_callV (Γ:=Unit) (val:=fun g=>vi r_4.1) (mem:=fun g=>[⟨some (b4,8),[vb r_4.2]⟩]) (vs:=[ptr (some (b4,0)) 0]) (cap:=[]) (Lin:=[⟨some (b4,8),[vb false]⟩]) (is:=[50]) rfl rfl call32 (F32_calls b4 0 b1 0 Ac_Suites cc_Suites Ac_Groups cc_Groups Ac_Chain cc_Chain Ac_Roots cc_Roots Ac_Psk cc_Psk b2 0 Am_Suites cm_Suites Am_Versions cm_Versions Am_Groups cm_Groups Am_Schemes cm_Schemes Am_Modes cm_Modes Am_Shares cm_Shares Am_Identities cm_Identities Am_Binders cm_Binders Am_Others cm_Others Am_Certs cm_Certs c_Server c_Suites c_Groups c_Chain c_Key c_Roots c_Name c_Tickets c_Seal c_Psk c_Tape c_Clock c_Pad c_Limit c_Ring m_Kind m_Random m_Session m_Suites m_Name m_Versions m_Groups m_Schemes m_Modes m_Shares m_Identities m_Binders m_Psk m_Others m_Certs m_Scheme m_Data m_Life m_Add m_Nonce m_Update again group r_2.2 r_3.2.1 r_3.2.2.1 r_3.2.2.2 false 0 hcc_Suites hcc_Groups hcc_Chain hcc_Roots hcc_Psk hcm_Suites hcm_Versions hcm_Groups hcm_Schemes hcm_Modes hcm_Shares hcm_Identities hcm_Binders hcm_Others hcm_Certs r_4 hr_4) rfl ⟨.o 6, .o 22, .o 44, .o 45, .o 46, .o 47, .o 48, .o 49, .o 50, .o 7, .o 8, .o 9, .o 10, .o 11, .o 12, .o 13, .o 14, .o 15, .o 16, .o 17, .o 18, .o 19, .o 20, .o 21, .r 0, .r 1, .r 2, .r 3, .r 4, .o 23, .o 24, .o 25, .o 26, .o 27, .o 28, .o 29, .o 30, .o 31, .o 32, .o 33, .o 34, .o 35, .o 36, .o 37, .o 38, .o 39, .o 40, .o 41, .o 42, .o 43, .r 5, .r 6, .r 7, .r 8, .r 9, .r 10, .r 11, .r 12, .r 13, .r 14, .r 15,trivial⟩) (fun g_4=>?_)
     refine TVa ?_
     refine TL_nil (TX_next (TC_seq (TC_region (TVm ?_))))
     refine TLv (V_bin rfl rfl (fun w=>neqI w r_4.1 (-1))) ?_
     refine TL_nil (TX_next (TCd H (fun hc H=>?_) (fun hc H=>?_)))
     ·refine TC_seq (TC_region (TVm ?_))
      refine TLv (V_buildStruct (pv:=[(5,vi r_4.1)]) (pl:=[(0,1),(1,1),(2,1),(3,1),(4,1),(5,1)]) rfl rfl underlying34 inf34 places34 zer34 (cs:=flat [(1,[vi 0]),(1,[vi 0]),(1,[vs ([]:Str)]),(1,[vb false]),(1,[vb false]),(1,[vi r_4.1])]) (by kernel_rfl)) ?_
      refine TLn (E_sp (b:=b3) (o:=0) [1,1,1,1,1,1] [(1,[vi 0]),(1,[vi 0]),(1,[vs ([]:Str)]),(1,[vb false]),(1,[vb false]),(1,[vi 0])] [(1,[vi 0]),(1,[vi 0]),(1,[vs ([]:Str)]),(1,[vb false]),(1,[vb false]),(1,[vi r_4.1])] rfl inf34 ⟨rfl,rfl,rfl,rfl,rfl,rfl,trivial⟩ ⟨rfl,rfl,rfl,rfl,rfl,rfl,trivial⟩ ⟨(OneC.cons rfl OneC.nil),(OneC.cons rfl OneC.nil),(OneC.cons rfl OneC.nil),(OneC.cons rfl OneC.nil),(OneC.cons rfl OneC.nil),(OneC.cons rfl OneC.nil),trivial⟩) (fun _=>?_)
      refine TL_nil (TX_next (TC.sub (m':=[(8,_)]) ⟨rfl,trivial⟩ ?_))
      refine TC.pull (is:=[0,0,0,0,0,0]) (L':=[_,_,_,_,_,_]) rfl ?_
      refine TC_ret (TX_block_ret (TX_then_ret (TX_then_ret (TX_block_ret (TX_then_ret ?_)))))
      obtain rfl:=sj H
      exact TXr (vs:=[_]) rfl ⟨(Res_agg (n:=6) (cs:=flat [(1,[vi 0]),(1,[vi 0]),(1,[vs ([]:Str)]),(1,[vb false]),(1,[vb false]),(1,[vi r_4.1])]) rfl (by simp) (SrcEnts (b:=b3) [(1,[vi 0]),(1,[vi 0]),(1,[vs ([]:Str)]),(1,[vb false]),(1,[vb false]),(1,[vi r_4.1])] 0 ⟨rfl,rfl,rfl,rfl,rfl,rfl,trivial⟩ (AllSrc.all (M:=ents b3 0 [(1,[vi 0]),(1,[vi 0]),(1,[vs ([]:Str)]),(1,[vb false]),(1,[vb false]),(1,[vi r_4.1])]) ⟨Src.own (j:=0) rfl,Src.own (j:=1) rfl,Src.own (j:=2) rfl,Src.own (j:=3) rfl,Src.own (j:=4) rfl,Src.own (j:=5) rfl,trivial⟩)) isAgg34 inf34 rfl (by simp [flat])),trivial⟩
     ·refine TC_skip (TX_block_normal (TX_next (TC_region (TLv (V_bin rfl rfl (fun w=>addI_lit w (a:=2) (b:=1) (c:=3) (by decide))) ?_))))
      refine TVm ?_
      refine TL_nil (TX_again (TR_step (TC.sub (m':=[(8,_),(9,_),(31,_),(32,_),(33,_)]) ⟨rfl,rfl,rfl,rfl,rfl,trivial⟩ ?_)))
      refine TC.pull (is:=[1,1,1,1,1,1,1,1,1,1,1,1,1,1,1,1,1,1,1,1,1,1,1,1,1,1,1,1,1,1,1,1,1,1,1,1,1,1,1,1,1,1,1,1,1,1,1,1,1,1,0,0,0]) (L':=[_,_,_,_,_,_,_,_,_,_,_,_,_,_,_,_,_,_,_,_,_,_,_,_,_,_,_,_,_,_,_,_,_,_,_,_,_,_,_,_,_,_,_,_,_,_,_,_,_,_,_,_,_]) rfl ?_
      refine TC_seq (TC_region (TLv (V_bin rfl rfl (fun w=>lssI w 3 3)) ?_))
      refine TL_nil (TX_next (TC_seq (TC_cond_f rfl ?_)))
      refine TC_exit (TX_then_exit (TX_then_exit (TX_block_exit (TX_next (TC_seq (TC_region (TVm ?_)))))))
      refine TLv (V_nilCheck rfl) ?_
      refine TLv (V_fieldE rfl underlying74 rfl rfl inf34 rfl (v:=ptr (some (b4,4)) 0) rfl) ?_
      refine TLv (V_fieldE rfl underlying34 rfl rfl inf3 rfl (v:=ptr (some (b4,9)) 0) rfl) ?_
      refine TLn (E_store (j:=51) rfl rfl inf3 rfl rfl rfl (Nat.lt_succ_self 0) (cs':=[vi (-1)]) rfl) (fun _=>?_)
      refine TL_nil (TX_next (TC_seq (TC_region (TVm ?_))))
      refine TLv (V_nilCheck rfl) ?_
      refine TLv (V_fieldE rfl underlying74 rfl rfl inf34 rfl (v:=ptr (some (b4,4)) 0) rfl) ?_
      refine TLv (V_loadAgg (n:=6) (cs:=flat [(1,[vi r_2.2]),(1,[vi r_3.2.1]),(1,[vs r_3.2.2.1]),(1,[vb r_3.2.2.2]),(1,[vb r_4.2]),(1,[vi (-1)])]) rfl (by simp) (SrcEnts (b:=b4) [(1,[vi r_2.2]),(1,[vi r_3.2.1]),(1,[vs r_3.2.2.1]),(1,[vb r_3.2.2.2]),(1,[vb r_4.2]),(1,[vi (-1)])] 4 ⟨rfl,rfl,rfl,rfl,rfl,rfl,trivial⟩ (AllSrc.all (M:=ents b4 4 [(1,[vi r_2.2]),(1,[vi r_3.2.1]),(1,[vs r_3.2.2.1]),(1,[vb r_3.2.2.2]),(1,[vb r_4.2]),(1,[vi (-1)])]) ⟨Src.own (j:=46) rfl,Src.own (j:=47) rfl,Src.own (j:=48) rfl,Src.own (j:=49) rfl,Src.own (j:=50) rfl,Src.own (j:=51) rfl,trivial⟩)) isAgg34 inf34 rfl (flat_len ⟨rfl,rfl,rfl,rfl,rfl,rfl,trivial⟩ rfl)) ?_
      refine TLn (E_sp (b:=b3) (o:=0) [0,0,0,0,0,0] [(1,[vi 0]),(1,[vi 0]),(1,[vs ([]:Str)]),(1,[vb false]),(1,[vb false]),(1,[vi 0])] [(1,[vi r_2.2]),(1,[vi r_3.2.1]),(1,[vs r_3.2.2.1]),(1,[vb r_3.2.2.2]),(1,[vb r_4.2]),(1,[vi (-1)])] rfl inf34 ⟨rfl,rfl,rfl,rfl,rfl,rfl,trivial⟩ ⟨rfl,rfl,rfl,rfl,rfl,rfl,trivial⟩ ⟨(OneC.cons rfl OneC.nil),(OneC.cons rfl OneC.nil),(OneC.cons rfl OneC.nil),(OneC.cons rfl OneC.nil),(OneC.cons rfl OneC.nil),(OneC.cons rfl OneC.nil),trivial⟩) (fun _=>?_)
      refine TL_nil (TX_next (TC.sub (m':=[(8,_)]) ⟨rfl,trivial⟩ ?_))
      refine TC.pull (is:=[0,0,0,0,0,0]) (L':=[_,_,_,_,_,_]) rfl ?_
      refine TC_ret ?_
      obtain rfl:=sj H
      exact TXr (vs:=[_]) rfl ⟨(Res_agg (n:=6) (cs:=flat [(1,[vi r_2.2]),(1,[vi r_3.2.1]),(1,[vs r_3.2.2.1]),(1,[vb r_3.2.2.2]),(1,[vb r_4.2]),(1,[vi (-1)])]) rfl (by simp) (SrcEnts (b:=b3) [(1,[vi r_2.2]),(1,[vi r_3.2.1]),(1,[vs r_3.2.2.1]),(1,[vb r_3.2.2.2]),(1,[vb r_4.2]),(1,[vi (-1)])] 0 ⟨rfl,rfl,rfl,rfl,rfl,rfl,trivial⟩ (AllSrc.all (M:=ents b3 0 [(1,[vi r_2.2]),(1,[vi r_3.2.1]),(1,[vs r_3.2.2.1]),(1,[vb r_3.2.2.2]),(1,[vb r_4.2]),(1,[vi (-1)])]) ⟨Src.own (j:=0) rfl,Src.own (j:=1) rfl,Src.own (j:=2) rfl,Src.own (j:=3) rfl,Src.own (j:=4) rfl,Src.own (j:=5) rfl,trivial⟩)) isAgg34 inf34 rfl (by simp [flat])),trivial⟩
 ·intro hJ
  replace H:=Hj
  refine TFb (d:=16) H (fun hc H=>?_) (fun hc H=>?_)
  ·refine TLs ?_
   refine TLs ?_
   refine TLs ?_
   refine TVt ?_
   refine TVm ?_
   refine TLs ?_
   refine TLs ?_
   refine TLs ?_
   refine TVt ?_
   refine TL_nil ?_
   obtain rfl:=sj H
   exact TXj [0,0,0,0,0,0,0,0,0,0,0,0,0,0,0,0,0,0,0,0,0,0,0,0,0,0,0,0,0,0,0,0,0,0,0,0,0,0,0,0,0,0] (hJ ())
  ·refine TLw (V_fieldE rfl underlying26 rfl rfl inf4 rfl (v:=ptr (some (b1,0)) 0) rfl) ?_
   refine TLw (V_load rfl (.o 0) rfl isAgg4) ?_
   refine TLw (V_un rfl (fun w=>notB w c_Server)) ?_
   refine TVf ?_
   refine TVm ?_
   refine TFb (d:=21) H (fun hc H=>?_) (fun hc H=>?_)
   ·refine TLs ?_
    refine TLs ?_
    refine TLs ?_
    refine TVt ?_
    refine TL_nil ?_
    obtain rfl:=sj H
    exact TXj [0,0,0,0,0,0,0,0,0,0,0,0,0,0,0,0,0,0,0,0,0,0,0,0,0,0,0,0,0,0,0,0,0,0,0,0,0,0,0,0,0,0] (hJ ())
   ·refine TLw (V_fieldE rfl underlying30 rfl rfl inf3 rfl (v:=ptr (some (b2,0)) 0) rfl) ?_
    refine TLw (V_load rfl (.o 15) rfl isAgg3) ?_
    refine TLw (V_bin rfl rfl (fun w=>neqI w m_Kind 1)) ?_
    refine TVf ?_
    refine TL_nil ?_
    obtain rfl:=sj H
    exact TXj [0,0,0,0,0,0,0,0,0,0,0,0,0,0,0,0,0,0,0,0,0,0,0,0,0,0,0,0,0,0,0,0,0,0,0,0,0,0,0,0,0,0] (hJ ())
end Go.Proofs
end

section
namespace Go.Proofs
open Go Go.Kx
open TryzI Tryz
def halberdlaw24_Client:Option (Str × List (Int) × List (Int) × List (Str) × List (Str) × (List (Str × Str × Int × Int × Int × Int))) :=
 some (([97#8]:Str),([4865,4867]:List (Int)),([29,23]:List (Int)),([]:List (Str)),([]:List (Str)),([]:List (Str × Str × Int × Int × Int × Int)))
set_option maxHeartbeats 4000000 in
set_option maxRecDepth 20000 in
theorem F24_calls (r:Str × List (Int) × List (Int) × List (Str) × List (Str) × (List (Str × Str × Int × Int × Int × Int))) (H:halberdlaw24_Client=some r) :
  Does Tryz.prog 24 [] [] [] (Γ:=Nat × Nat × Adr × Adr × Adr) (fun g=>aG [(1,[vb false]),(1,[sl (some (g.1,0)) ((r.2.1).length) ((r.2.1++([]:List (Int))).length)]),(1,[sl (some (g.2.1,0)) ((r.2.2.1).length) ((r.2.2.1++([]:List (Int))).length)]),(1,[sl g.2.2.1 ((r.2.2.2.1).length) ((r.2.2.2.1++([]:List (Str))).length)]),(1,[vs ([]:Str)]),(1,[sl g.2.2.2.1 ((r.2.2.2.2.1).length) ((r.2.2.2.2.1++([]:List (Str))).length)]),(1,[vs r.1]),(1,[vi 0]),(1,[vs ([]:Str)]),(1,[sl g.2.2.2.2 ((r.2.2.2.2.2).length) ((r.2.2.2.2.2++([]:List (Str × Str × Int × Int × Int × Int))).length)]),(1,[vs ([]:Str)]),(1,[vi 1000]),(1,[vi 0]),(1,[vi 10]),(1,[vi 33290])]) (fun g=>[⟨some (g.1,0),eI (r.2.1++([]:List (Int)))⟩,⟨some (g.2.1,0),eI (r.2.2.1++([]:List (Int)))⟩,⟨g.2.2.1,eS (r.2.2.2.1++([]:List (Str)))⟩,⟨g.2.2.2.1,eS (r.2.2.2.2.1++([]:List (Str)))⟩,⟨g.2.2.2.2,eF (fun p:Str × Str × Int × Int × Int × Int=>[vs p.1,vs p.2.1,vi p.2.2.1,vi p.2.2.2.1,vi p.2.2.2.2.1,vi p.2.2.2.2.2]) (r.2.2.2.2.2++([]:List (Str × Str × Int × Int × Int × Int)))⟩]):=by
 intro w hmem hro hd
 refine calls_of (N:=4) (m0:=[]) func24 rfl ntmps24 (argM_ok []) rfl hmem hro hd ?_
 unfold halberdlaw24_Client at H
 refine TC_seq (TC_region (TLe (E_allocP [(1,[vb false]),(1,[sl none 0 0]),(1,[sl none 0 0]),(1,[sl none 0 0]),(1,[vs ([]:Str)]),(1,[sl none 0 0]),(1,[vs ([]:Str)]),(1,[vi 0]),(1,[vs ([]:Str)]),(1,[sl none 0 0]),(1,[vs ([]:Str)]),(1,[vi 0]),(1,[vi 0]),(1,[vi 0]),(1,[vi 0])] inf26 zer26 ⟨rfl,rfl,rfl,rfl,rfl,rfl,rfl,rfl,rfl,rfl,rfl,rfl,rfl,rfl,rfl,trivial⟩) (fun b1=>?_)))
 refine TL_gen5 (Lf:=fun An1 An2 An3 An4 An5=>[⟨An5,eF (fun p:Str × Str × Int × Int × Int × Int=>[vs p.1,vs p.2.1,vi p.2.2.1,vi p.2.2.2.1,vi p.2.2.2.2.1,vi p.2.2.2.2.2]) (([]:List (Str × Str × Int × Int × Int × Int))++([]:List (Str × Str × Int × Int × Int × Int)))⟩,⟨An4,eS (([]:List (Str))++([]:List (Str)))⟩,⟨An3,eS (([]:List (Str))++([]:List (Str)))⟩,⟨An2,eI (([]:List (Int))++([]:List (Int)))⟩,⟨An1,eI (([]:List (Int))++([]:List (Int)))⟩,⟨some (b1,0),[vb false]⟩,⟨some (b1,1),[sl An1 ((([]:List (Int))).length) ((([]:List (Int))++([]:List (Int))).length)]⟩,⟨some (b1,2),[sl An2 ((([]:List (Int))).length) ((([]:List (Int))++([]:List (Int))).length)]⟩,⟨some (b1,3),[sl An3 ((([]:List (Str))).length) ((([]:List (Str))++([]:List (Str))).length)]⟩,⟨some (b1,4),[vs ([]:Str)]⟩,⟨some (b1,5),[sl An4 ((([]:List (Str))).length) ((([]:List (Str))++([]:List (Str))).length)]⟩,⟨some (b1,6),[vs ([]:Str)]⟩,⟨some (b1,7),[vi 0]⟩,⟨some (b1,8),[vs ([]:Str)]⟩,⟨some (b1,9),[sl An5 ((([]:List (Str × Str × Int × Int × Int × Int))).length) ((([]:List (Str × Str × Int × Int × Int × Int))++([]:List (Str × Str × Int × Int × Int × Int))).length)]⟩,⟨some (b1,10),[vs ([]:Str)]⟩,⟨some (b1,11),[vi 0]⟩,⟨some (b1,12),[vi 0]⟩,⟨some (b1,13),[vi 0]⟩,⟨some (b1,14),[vi 0]⟩]) rfl (fun An1 An2 An3 An4 An5=>?_)
 refine TL_nil (TX_next (TC_seq (TC_region (TLe (E_buildSlice (pv:=[(0,vi 4865),(1,vi 4867)]) rfl rfl underlying22 inf3 (s:=1) rfl zer3 rfl rfl rfl (cs:=eI ([4865,4867]:List (Int))) (by kernel_rfl)) (fun b2=>?_)))))
 refine TLe (E_buildSlice (pv:=[(0,vi 29),(1,vi 23)]) rfl rfl underlying22 inf3 (s:=1) rfl zer3 rfl rfl rfl (cs:=eI ([29,23]:List (Int))) (by kernel_rfl)) (fun b3=>?_)
 refine TLv (V_buildStruct (pv:=[(1,sl (some (b2,0)) 2 2),(2,sl (some (b3,0)) 2 2),(6,vs ([97#8]:Str)),(11,vi 1000),(13,vi 10),(14,vi 33290)]) (pl:=[(0,1),(1,1),(2,1),(3,1),(4,1),(5,1),(6,1),(7,1),(8,1),(9,1),(10,1),(11,1),(12,1),(13,1),(14,1)]) rfl rfl underlying26 inf26 places26 zer26 (cs:=flat [(1,[vb false]),(1,[sl (some (b2,0)) 2 2]),(1,[sl (some (b3,0)) 2 2]),(1,[sl none 0 0]),(1,[vs ([]:Str)]),(1,[sl none 0 0]),(1,[vs ([97#8]:Str)]),(1,[vi 0]),(1,[vs ([]:Str)]),(1,[sl none 0 0]),(1,[vs ([]:Str)]),(1,[vi 1000]),(1,[vi 0]),(1,[vi 10]),(1,[vi 33290])]) (by kernel_rfl)) ?_
 refine TLn (E_sp (b:=b1) (o:=0) [7,7,7,7,7,7,7,7,7,7,7,7,7,7,7] [(1,[vb false]),(1,[sl An1 ((([]:List (Int))).length) ((([]:List (Int))++([]:List (Int))).length)]),(1,[sl An2 ((([]:List (Int))).length) ((([]:List (Int))++([]:List (Int))).length)]),(1,[sl An3 ((([]:List (Str))).length) ((([]:List (Str))++([]:List (Str))).length)]),(1,[vs ([]:Str)]),(1,[sl An4 ((([]:List (Str))).length) ((([]:List (Str))++([]:List (Str))).length)]),(1,[vs ([]:Str)]),(1,[vi 0]),(1,[vs ([]:Str)]),(1,[sl An5 ((([]:List (Str × Str × Int × Int × Int × Int))).length) ((([]:List (Str × Str × Int × Int × Int × Int))++([]:List (Str × Str × Int × Int × Int × Int))).length)]),(1,[vs ([]:Str)]),(1,[vi 0]),(1,[vi 0]),(1,[vi 0]),(1,[vi 0])] [(1,[vb false]),(1,[sl (some (b2,0)) 2 2]),(1,[sl (some (b3,0)) 2 2]),(1,[sl none 0 0]),(1,[vs ([]:Str)]),(1,[sl none 0 0]),(1,[vs ([97#8]:Str)]),(1,[vi 0]),(1,[vs ([]:Str)]),(1,[sl none 0 0]),(1,[vs ([]:Str)]),(1,[vi 1000]),(1,[vi 0]),(1,[vi 10]),(1,[vi 33290])] rfl inf26 ⟨rfl,rfl,rfl,rfl,rfl,rfl,rfl,rfl,rfl,rfl,rfl,rfl,rfl,rfl,rfl,trivial⟩ ⟨rfl,rfl,rfl,rfl,rfl,rfl,rfl,rfl,rfl,rfl,rfl,rfl,rfl,rfl,rfl,trivial⟩ ⟨(OneC.cons rfl OneC.nil),(OneC.cons rfl OneC.nil),(OneC.cons rfl OneC.nil),(OneC.cons rfl OneC.nil),(OneC.cons rfl OneC.nil),(OneC.cons rfl OneC.nil),(OneC.cons rfl OneC.nil),(OneC.cons rfl OneC.nil),(OneC.cons rfl OneC.nil),(OneC.cons rfl OneC.nil),(OneC.cons rfl OneC.nil),(OneC.cons rfl OneC.nil),(OneC.cons rfl OneC.nil),(OneC.cons rfl OneC.nil),(OneC.cons rfl OneC.nil),trivial⟩) (fun _=>?_)
 refine TL_gen3 (Lf:=fun An6 An7 An8=>[⟨An8,eF (fun p:Str × Str × Int × Int × Int × Int=>[vs p.1,vs p.2.1,vi p.2.2.1,vi p.2.2.2.1,vi p.2.2.2.2.1,vi p.2.2.2.2.2]) (([]:List (Str × Str × Int × Int × Int × Int))++([]:List (Str × Str × Int × Int × Int × Int)))⟩,⟨An7,eS (([]:List (Str))++([]:List (Str)))⟩,⟨An6,eS (([]:List (Str))++([]:List (Str)))⟩,⟨some (b1,0),[vb false]⟩,⟨some (b1,1),[sl (some (b2,0)) 2 2]⟩,⟨some (b1,2),[sl (some (b3,0)) 2 2]⟩,⟨some (b1,3),[sl An6 ((([]:List (Str))).length) ((([]:List (Str))++([]:List (Str))).length)]⟩,⟨some (b1,4),[vs ([]:Str)]⟩,⟨some (b1,5),[sl An7 ((([]:List (Str))).length) ((([]:List (Str))++([]:List (Str))).length)]⟩,⟨some (b1,6),[vs ([97#8]:Str)]⟩,⟨some (b1,7),[vi 0]⟩,⟨some (b1,8),[vs ([]:Str)]⟩,⟨some (b1,9),[sl An8 ((([]:List (Str × Str × Int × Int × Int × Int))).length) ((([]:List (Str × Str × Int × Int × Int × Int))++([]:List (Str × Str × Int × Int × Int × Int))).length)]⟩,⟨some (b1,10),[vs ([]:Str)]⟩,⟨some (b1,11),[vi 1000]⟩,⟨some (b1,12),[vi 0]⟩,⟨some (b1,13),[vi 10]⟩,⟨some (b1,14),[vi 33290]⟩,⟨some (b3,0),eI ([29,23]:List (Int))⟩,⟨some (b2,0),eI ([4865,4867]:List (Int))⟩,⟨An5,eF (fun p:Str × Str × Int × Int × Int × Int=>[vs p.1,vs p.2.1,vi p.2.2.1,vi p.2.2.2.1,vi p.2.2.2.2.1,vi p.2.2.2.2.2]) (([]:List (Str × Str × Int × Int × Int × Int))++([]:List (Str × Str × Int × Int × Int × Int)))⟩,⟨An4,eS (([]:List (Str))++([]:List (Str)))⟩,⟨An3,eS (([]:List (Str))++([]:List (Str)))⟩,⟨An2,eI (([]:List (Int))++([]:List (Int)))⟩,⟨An1,eI (([]:List (Int))++([]:List (Int)))⟩]) rfl (fun An6 An7 An8=>?_)
 refine TL_reE (j:=19) (A:=some (b2,0)) (cs:=eI ([4865,4867]:List (Int))) (cs':=eI (([4865,4867]:List (Int))++([]:List (Int)))) rfl (congrArg (eI) (List.append_nil _).symm) ?_
 refine TL_reE (j:=4) (A:=some (b1,1)) (cs:=[sl (some (b2,0)) 2 2]) (cs':=[sl (some (b2,0)) ((([4865,4867]:List (Int))).length) ((([4865,4867]:List (Int))++([]:List (Int))).length)]) rfl (congrArg (fun z=>[z]) (sl_row rfl)) ?_
 refine TL_reE (j:=18) (A:=some (b3,0)) (cs:=eI ([29,23]:List (Int))) (cs':=eI (([29,23]:List (Int))++([]:List (Int)))) rfl (congrArg (eI) (List.append_nil _).symm) ?_
 refine TL_reE (j:=5) (A:=some (b1,2)) (cs:=[sl (some (b3,0)) 2 2]) (cs':=[sl (some (b3,0)) ((([29,23]:List (Int))).length) ((([29,23]:List (Int))++([]:List (Int))).length)]) rfl (congrArg (fun z=>[z]) (sl_row rfl)) ?_
 refine TL_nil (TX_next (TC.sub (m':=[(0,_)]) ⟨rfl,trivial⟩ ?_))
 refine TC.pull (is:=[3,3,17,3,15,3,2,2,2,1,1,1,1,1,0,0,0,0,0,0]) (L':=[_,_,_,_,_,_,_,_,_,_,_,_,_,_,_,_,_,_,_,_]) rfl ?_
 refine TC_ret ?_
 obtain rfl:=sj H
 exact TX_ret (rs:=[.cell 0 26]) (vs:=[aG [(1,[vb false]),(1,[sl (some (b2,0)) ((([4865,4867]:List (Int))).length) ((([4865,4867]:List (Int))++([]:List (Int))).length)]),(1,[sl (some (b3,0)) ((([29,23]:List (Int))).length) ((([29,23]:List (Int))++([]:List (Int))).length)]),(1,[sl An6 ((([]:List (Str))).length) ((([]:List (Str))++([]:List (Str))).length)]),(1,[vs ([]:Str)]),(1,[sl An7 ((([]:List (Str))).length) ((([]:List (Str))++([]:List (Str))).length)]),(1,[vs ([97#8]:Str)]),(1,[vi 0]),(1,[vs ([]:Str)]),(1,[sl An8 ((([]:List (Str × Str × Int × Int × Int × Int))).length) ((([]:List (Str × Str × Int × Int × Int × Int))++([]:List (Str × Str × Int × Int × Int × Int))).length)]),(1,[vs ([]:Str)]),(1,[vi 1000]),(1,[vi 0]),(1,[vi 10]),(1,[vi 33290])]]) rfl ⟨(Res_agg (n:=15) (cs:=flat [(1,[vb false]),(1,[sl (some (b2,0)) ((([4865,4867]:List (Int))).length) ((([4865,4867]:List (Int))++([]:List (Int))).length)]),(1,[sl (some (b3,0)) ((([29,23]:List (Int))).length) ((([29,23]:List (Int))++([]:List (Int))).length)]),(1,[sl An6 ((([]:List (Str))).length) ((([]:List (Str))++([]:List (Str))).length)]),(1,[vs ([]:Str)]),(1,[sl An7 ((([]:List (Str))).length) ((([]:List (Str))++([]:List (Str))).length)]),(1,[vs ([97#8]:Str)]),(1,[vi 0]),(1,[vs ([]:Str)]),(1,[sl An8 ((([]:List (Str × Str × Int × Int × Int × Int))).length) ((([]:List (Str × Str × Int × Int × Int × Int))++([]:List (Str × Str × Int × Int × Int × Int))).length)]),(1,[vs ([]:Str)]),(1,[vi 1000]),(1,[vi 0]),(1,[vi 10]),(1,[vi 33290])]) rfl (by simp) (SrcEnts (b:=b1) [(1,[vb false]),(1,[sl (some (b2,0)) ((([4865,4867]:List (Int))).length) ((([4865,4867]:List (Int))++([]:List (Int))).length)]),(1,[sl (some (b3,0)) ((([29,23]:List (Int))).length) ((([29,23]:List (Int))++([]:List (Int))).length)]),(1,[sl An6 ((([]:List (Str))).length) ((([]:List (Str))++([]:List (Str))).length)]),(1,[vs ([]:Str)]),(1,[sl An7 ((([]:List (Str))).length) ((([]:List (Str))++([]:List (Str))).length)]),(1,[vs ([97#8]:Str)]),(1,[vi 0]),(1,[vs ([]:Str)]),(1,[sl An8 ((([]:List (Str × Str × Int × Int × Int × Int))).length) ((([]:List (Str × Str × Int × Int × Int × Int))++([]:List (Str × Str × Int × Int × Int × Int))).length)]),(1,[vs ([]:Str)]),(1,[vi 1000]),(1,[vi 0]),(1,[vi 10]),(1,[vi 33290])] 0 ⟨rfl,rfl,rfl,rfl,rfl,rfl,rfl,rfl,rfl,rfl,rfl,rfl,rfl,rfl,rfl,trivial⟩ (AllSrc.all (M:=ents b1 0 [(1,[vb false]),(1,[sl (some (b2,0)) ((([4865,4867]:List (Int))).length) ((([4865,4867]:List (Int))++([]:List (Int))).length)]),(1,[sl (some (b3,0)) ((([29,23]:List (Int))).length) ((([29,23]:List (Int))++([]:List (Int))).length)]),(1,[sl An6 ((([]:List (Str))).length) ((([]:List (Str))++([]:List (Str))).length)]),(1,[vs ([]:Str)]),(1,[sl An7 ((([]:List (Str))).length) ((([]:List (Str))++([]:List (Str))).length)]),(1,[vs ([97#8]:Str)]),(1,[vi 0]),(1,[vs ([]:Str)]),(1,[sl An8 ((([]:List (Str × Str × Int × Int × Int × Int))).length) ((([]:List (Str × Str × Int × Int × Int × Int))++([]:List (Str × Str × Int × Int × Int × Int))).length)]),(1,[vs ([]:Str)]),(1,[vi 1000]),(1,[vi 0]),(1,[vi 10]),(1,[vi 33290])]) ⟨Src.own (j:=0) rfl,Src.own (j:=1) rfl,Src.own (j:=3) rfl,Src.own (j:=5) rfl,Src.own (j:=7) rfl,Src.own (j:=8) rfl,Src.own (j:=10) rfl,Src.own (j:=11) rfl,Src.own (j:=12) rfl,Src.own (j:=13) rfl,Src.own (j:=15) rfl,Src.own (j:=16) rfl,Src.own (j:=17) rfl,Src.own (j:=18) rfl,Src.own (j:=19) rfl,trivial⟩)) isAgg26 inf26 rfl (by simp [flat])),trivial⟩ (fun w' hs'=>⟨(b2,b3,An6,An7,An8),rfl,Step.left (Step.pulled (is:=[2,3,4,6,10]) (A:=[⟨some (b2,0),eI (([4865,4867]:List (Int))++([]:List (Int)))⟩,⟨some (b3,0),eI (([29,23]:List (Int))++([]:List (Int)))⟩,⟨An6,eS (([]:List (Str))++([]:List (Str)))⟩,⟨An7,eS (([]:List (Str))++([]:List (Str)))⟩,⟨An8,eF (fun p:Str × Str × Int × Int × Int × Int=>[vs p.1,vs p.2.1,vi p.2.2.1,vi p.2.2.2.1,vi p.2.2.2.2.1,vi p.2.2.2.2.2]) (([]:List (Str × Str × Int × Int × Int × Int))++([]:List (Str × Str × Int × Int × Int × Int)))⟩]) hs' rfl)⟩)
end Go.Proofs
end

section
namespace Go.Proofs
open Go Go.Kx
open TryzI Tryz
def halberdlaw24_z (k:Int):Option (Str) :=
 if 0≤k∧k≤17592186044416 then (if (List.replicate ((k).toNat) 0#8).length=(k).toNat then (ltt (List.replicate ((k).toNat) 0#8) fun (x1:Str)=>(some x1)) else none) else none
set_option maxHeartbeats 4000000 in
set_option maxRecDepth 20000 in
theorem F26_calls (k:Int) (r:Str) (H:halberdlaw24_z k=some r) :
  Does Tryz.prog 26 [vi k] [] [] (Γ:=Unit) (fun g=>vs r) (fun g=>[]):=by
 intro w hmem hro hd
 refine calls_of (N:=6) (m0:=[(0,vi k)]) func26 rfl ntmps26 (argM_ok [vi k]) rfl hmem hro hd ?_
 unfold halberdlaw24_z at H
 refine TC_seq (TC_region (TVa ?_))
 refine TL_nil (TX_next (TC_seq (TC_region (TVm ?_))))
 obtain ⟨h1,H⟩:=if_elim H
 refine TLe (E_mk1 rfl rfl underlying86 inf5 (z:=v8 0#8) rfl rfl rfl (B:=1) rfl h1.1 (Int.le_refl _) (mk_b 1 rfl h1) (mk_c h1) (n':=(k).toNat) (c':=(k).toNat) rfl rfl (cs:=e8 (List.replicate ((k).toNat) 0#8)) (rep_map (f:=v8))) (fun b1=>?_)
 obtain ⟨h2,H⟩:=if_elim H
 refine TLv (V_b2s rfl underlying86 underlying5 underlying9 (.o 0) h2) ?_
 refine TVa ?_
 obtain ⟨x1,hx1,H⟩:=ltt_elim H
 refine TLr 2 (congrArg vs hx1) ?_
 refine TL_nil (TX_next (TC_ret ?_))
 obtain rfl:=sj H
 exact TX1
end Go.Proofs
end

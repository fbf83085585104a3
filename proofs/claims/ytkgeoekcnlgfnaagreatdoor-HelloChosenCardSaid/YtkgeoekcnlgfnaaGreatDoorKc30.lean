/-
  Part 30 of the proof of what several laws share.
-/
import Derived.Test.YtkgeoekcnlgfnaaGreatDoorKc1
import Derived.Test.YtkgeoekcnlgfnaaGreatDoorKc2
import Derived.Test.YtkgeoekcnlgfnaaGreatDoorKc3
import Derived.Test.YtkgeoekcnlgfnaaGreatDoorKc4
import Derived.Test.YtkgeoekcnlgfnaaGreatDoorKc5
import Derived.Test.YtkgeoekcnlgfnaaGreatDoorKc6
import Derived.Test.YtkgeoekcnlgfnaaGreatDoorKc7
import Derived.Test.YtkgeoekcnlgfnaaGreatDoorKc8
import Derived.Test.YtkgeoekcnlgfnaaGreatDoorKc9
import Derived.Test.YtkgeoekcnlgfnaaGreatDoorKc10
import Derived.Test.YtkgeoekcnlgfnaaGreatDoorKc11
import Derived.Test.YtkgeoekcnlgfnaaGreatDoorKc12
import Derived.Test.YtkgeoekcnlgfnaaGreatDoorKc13
import Derived.Test.YtkgeoekcnlgfnaaGreatDoorKc14
import Derived.Test.YtkgeoekcnlgfnaaGreatDoorKc15
import Derived.Test.YtkgeoekcnlgfnaaGreatDoorKc16
import Derived.Test.YtkgeoekcnlgfnaaGreatDoorKc17
import Derived.Test.YtkgeoekcnlgfnaaGreatDoorKc18
import Derived.Test.YtkgeoekcnlgfnaaGreatDoorKc19
import Derived.Test.YtkgeoekcnlgfnaaGreatDoorKc20
import Derived.Test.YtkgeoekcnlgfnaaGreatDoorKc21
import Derived.Test.YtkgeoekcnlgfnaaGreatDoorKc22
import Derived.Test.YtkgeoekcnlgfnaaGreatDoorKc23
import Derived.Test.YtkgeoekcnlgfnaaGreatDoorKc24
import Derived.Test.YtkgeoekcnlgfnaaGreatDoorKc27
import Derived.Test.YtkgeoekcnlgfnaaGreatDoorKc28
import Derived.Test.YtkgeoekcnlgfnaaGreatDoorKc29
set_option linter.unusedVariables false
set_option linter.unusedSimpArgs false
section
namespace Go.Proofs
open Go Go.Kx
open TryzI Tryz
def halberdlaw24_HelloChosen.b0 (c_Suites:List (Int)) (m_Suites:List (Int)) (r_2:Int × Int × Str × Bool × Bool × Int) (s0:Int):Option ((Int) ⊕ ((Unit) ⊕ (Bool))) :=
 if s0<((c_Suites).length:Int) then (if 0≤s0∧s0<((c_Suites).length:Int) then (if (lg c_Suites ((s0).toNat)) ≠ r_2.1 then (if 0≤s0∧s0<((c_Suites).length:Int) then ((halberdlaw24_has m_Suites (lg c_Suites ((s0).toNat))).bind fun (r_3:Bool)=>(if r_3=true then (some (.inr (.inr false))) else (some (.inl (w64 (s0+1)))))) else none) else (some (.inr (.inl ())))) else none) else (some (.inr (.inl ())))
def halberdlaw24_HelloChosen.b1 (m_Shares:List (Int × Str)) (r_2:Int × Int × Str × Bool × Bool × Int) (s1:Str × Int):Option ((Str × Int) ⊕ (Str)) :=
 if s1.2<((m_Shares).length:Int) then (if 0≤s1.2∧s1.2<((m_Shares).length:Int) then (if ((lg m_Shares ((s1.2).toNat)).1)=r_2.2.1 then (if 0≤s1.2∧s1.2<((m_Shares).length:Int) then (ltt ((lg m_Shares ((s1.2).toNat)).2) fun (found1:Str)=>(ltt (w64 (s1.2+1)) fun (i1:Int)=>(some (.inl (found1,i1))))) else none) else (ltt (w64 (s1.2+1)) fun (i2:Int)=>(some (.inl (s1.1,i2))))) else none) else (some (.inr s1.1))
def halberdlaw24_HelloChosen.b2 (m_Shares:List (Int × Str)) (r_2:Int × Int × Str × Bool × Bool × Int) (s2:Bool × Int):Option ((Bool × Int) ⊕ (Bool)) :=
 if s2.2<((m_Shares).length:Int) then (if s2.1=true then (ltt (w64 (s2.2+1)) fun (i3:Int)=>(some (.inl (true,i3)))) else (if 0≤s2.2∧s2.2<((m_Shares).length:Int) then (ltt (decide (((lg m_Shares ((s2.2).toNat)).1)=r_2.2.1)) fun (there1:Bool)=>(ltt (w64 (s2.2+1)) fun (i4:Int)=>(some (.inl (there1,i4))))) else none)) else (some (.inr s2.1))
def halberdlaw24_HelloChosen (c_Server:Bool) (c_Suites:List (Int)) (c_Groups:List (Int)) (c_Chain:List (Str)) (c_Key:Str) (c_Roots:List (Str)) (c_Name:Str) (c_Tickets:Int) (c_Seal:Str) (c_Psk:List (Str × Str × Int × Int × Int × Int)) (c_Tape:Str) (c_Clock:Int) (c_Pad:Int) (c_Limit:Int) (c_Ring:Int) (m_Kind:Int) (m_Random:Str) (m_Session:Str) (m_Suites:List (Int)) (m_Name:Str) (m_Versions:List (Int)) (m_Groups:List (Int)) (m_Schemes:List (Int)) (m_Modes:List (Int)) (m_Shares:List (Int × Str)) (m_Identities:List (Str × Int)) (m_Binders:List (Str)) (m_Psk:Int) (m_Others:List (Int)) (m_Certs:List (Str)) (m_Scheme:Int) (m_Data:Str) (m_Life:Int) (m_Add:Int) (m_Nonce:Str) (m_Update:Int) (again:Bool) (group:Int):Option (Bool) :=
 (halberdlaw24_awake).bind fun (r_1:Bool)=>(if (!r_1)=true then (some false) else ((hello_Choose c_Server c_Suites c_Groups c_Chain c_Key c_Roots c_Name c_Tickets c_Seal c_Psk c_Tape c_Clock c_Pad c_Limit c_Ring m_Kind m_Random m_Session m_Suites m_Name m_Versions m_Groups m_Schemes m_Modes m_Shares m_Identities m_Binders m_Psk m_Others m_Certs m_Scheme m_Data m_Life m_Add m_Nonce m_Update again group).bind fun (r_2:Int × Int × Str × Bool × Bool × Int)=>(if 0≤r_2.2.2.2.2.2 then (ltt (Lf.all [Lf.i r_2.1,Lf.i r_2.2.1,Lf.s r_2.2.2.1,Lf.b r_2.2.2.2.1,Lf.b r_2.2.2.2.2.1,Lf.i r_2.2.2.2.2.2] [Lf.i 0,Lf.i 0,Lf.s ([]:Str),Lf.b false,Lf.b false,Lf.i r_2.2.2.2.2.2]) fun (x1:Bool)=>(some x1)) else ((if r_2.2.2.2.2.2 ≠ (-1) then (some true) else ((hello_May c_Server c_Suites c_Groups c_Chain c_Key c_Roots c_Name c_Tickets c_Seal c_Psk c_Tape c_Clock c_Pad c_Limit c_Ring).bind fun (r_8:Bool)=>(if (!r_8)=true then (some true) else (if (!c_Server)=true then (some true) else (if m_Kind ≠ 1 then (some true) else ((halberdlaw24_has m_Suites r_2.1).bind fun (r_9:Bool)=>(if (!r_9)=true then (some true) else ((halberdlaw24_has m_Groups r_2.2.1).bind fun (r_10:Bool)=>(if (!r_10)=true then (some true) else ((halberdlaw24_has m_Versions 772).bind fun (r_11:Bool)=>(some (!r_11)))))))))))).bind fun (j1:Bool)=>(if j1=true then (some false) else ((loop (halberdlaw24_HelloChosen.b0 c_Suites m_Suites r_2) BIG 0).bind fun (t_1:(Unit) ⊕ (Bool))=>(match t_1 with | .inl t_1=>((loop (halberdlaw24_HelloChosen.b1 m_Shares r_2) BIG (([]:Str),0)).bind fun (t_2:Str)=>((loop (halberdlaw24_HelloChosen.b2 m_Shares r_2) BIG (false,0)).bind fun (t_3:Bool)=>(if (r_2.2.2.2.1 == (!t_3))=true then (if r_2.2.2.1=t_2 then (if r_2.2.2.2.2.1=true then (if (!r_2.2.2.2.2.1)=true then (some true) else (if 0<((m_Identities).length:Int) then ((halberdlaw24_has m_Modes 1).bind fun (r_4:Bool)=>(if r_4=true then (ltt (decide (((c_Seal).length:Int)=32)) fun (x2:Bool)=>(some x2)) else (some false))) else (some false))) else (if r_2.2.2.2.1=true then (if (!r_2.2.2.2.2.1)=true then (some true) else (if 0<((m_Identities).length:Int) then ((halberdlaw24_has m_Modes 1).bind fun (r_5:Bool)=>(if r_5=true then (ltt (decide (((c_Seal).length:Int)=32)) fun (x3:Bool)=>(some x3)) else (some false))) else (some false))) else ((halberdlaw24_has m_Schemes 1027).bind fun (r_6:Bool)=>(if r_6=true then (if (!r_2.2.2.2.2.1)=true then (some true) else (if 0<((m_Identities).length:Int) then ((halberdlaw24_has m_Modes 1).bind fun (r_7:Bool)=>(if r_7=true then (ltt (decide (((c_Seal).length:Int)=32)) fun (x4:Bool)=>(some x4)) else (some false))) else (some false))) else (some false))))) else (some false)) else (some false)))) | .inr rv=>some rv)))))))
set_option maxHeartbeats 4000000 in
set_option maxRecDepth 20000 in
theorem F4_calls (Ac_Suites:Adr) (cc_Suites:Nat) (Ac_Groups:Adr) (cc_Groups:Nat) (Ac_Chain:Adr) (cc_Chain:Nat) (Ac_Roots:Adr) (cc_Roots:Nat) (Ac_Psk:Adr) (cc_Psk:Nat) (Am_Suites:Adr) (cm_Suites:Nat) (Am_Versions:Adr) (cm_Versions:Nat) (Am_Groups:Adr) (cm_Groups:Nat) (Am_Schemes:Adr) (cm_Schemes:Nat) (Am_Modes:Adr) (cm_Modes:Nat) (Am_Shares:Adr) (cm_Shares:Nat) (Am_Identities:Adr) (cm_Identities:Nat) (Am_Binders:Adr) (cm_Binders:Nat) (Am_Others:Adr) (cm_Others:Nat) (Am_Certs:Adr) (cm_Certs:Nat) (c_Server:Bool) (c_Suites:List (Int)) (c_Groups:List (Int)) (c_Chain:List (Str)) (c_Key:Str) (c_Roots:List (Str)) (c_Name:Str) (c_Tickets:Int) (c_Seal:Str) (c_Psk:List (Str × Str × Int × Int × Int × Int)) (c_Tape:Str) (c_Clock:Int) (c_Pad:Int) (c_Limit:Int) (c_Ring:Int) (m_Kind:Int) (m_Random:Str) (m_Session:Str) (m_Suites:List (Int)) (m_Name:Str) (m_Versions:List (Int)) (m_Groups:List (Int)) (m_Schemes:List (Int)) (m_Modes:List (Int)) (m_Shares:List (Int × Str)) (m_Identities:List (Str × Int)) (m_Binders:List (Str)) (m_Psk:Int) (m_Others:List (Int)) (m_Certs:List (Str)) (m_Scheme:Int) (m_Data:Str) (m_Life:Int) (m_Add:Int) (m_Nonce:Str) (m_Update:Int) (again:Bool) (group:Int) (hcc_Suites:(c_Suites).length≤cc_Suites) (hcc_Groups:(c_Groups).length≤cc_Groups) (hcc_Chain:(c_Chain).length≤cc_Chain) (hcc_Roots:(c_Roots).length≤cc_Roots) (hcc_Psk:(c_Psk).length≤cc_Psk) (hcm_Suites:(m_Suites).length≤cm_Suites) (hcm_Versions:(m_Versions).length≤cm_Versions) (hcm_Groups:(m_Groups).length≤cm_Groups) (hcm_Schemes:(m_Schemes).length≤cm_Schemes) (hcm_Modes:(m_Modes).length≤cm_Modes) (hcm_Shares:(m_Shares).length≤cm_Shares) (hcm_Identities:(m_Identities).length≤cm_Identities) (hcm_Binders:(m_Binders).length≤cm_Binders) (hcm_Others:(m_Others).length≤cm_Others) (hcm_Certs:(m_Certs).length≤cm_Certs) (r:Bool) (H:halberdlaw24_HelloChosen c_Server c_Suites c_Groups c_Chain c_Key c_Roots c_Name c_Tickets c_Seal c_Psk c_Tape c_Clock c_Pad c_Limit c_Ring m_Kind m_Random m_Session m_Suites m_Name m_Versions m_Groups m_Schemes m_Modes m_Shares m_Identities m_Binders m_Psk m_Others m_Certs m_Scheme m_Data m_Life m_Add m_Nonce m_Update again group=some r) :
  Does Tryz.prog 4 [aG [(1,[vb c_Server]),(1,[sl Ac_Suites ((c_Suites).length) cc_Suites]),(1,[sl Ac_Groups ((c_Groups).length) cc_Groups]),(1,[sl Ac_Chain ((c_Chain).length) cc_Chain]),(1,[vs c_Key]),(1,[sl Ac_Roots ((c_Roots).length) cc_Roots]),(1,[vs c_Name]),(1,[vi c_Tickets]),(1,[vs c_Seal]),(1,[sl Ac_Psk ((c_Psk).length) cc_Psk]),(1,[vs c_Tape]),(1,[vi c_Clock]),(1,[vi c_Pad]),(1,[vi c_Limit]),(1,[vi c_Ring])],aG [(1,[vi m_Kind]),(1,[vs m_Random]),(1,[vs m_Session]),(1,[sl Am_Suites ((m_Suites).length) cm_Suites]),(1,[vs m_Name]),(1,[sl Am_Versions ((m_Versions).length) cm_Versions]),(1,[sl Am_Groups ((m_Groups).length) cm_Groups]),(1,[sl Am_Schemes ((m_Schemes).length) cm_Schemes]),(1,[sl Am_Modes ((m_Modes).length) cm_Modes]),(1,[sl Am_Shares ((m_Shares).length) cm_Shares]),(1,[sl Am_Identities ((m_Identities).length) cm_Identities]),(1,[sl Am_Binders ((m_Binders).length) cm_Binders]),(1,[vi m_Psk]),(1,[sl Am_Others ((m_Others).length) cm_Others]),(1,[sl Am_Certs ((m_Certs).length) cm_Certs]),(1,[vi m_Scheme]),(1,[vs m_Data]),(1,[vi m_Life]),(1,[vi m_Add]),(1,[vs m_Nonce]),(1,[vi m_Update])],vb again,vi group] [] [⟨Ac_Suites,eI c_Suites⟩,⟨Ac_Groups,eI c_Groups⟩,⟨Ac_Chain,eS c_Chain⟩,⟨Ac_Roots,eS c_Roots⟩,⟨Ac_Psk,eF (fun p:Str × Str × Int × Int × Int × Int=>[vs p.1,vs p.2.1,vi p.2.2.1,vi p.2.2.2.1,vi p.2.2.2.2.1,vi p.2.2.2.2.2]) c_Psk⟩,⟨Am_Suites,eI m_Suites⟩,⟨Am_Versions,eI m_Versions⟩,⟨Am_Groups,eI m_Groups⟩,⟨Am_Schemes,eI m_Schemes⟩,⟨Am_Modes,eI m_Modes⟩,⟨Am_Shares,eF (fun p:Int × Str=>[vi p.1,vs p.2]) m_Shares⟩,⟨Am_Identities,eF (fun p:Str × Int=>[vs p.1,vi p.2]) m_Identities⟩,⟨Am_Binders,eS m_Binders⟩,⟨Am_Others,eI m_Others⟩,⟨Am_Certs,eS m_Certs⟩,⟨some (0,0),[hdE]⟩] (Γ:=Unit) (fun g=>vb r) (fun g=>[]):=by
 intro w hmem hro hd
 refine calls_of (N:=182) (m0:=[(0,aG [(1,[vb c_Server]),(1,[sl Ac_Suites ((c_Suites).length) cc_Suites]),(1,[sl Ac_Groups ((c_Groups).length) cc_Groups]),(1,[sl Ac_Chain ((c_Chain).length) cc_Chain]),(1,[vs c_Key]),(1,[sl Ac_Roots ((c_Roots).length) cc_Roots]),(1,[vs c_Name]),(1,[vi c_Tickets]),(1,[vs c_Seal]),(1,[sl Ac_Psk ((c_Psk).length) cc_Psk]),(1,[vs c_Tape]),(1,[vi c_Clock]),(1,[vi c_Pad]),(1,[vi c_Limit]),(1,[vi c_Ring])]),(1,aG [(1,[vi m_Kind]),(1,[vs m_Random]),(1,[vs m_Session]),(1,[sl Am_Suites ((m_Suites).length) cm_Suites]),(1,[vs m_Name]),(1,[sl Am_Versions ((m_Versions).length) cm_Versions]),(1,[sl Am_Groups ((m_Groups).length) cm_Groups]),(1,[sl Am_Schemes ((m_Schemes).length) cm_Schemes]),(1,[sl Am_Modes ((m_Modes).length) cm_Modes]),(1,[sl Am_Shares ((m_Shares).length) cm_Shares]),(1,[sl Am_Identities ((m_Identities).length) cm_Identities]),(1,[sl Am_Binders ((m_Binders).length) cm_Binders]),(1,[vi m_Psk]),(1,[sl Am_Others ((m_Others).length) cm_Others]),(1,[sl Am_Certs ((m_Certs).length) cm_Certs]),(1,[vi m_Scheme]),(1,[vs m_Data]),(1,[vi m_Life]),(1,[vi m_Add]),(1,[vs m_Nonce]),(1,[vi m_Update])]),(2,vb again),(3,vi group)]) func4 rfl ntmps4 (argM_ok [aG [(1,[vb c_Server]),(1,[sl Ac_Suites ((c_Suites).length) cc_Suites]),(1,[sl Ac_Groups ((c_Groups).length) cc_Groups]),(1,[sl Ac_Chain ((c_Chain).length) cc_Chain]),(1,[vs c_Key]),(1,[sl Ac_Roots ((c_Roots).length) cc_Roots]),(1,[vs c_Name]),(1,[vi c_Tickets]),(1,[vs c_Seal]),(1,[sl Ac_Psk ((c_Psk).length) cc_Psk]),(1,[vs c_Tape]),(1,[vi c_Clock]),(1,[vi c_Pad]),(1,[vi c_Limit]),(1,[vi c_Ring])],aG [(1,[vi m_Kind]),(1,[vs m_Random]),(1,[vs m_Session]),(1,[sl Am_Suites ((m_Suites).length) cm_Suites]),(1,[vs m_Name]),(1,[sl Am_Versions ((m_Versions).length) cm_Versions]),(1,[sl Am_Groups ((m_Groups).length) cm_Groups]),(1,[sl Am_Schemes ((m_Schemes).length) cm_Schemes]),(1,[sl Am_Modes ((m_Modes).length) cm_Modes]),(1,[sl Am_Shares ((m_Shares).length) cm_Shares]),(1,[sl Am_Identities ((m_Identities).length) cm_Identities]),(1,[sl Am_Binders ((m_Binders).length) cm_Binders]),(1,[vi m_Psk]),(1,[sl Am_Others ((m_Others).length) cm_Others]),(1,[sl Am_Certs ((m_Certs).length) cm_Certs]),(1,[vi m_Scheme]),(1,[vs m_Data]),(1,[vi m_Life]),(1,[vi m_Add]),(1,[vs m_Nonce]),(1,[vi m_Update])],vb again,vi group]) rfl hmem hro hd ?_
 unfold halberdlaw24_HelloChosen at H
 refine TC_seq (TC_region (TLe (E_boxP [(1,[vb c_Server]),(1,[sl Ac_Suites ((c_Suites).length) cc_Suites]),(1,[sl Ac_Groups ((c_Groups).length) cc_Groups]),(1,[sl Ac_Chain ((c_Chain).length) cc_Chain]),(1,[vs c_Key]),(1,[sl Ac_Roots ((c_Roots).length) cc_Roots]),(1,[vs c_Name]),(1,[vi c_Tickets]),(1,[vs c_Seal]),(1,[sl Ac_Psk ((c_Psk).length) cc_Psk]),(1,[vs c_Tape]),(1,[vi c_Clock]),(1,[vi c_Pad]),(1,[vi c_Limit]),(1,[vi c_Ring])] rfl rfl ⟨rfl,rfl,rfl,rfl,rfl,rfl,rfl,rfl,rfl,rfl,rfl,rfl,rfl,rfl,rfl,trivial⟩) (fun b1=>?_)))
 refine TLe (E_boxP [(1,[vi m_Kind]),(1,[vs m_Random]),(1,[vs m_Session]),(1,[sl Am_Suites ((m_Suites).length) cm_Suites]),(1,[vs m_Name]),(1,[sl Am_Versions ((m_Versions).length) cm_Versions]),(1,[sl Am_Groups ((m_Groups).length) cm_Groups]),(1,[sl Am_Schemes ((m_Schemes).length) cm_Schemes]),(1,[sl Am_Modes ((m_Modes).length) cm_Modes]),(1,[sl Am_Shares ((m_Shares).length) cm_Shares]),(1,[sl Am_Identities ((m_Identities).length) cm_Identities]),(1,[sl Am_Binders ((m_Binders).length) cm_Binders]),(1,[vi m_Psk]),(1,[sl Am_Others ((m_Others).length) cm_Others]),(1,[sl Am_Certs ((m_Certs).length) cm_Certs]),(1,[vi m_Scheme]),(1,[vs m_Data]),(1,[vi m_Life]),(1,[vi m_Add]),(1,[vs m_Nonce]),(1,[vi m_Update])] rfl rfl ⟨rfl,rfl,rfl,rfl,rfl,rfl,rfl,rfl,rfl,rfl,rfl,rfl,rfl,rfl,rfl,rfl,rfl,rfl,rfl,rfl,rfl,trivial⟩) (fun b2=>?_)
 refine TVa ?_
 refine TL_nil (TX_next (TC.sub (m':=[(2,_),(3,_),(4,_),(5,_)]) ⟨rfl,rfl,rfl,rfl,trivial⟩ ?_))
 refine TC.pull (is:=(rp 15 21++rp 21 0)) (L':=[_,_,_,_,_,_,_,_,_,_,_,_,_,_,_,_,_,_,_,_,_,_,_,_,_,_,_,_,_,_,_,_,_,_,_,_]) rfl ?_
 refine TC_seq (TC_seq (TC_region ?_))
 obtain ⟨r_1,hr_1,H⟩:=bind_elim H
 refine TLe (E_c0 (F22_calls r_1 hr_1) call22 ⟨.r 15,trivial⟩) (fun g_1=>?_)
 refine TLv (V_un rfl (fun w=>notB w r_1)) ?_
 refine TL_nil (TX_next (TCb H (fun hc H=>?_) (fun hc H=>?_)))
 ·refine TC_seq (TC_region (TVa ?_))
  refine TL_nil (TX_next (TC_ret (TX_then_ret ?_)))
  obtain rfl:=sj H
  exact TX1
 ·refine TC_skip (TX_next (TC_seq (TC_region (TLv (V_lp (b:=b1) (o:=0) (n:=15) (ps:=[(1,_),(1,_),(1,_),(1,_),(1,_),(1,_),(1,_),(1,_),(1,_),(1,_),(1,_),(1,_),(1,_),(1,_),(1,_)]) ⟨.o 0, .o 1, .o 2, .o 3, .o 4, .o 5, .o 6, .o 7, .o 8, .o 9, .o 10, .o 11, .o 12, .o 13, .o 14,trivial⟩ isAgg26 inf26) ?_))))
  refine TLv (V_lp (b:=b2) (o:=0) (n:=21) (ps:=[(1,_),(1,_),(1,_),(1,_),(1,_),(1,_),(1,_),(1,_),(1,_),(1,_),(1,_),(1,_),(1,_),(1,_),(1,_),(1,_),(1,_),(1,_),(1,_),(1,_),(1,_)]) ⟨.o 15, .o 16, .o 17, .o 18, .o 19, .o 20, .o 21, .o 22, .o 23, .o 24, .o 25, .o 26, .o 27, .o 28, .o 29, .o 30, .o 31, .o 32, .o 33, .o 34, .o 35,trivial⟩ isAgg30 inf30) ?_
  refine TVm ?_
  refine TVm ?_
  obtain ⟨r_2,hr_2,H⟩:=bind_elim H
  refine TLe (E_c0 (F12_calls Ac_Suites cc_Suites Ac_Groups cc_Groups Ac_Chain cc_Chain Ac_Roots cc_Roots Ac_Psk cc_Psk Am_Suites cm_Suites Am_Versions cm_Versions Am_Groups cm_Groups Am_Schemes cm_Schemes Am_Modes cm_Modes Am_Shares cm_Shares Am_Identities cm_Identities Am_Binders cm_Binders Am_Others cm_Others Am_Certs cm_Certs c_Server c_Suites c_Groups c_Chain c_Key c_Roots c_Name c_Tickets c_Seal c_Psk c_Tape c_Clock c_Pad c_Limit c_Ring m_Kind m_Random m_Session m_Suites m_Name m_Versions m_Groups m_Schemes m_Modes m_Shares m_Identities m_Binders m_Psk m_Others m_Certs m_Scheme m_Data m_Life m_Add m_Nonce m_Update again group hcc_Suites hcc_Groups hcc_Chain hcc_Roots hcc_Psk hcm_Suites hcm_Versions hcm_Groups hcm_Schemes hcm_Modes hcm_Shares hcm_Identities hcm_Binders hcm_Others hcm_Certs r_2 hr_2) call12 ⟨.r 0, .r 1, .r 2, .r 3, .r 4, .r 5, .r 6, .r 7, .r 8, .r 9, .r 10, .r 11, .r 12, .r 13, .r 14, .r 15,trivial⟩) (fun g_2=>?_)
  refine TLe (E_ap inf34 zer34) (fun b3=>?_)
  refine TLn (E_sq (b:=b3) (o:=0) [0,0,0,0,0,0] [(1,_),(1,_),(1,_),(1,_),(1,_),(1,_)] rfl inf34) (fun _=>?_)
  refine TL_nil (TX_next (TC.sub (m':=[(4,_),(5,_),(9,_)]) ⟨rfl,rfl,rfl,trivial⟩ ?_))
  refine TC.pull (is:=(rp 36 6++rp 6 0)) (L':=[_,_,_,_,_,_,_,_,_,_,_,_,_,_,_,_,_,_,_,_,_,_,_,_,_,_,_,_,_,_,_,_,_,_,_,_,_,_,_,_,_,_]) rfl ?_
  refine TC_seq (TC_seq (TC_region (TLv (V_fieldE rfl underlying34 rfl rfl inf3 rfl (v:=ptr (some (b3,5)) 0) rfl) ?_)))
  refine TLv (V_load rfl (.o 41) rfl isAgg3) ?_
  refine TLv (V_bin rfl rfl (fun w=>geqI w r_2.2.2.2.2.2 0)) ?_
  refine TL_nil (TX_next (TCd H (fun hc H=>?_) (fun hc H=>?_)))
  ·refine TC_seq (TC_region (TLv (V_lp (b:=b3) (o:=0) (n:=6) (ps:=[(1,_),(1,_),(1,_),(1,_),(1,_),(1,_)]) ⟨.o 36, .o 37, .o 38, .o 39, .o 40, .o 41,trivial⟩ isAgg34 inf34) ?_))
   refine TLv (V_fieldE rfl underlying34 rfl rfl inf3 rfl (v:=ptr (some (b3,5)) 0) rfl) ?_
   refine TLv (V_load rfl (.o 41) rfl isAgg3) ?_
   refine TLv (V_buildStruct (pv:=[(5,vi r_2.2.2.2.2.2)]) (pl:=[(0,1),(1,1),(2,1),(3,1),(4,1),(5,1)]) rfl rfl underlying34 inf34 places34 zer34 (cs:=flat [(1,[vi 0]),(1,[vi 0]),(1,[vs ([]:Str)]),(1,[vb false]),(1,[vb false]),(1,[vi r_2.2.2.2.2.2])]) (by kernel_rfl)) ?_
   refine TLv (V_bin rfl rfl (fun w=>eqlSt w underlying34 (by kernel_rfl) (by kernel_rfl) [Lf.i r_2.1,Lf.i r_2.2.1,Lf.s r_2.2.2.1,Lf.b r_2.2.2.2.1,Lf.b r_2.2.2.2.2.1,Lf.i r_2.2.2.2.2.2] [Lf.i 0,Lf.i 0,Lf.s ([]:Str),Lf.b false,Lf.b false,Lf.i r_2.2.2.2.2.2] (by kernel_rfl) (by kernel_rfl) (by kernel_rfl) (by kernel_rfl))) ?_
   refine TVa ?_
   obtain ⟨x1,hx1,H⟩:=ltt_elim H
   refine TLr 8 (congrArg vb hx1) ?_
   refine TL_nil (TX_next (TC_ret (TX_then_ret ?_)))
   obtain rfl:=sj H
   exact TX1
  ·refine TC_skip (TX_next (TC_seq (TC_seq (TC_region (TLv (V_fieldE rfl underlying34 rfl rfl inf3 rfl (v:=ptr (some (b3,5)) 0) rfl) ?_)))))
   refine TLv (V_load rfl (.o 41) rfl isAgg3) ?_
   refine TLv (V_bin rfl rfl (fun w=>neqI w r_2.2.2.2.2.2 (-1))) ?_
   refine TVm ?_
   obtain ⟨j1,Hj,H⟩:=bind_elim H
   refine TL_join (Γ:=Unit) (fun gj1=>[(4,ptr (some (b1,0)) 0),(5,ptr (some (b2,0)) 0),(9,ptr (some (b3,0)) 0),(69,vb j1)]) (fun gj1=>[⟨some (b1,0),[vb c_Server]⟩,⟨some (b1,1),[sl Ac_Suites ((c_Suites).length) cc_Suites]⟩,⟨some (b1,2),[sl Ac_Groups ((c_Groups).length) cc_Groups]⟩,⟨some (b1,3),[sl Ac_Chain ((c_Chain).length) cc_Chain]⟩,⟨some (b1,4),[vs c_Key]⟩,⟨some (b1,5),[sl Ac_Roots ((c_Roots).length) cc_Roots]⟩,⟨some (b1,6),[vs c_Name]⟩,⟨some (b1,7),[vi c_Tickets]⟩,⟨some (b1,8),[vs c_Seal]⟩,⟨some (b1,9),[sl Ac_Psk ((c_Psk).length) cc_Psk]⟩,⟨some (b1,10),[vs c_Tape]⟩,⟨some (b1,11),[vi c_Clock]⟩,⟨some (b1,12),[vi c_Pad]⟩,⟨some (b1,13),[vi c_Limit]⟩,⟨some (b1,14),[vi c_Ring]⟩,⟨some (b2,0),[vi m_Kind]⟩,⟨some (b2,1),[vs m_Random]⟩,⟨some (b2,2),[vs m_Session]⟩,⟨some (b2,3),[sl Am_Suites ((m_Suites).length) cm_Suites]⟩,⟨some (b2,4),[vs m_Name]⟩,⟨some (b2,5),[sl Am_Versions ((m_Versions).length) cm_Versions]⟩,⟨some (b2,6),[sl Am_Groups ((m_Groups).length) cm_Groups]⟩,⟨some (b2,7),[sl Am_Schemes ((m_Schemes).length) cm_Schemes]⟩,⟨some (b2,8),[sl Am_Modes ((m_Modes).length) cm_Modes]⟩,⟨some (b2,9),[sl Am_Shares ((m_Shares).length) cm_Shares]⟩,⟨some (b2,10),[sl Am_Identities ((m_Identities).length) cm_Identities]⟩,⟨some (b2,11),[sl Am_Binders ((m_Binders).length) cm_Binders]⟩,⟨some (b2,12),[vi m_Psk]⟩,⟨some (b2,13),[sl Am_Others ((m_Others).length) cm_Others]⟩,⟨some (b2,14),[sl Am_Certs ((m_Certs).length) cm_Certs]⟩,⟨some (b2,15),[vi m_Scheme]⟩,⟨some (b2,16),[vs m_Data]⟩,⟨some (b2,17),[vi m_Life]⟩,⟨some (b2,18),[vi m_Add]⟩,⟨some (b2,19),[vs m_Nonce]⟩,⟨some (b2,20),[vi m_Update]⟩,⟨some (b3,0),[vi r_2.1]⟩,⟨some (b3,1),[vi r_2.2.1]⟩,⟨some (b3,2),[vs r_2.2.2.1]⟩,⟨some (b3,3),[vb r_2.2.2.2.1]⟩,⟨some (b3,4),[vb r_2.2.2.2.2.1]⟩,⟨some (b3,5),[vi r_2.2.2.2.2.2]⟩]) ?_ ?_
   ·intro gj1
    refine TX_next (TCb H (fun hc H=>?_) (fun hc H=>?_))
    ·refine TC_seq (TC_region (TVa ?_))
     refine TL_nil (TX_next (TC_ret (TX_then_ret ?_)))
     obtain rfl:=sj H
     exact TX1
    ·refine TC_skip (TX_next (TC_seq (TC_seq (TC_region (TVa ?_)))))
     refine TL_nil (TX_next (TC_block ?_))
     obtain ⟨t_1,Hl,H⟩:=bind_elim H
     refine TC.sub (m':=[(4,_),(5,_),(9,_),(10,_)]) ⟨rfl,rfl,rfl,rfl,trivial⟩ ?_
     refine TC.pull (is:=(rp 42 0)) (L':=[_,_,_,_,_,_,_,_,_,_,_,_,_,_,_,_,_,_,_,_,_,_,_,_,_,_,_,_,_,_,_,_,_,_,_,_,_,_,_,_,_,_]) rfl ?_
     refine TC_loopR (id:=0) (body:=(halberdlaw24_HelloChosen.b0 c_Suites m_Suites r_2)) (σ:=Int) (Γ:=Unit) (Γx:=Unit) (fun s0 g0_=>[(4,ptr (some (b1,0)) 0),(5,ptr (some (b2,0)) 0),(9,ptr (some (b3,0)) 0),(10,vi s0)]) (fun s0 g0_=>[⟨some (b1,0),[vb c_Server]⟩,⟨some (b1,1),[sl Ac_Suites ((c_Suites).length) cc_Suites]⟩,⟨some (b1,2),[sl Ac_Groups ((c_Groups).length) cc_Groups]⟩,⟨some (b1,3),[sl Ac_Chain ((c_Chain).length) cc_Chain]⟩,⟨some (b1,4),[vs c_Key]⟩,⟨some (b1,5),[sl Ac_Roots ((c_Roots).length) cc_Roots]⟩,⟨some (b1,6),[vs c_Name]⟩,⟨some (b1,7),[vi c_Tickets]⟩,⟨some (b1,8),[vs c_Seal]⟩,⟨some (b1,9),[sl Ac_Psk ((c_Psk).length) cc_Psk]⟩,⟨some (b1,10),[vs c_Tape]⟩,⟨some (b1,11),[vi c_Clock]⟩,⟨some (b1,12),[vi c_Pad]⟩,⟨some (b1,13),[vi c_Limit]⟩,⟨some (b1,14),[vi c_Ring]⟩,⟨some (b2,0),[vi m_Kind]⟩,⟨some (b2,1),[vs m_Random]⟩,⟨some (b2,2),[vs m_Session]⟩,⟨some (b2,3),[sl Am_Suites ((m_Suites).length) cm_Suites]⟩,⟨some (b2,4),[vs m_Name]⟩,⟨some (b2,5),[sl Am_Versions ((m_Versions).length) cm_Versions]⟩,⟨some (b2,6),[sl Am_Groups ((m_Groups).length) cm_Groups]⟩,⟨some (b2,7),[sl Am_Schemes ((m_Schemes).length) cm_Schemes]⟩,⟨some (b2,8),[sl Am_Modes ((m_Modes).length) cm_Modes]⟩,⟨some (b2,9),[sl Am_Shares ((m_Shares).length) cm_Shares]⟩,⟨some (b2,10),[sl Am_Identities ((m_Identities).length) cm_Identities]⟩,⟨some (b2,11),[sl Am_Binders ((m_Binders).length) cm_Binders]⟩,⟨some (b2,12),[vi m_Psk]⟩,⟨some (b2,13),[sl Am_Others ((m_Others).length) cm_Others]⟩,⟨some (b2,14),[sl Am_Certs ((m_Certs).length) cm_Certs]⟩,⟨some (b2,15),[vi m_Scheme]⟩,⟨some (b2,16),[vs m_Data]⟩,⟨some (b2,17),[vi m_Life]⟩,⟨some (b2,18),[vi m_Add]⟩,⟨some (b2,19),[vs m_Nonce]⟩,⟨some (b2,20),[vi m_Update]⟩,⟨some (b3,0),[vi r_2.1]⟩,⟨some (b3,1),[vi r_2.2.1]⟩,⟨some (b3,2),[vs r_2.2.2.1]⟩,⟨some (b3,3),[vb r_2.2.2.2.1]⟩,⟨some (b3,4),[vb r_2.2.2.2.2.1]⟩,⟨some (b3,5),[vi r_2.2.2.2.2.2]⟩]) (fun t g=>[(4,ptr (some (b1,0)) 0),(5,ptr (some (b2,0)) 0),(9,ptr (some (b3,0)) 0)]) (fun t g=>[⟨some (b1,0),[vb c_Server]⟩,⟨some (b1,1),[sl Ac_Suites ((c_Suites).length) cc_Suites]⟩,⟨some (b1,2),[sl Ac_Groups ((c_Groups).length) cc_Groups]⟩,⟨some (b1,3),[sl Ac_Chain ((c_Chain).length) cc_Chain]⟩,⟨some (b1,4),[vs c_Key]⟩,⟨some (b1,5),[sl Ac_Roots ((c_Roots).length) cc_Roots]⟩,⟨some (b1,6),[vs c_Name]⟩,⟨some (b1,7),[vi c_Tickets]⟩,⟨some (b1,8),[vs c_Seal]⟩,⟨some (b1,9),[sl Ac_Psk ((c_Psk).length) cc_Psk]⟩,⟨some (b1,10),[vs c_Tape]⟩,⟨some (b1,11),[vi c_Clock]⟩,⟨some (b1,12),[vi c_Pad]⟩,⟨some (b1,13),[vi c_Limit]⟩,⟨some (b1,14),[vi c_Ring]⟩,⟨some (b2,0),[vi m_Kind]⟩,⟨some (b2,1),[vs m_Random]⟩,⟨some (b2,2),[vs m_Session]⟩,⟨some (b2,3),[sl Am_Suites ((m_Suites).length) cm_Suites]⟩,⟨some (b2,4),[vs m_Name]⟩,⟨some (b2,5),[sl Am_Versions ((m_Versions).length) cm_Versions]⟩,⟨some (b2,6),[sl Am_Groups ((m_Groups).length) cm_Groups]⟩,⟨some (b2,7),[sl Am_Schemes ((m_Schemes).length) cm_Schemes]⟩,⟨some (b2,8),[sl Am_Modes ((m_Modes).length) cm_Modes]⟩,⟨some (b2,9),[sl Am_Shares ((m_Shares).length) cm_Shares]⟩,⟨some (b2,10),[sl Am_Identities ((m_Identities).length) cm_Identities]⟩,⟨some (b2,11),[sl Am_Binders ((m_Binders).length) cm_Binders]⟩,⟨some (b2,12),[vi m_Psk]⟩,⟨some (b2,13),[sl Am_Others ((m_Others).length) cm_Others]⟩,⟨some (b2,14),[sl Am_Certs ((m_Certs).length) cm_Certs]⟩,⟨some (b2,15),[vi m_Scheme]⟩,⟨some (b2,16),[vs m_Data]⟩,⟨some (b2,17),[vi m_Life]⟩,⟨some (b2,18),[vi m_Add]⟩,⟨some (b2,19),[vs m_Nonce]⟩,⟨some (b2,20),[vi m_Update]⟩,⟨some (b3,0),[vi r_2.1]⟩,⟨some (b3,1),[vi r_2.2.1]⟩,⟨some (b3,2),[vs r_2.2.2.1]⟩,⟨some (b3,3),[vb r_2.2.2.2.1]⟩,⟨some (b3,4),[vb r_2.2.2.2.2.1]⟩,⟨some (b3,5),[vi r_2.2.2.2.2.2]⟩]) r ?_ BIG 0 () t_1 Hl ?_
     ·intro s0 g0_ r1 H K hK hE hR1
      unfold halberdlaw24_HelloChosen.b0 at H
      refine TC_seq (TC_seq (TC_em (decide (s0<((c_Suites).length:Int))) (fun hg9_6=>?_) (fun hg9_6=>?_)))
      ·replace H:=ite_t (of_decide_eq_true hg9_6) H
       obtain ⟨h1,H⟩:=if_elim H
       refine TA_begin [⟨some (b1,0),[vb c_Server]⟩,⟨some (b1,1),[sl Ac_Suites ((c_Suites).length) cc_Suites]⟩,⟨some (b1,2),[sl Ac_Groups ((c_Groups).length) cc_Groups]⟩,⟨some (b1,3),[sl Ac_Chain ((c_Chain).length) cc_Chain]⟩,⟨some (b1,4),[vs c_Key]⟩,⟨some (b1,5),[sl Ac_Roots ((c_Roots).length) cc_Roots]⟩,⟨some (b1,6),[vs c_Name]⟩,⟨some (b1,7),[vi c_Tickets]⟩,⟨some (b1,8),[vs c_Seal]⟩,⟨some (b1,9),[sl Ac_Psk ((c_Psk).length) cc_Psk]⟩,⟨some (b1,10),[vs c_Tape]⟩,⟨some (b1,11),[vi c_Clock]⟩,⟨some (b1,12),[vi c_Pad]⟩,⟨some (b1,13),[vi c_Limit]⟩,⟨some (b1,14),[vi c_Ring]⟩,⟨some (b2,0),[vi m_Kind]⟩,⟨some (b2,1),[vs m_Random]⟩,⟨some (b2,2),[vs m_Session]⟩,⟨some (b2,3),[sl Am_Suites ((m_Suites).length) cm_Suites]⟩,⟨some (b2,4),[vs m_Name]⟩,⟨some (b2,5),[sl Am_Versions ((m_Versions).length) cm_Versions]⟩,⟨some (b2,6),[sl Am_Groups ((m_Groups).length) cm_Groups]⟩,⟨some (b2,7),[sl Am_Schemes ((m_Schemes).length) cm_Schemes]⟩,⟨some (b2,8),[sl Am_Modes ((m_Modes).length) cm_Modes]⟩,⟨some (b2,9),[sl Am_Shares ((m_Shares).length) cm_Shares]⟩,⟨some (b2,10),[sl Am_Identities ((m_Identities).length) cm_Identities]⟩,⟨some (b2,11),[sl Am_Binders ((m_Binders).length) cm_Binders]⟩,⟨some (b2,12),[vi m_Psk]⟩,⟨some (b2,13),[sl Am_Others ((m_Others).length) cm_Others]⟩,⟨some (b2,14),[sl Am_Certs ((m_Certs).length) cm_Certs]⟩,⟨some (b2,15),[vi m_Scheme]⟩,⟨some (b2,16),[vs m_Data]⟩,⟨some (b2,17),[vi m_Life]⟩,⟨some (b2,18),[vi m_Add]⟩,⟨some (b2,19),[vs m_Nonce]⟩,⟨some (b2,20),[vi m_Update]⟩,⟨some (b3,0),[vi r_2.1]⟩,⟨some (b3,1),[vi r_2.2.1]⟩,⟨some (b3,2),[vs r_2.2.2.1]⟩,⟨some (b3,3),[vb r_2.2.2.2.1]⟩,⟨some (b3,4),[vb r_2.2.2.2.2.1]⟩,⟨some (b3,5),[vi r_2.2.2.2.2.2]⟩] 15 (by kernel_rfl) (N:=15) rfl ?_
       refine TA_tk 0 (rp 42 0) (dn 15 1) rfl rfl (V_move rfl) ?_
       refine TA_tk 1 (rp 42 0) (dn 15 3) rfl rfl (V_fieldE rfl underlying26 rfl rfl inf22 rfl (v:=ptr (some (b1,1)) 0) rfl) ?_
       refine TA_tk 2 (rp 42 0) (dn 15 7) rfl rfl (V_load rfl (.o 1) rfl isAgg22) ?_
       refine TA_tk 3 (rp 42 0) (dn 15 15) rfl rfl (V_len_slice rfl underlying22) ?_
       refine TA_tk 4 (rp 42 0) (dn 15 31) rfl rfl (V_bin rfl rfl (fun w=>lssI w s0 ((c_Suites).length:Int))) ?_
       refine TA_tk 5 (rp 42 0) (dn 15 63) rfl rfl (V_move rfl) ?_
       refine TA_re (d:=75) (v:=vb (decide (s0<((c_Suites).length:Int)))) (v':=vb true) rfl (congrArg vb hg9_6) ?_
       refine TA_tw 6 (rp 42 0) (dn 15 127) rfl rfl (V_fieldE rfl underlying26 rfl rfl inf22 rfl (v:=ptr (some (b1,1)) 0) rfl) ?_
       refine TA_tw 7 (rp 42 0) (dn 15 255) rfl rfl (V_load rfl (.o 1) rfl isAgg22) ?_
       refine TA_tw 8 (rp 42 0) (dn 15 511) rfl rfl (V_move rfl) ?_
       refine TA_tw 9 (rp 42 0) (dn 15 1023) rfl rfl (V_idxSlS (i:=s0) rfl rfl underlying22 inf3 rfl (.r 0) (map_ne (toNat_lt h1.1 h1.2)) h1.1 h1.2 (k:=(s0).toNat) (km1 _)) ?_
       refine TA_tw 10 (rp 42 0) (dn 15 2047) rfl rfl (V_load rfl (.r 0) (get_map (f:=vi) (l:=c_Suites) (toNat_lt h1.1 h1.2)) isAgg3) ?_
       refine TA_tw 11 (rp 42 0) (dn 15 4095) rfl rfl (V_fieldE rfl underlying34 rfl rfl inf3 rfl (v:=ptr (some (b3,0)) 0) rfl) ?_
       refine TA_tw 12 (rp 42 0) (dn 15 8191) rfl rfl (V_load rfl (.o 36) rfl isAgg3) ?_
       refine TA_tw 13 (rp 42 0) (dn 15 16383) rfl rfl (V_bin rfl rfl (fun w=>neqI w (lg c_Suites ((s0).toNat)) r_2.1)) ?_
       refine TA_tk 14 (rp 42 0) (dn 15 32767) rfl rfl (V_pick (b:=true) rfl rfl) ?_
       refine TA_done (by kernel_rfl) ?_ 0
       refine TX_next (TCd H (fun hc H=>?_) (fun hc H=>?_))
       ·refine TC_skip (TX_next (TC_seq (TC_block (TC_seq ?_))))
        obtain ⟨h2,H⟩:=if_elim H
        obtain ⟨r_3,hr_3,H⟩:=bind_elim H
        refine TA_begin [] 8 (by kernel_rfl) (N:=8) rfl ?_
        refine TA_mix (is:=[]) (done':=dn 8 255) [itV 0 87 (ptr (some (b2,3)) 0) [],itV 1 88 (sl Am_Suites ((m_Suites).length) cm_Suites) [0],itV 2 89 (ptr (some (b1,1)) 0) [],itV 3 90 (sl Ac_Suites ((c_Suites).length) cc_Suites) [2],itV 4 91 (vi s0) [],itV 5 92 (ptr Ac_Suites ((s0).toNat)) [3,4],itV 6 93 (vi (lg c_Suites ((s0).toNat))) [5],itV 7 94 (vb r_3) [1,6]] [] 0 (by kernel_rfl) (QP.then (QP.block (QP.then (QP.then (QP.block (QP.then QP.body)))))) (by kernel_rfl) rfl (.v rfl (V_fe underlying30 inf22) (.v rfl (V_load rfl (.o 18) rfl isAgg22) (.v rfl (V_fe underlying26 inf22) (.v rfl (V_load rfl (.o 1) rfl isAgg22) (.v rfl (V_move rfl) (.v rfl (V_idxSlS (i:=s0) rfl rfl underlying22 inf3 rfl (.r 0) (map_ne (toNat_lt h2.1 h2.2)) h2.1 h2.2 (k:=(s0).toNat) (km1 _)) (.v rfl (V_load rfl (.r 0) (get_map (f:=vi) (l:=c_Suites) (toNat_lt h2.1 h2.2)) isAgg3) (.e rfl (E_cu (F23_calls Am_Suites cm_Suites m_Suites (lg c_Suites ((s0).toNat)) hcm_Suites r_3 hr_3) call23 ⟨.r 5,trivial⟩) .nil)))))))) .nil (by kernel_rfl) rfl (fun γ=>?_)
        refine TA_cut [(94,vb r_3),(4,ptr (some (b1,0)) 0),(5,ptr (some (b2,0)) 0),(9,ptr (some (b3,0)) 0),(10,vi s0)] [⟨some (b1,0),[vb c_Server]⟩,⟨some (b1,1),[sl Ac_Suites ((c_Suites).length) cc_Suites]⟩,⟨some (b1,2),[sl Ac_Groups ((c_Groups).length) cc_Groups]⟩,⟨some (b1,3),[sl Ac_Chain ((c_Chain).length) cc_Chain]⟩,⟨some (b1,4),[vs c_Key]⟩,⟨some (b1,5),[sl Ac_Roots ((c_Roots).length) cc_Roots]⟩,⟨some (b1,6),[vs c_Name]⟩,⟨some (b1,7),[vi c_Tickets]⟩,⟨some (b1,8),[vs c_Seal]⟩,⟨some (b1,9),[sl Ac_Psk ((c_Psk).length) cc_Psk]⟩,⟨some (b1,10),[vs c_Tape]⟩,⟨some (b1,11),[vi c_Clock]⟩,⟨some (b1,12),[vi c_Pad]⟩,⟨some (b1,13),[vi c_Limit]⟩,⟨some (b1,14),[vi c_Ring]⟩,⟨some (b2,0),[vi m_Kind]⟩,⟨some (b2,1),[vs m_Random]⟩,⟨some (b2,2),[vs m_Session]⟩,⟨some (b2,3),[sl Am_Suites ((m_Suites).length) cm_Suites]⟩,⟨some (b2,4),[vs m_Name]⟩,⟨some (b2,5),[sl Am_Versions ((m_Versions).length) cm_Versions]⟩,⟨some (b2,6),[sl Am_Groups ((m_Groups).length) cm_Groups]⟩,⟨some (b2,7),[sl Am_Schemes ((m_Schemes).length) cm_Schemes]⟩,⟨some (b2,8),[sl Am_Modes ((m_Modes).length) cm_Modes]⟩,⟨some (b2,9),[sl Am_Shares ((m_Shares).length) cm_Shares]⟩,⟨some (b2,10),[sl Am_Identities ((m_Identities).length) cm_Identities]⟩,⟨some (b2,11),[sl Am_Binders ((m_Binders).length) cm_Binders]⟩,⟨some (b2,12),[vi m_Psk]⟩,⟨some (b2,13),[sl Am_Others ((m_Others).length) cm_Others]⟩,⟨some (b2,14),[sl Am_Certs ((m_Certs).length) cm_Certs]⟩,⟨some (b2,15),[vi m_Scheme]⟩,⟨some (b2,16),[vs m_Data]⟩,⟨some (b2,17),[vi m_Life]⟩,⟨some (b2,18),[vi m_Add]⟩,⟨some (b2,19),[vs m_Nonce]⟩,⟨some (b2,20),[vi m_Update]⟩,⟨some (b3,0),[vi r_2.1]⟩,⟨some (b3,1),[vi r_2.2.1]⟩,⟨some (b3,2),[vs r_2.2.2.1]⟩,⟨some (b3,3),[vb r_2.2.2.2.1]⟩,⟨some (b3,4),[vb r_2.2.2.2.2.1]⟩,⟨some (b3,5),[vi r_2.2.2.2.2.2]⟩] ⟨rfl,rfl,rfl,rfl,rfl,trivial⟩ rfl ?_
        refine TA_done (by kernel_rfl) ?_ 0
        refine TX_next (TCb H (fun hc H=>?_) (fun hc H=>?_))
        ·refine TC_seq (TC_region (TVa ?_))
         refine TL_nil (TX_next (TC_ret (TX_block_ret (TX_then_ret (TX_then_ret (TX_block_ret (TX_then_ret ?_)))))))
         have hrv:=(hR1 _ (Option.some.inj H).symm)
         subst hrv
         exact TX1
        ·refine TC_skip (TX_block_normal (TX_next (TC_region (TVm ?_))))
         refine TLv (V_bin rfl rfl (fun w=>addI w s0 1)) ?_
         refine TVa ?_
         refine TL_nil ?_
         obtain rfl:=sj H
         exact TXk (rp 42 0) (hK (w64 (s0+1)) rfl ())
       ·refine TC_exit (TX_then_exit (TX_then_exit ?_))
        obtain rfl:=sj H
        exact TXj (rp 42 0) (hE () rfl ())
      ·replace H:=ite_f (of_decide_eq_false hg9_6) H
       refine TA_begin [⟨some (b1,0),[vb c_Server]⟩,⟨some (b1,1),[sl Ac_Suites ((c_Suites).length) cc_Suites]⟩,⟨some (b1,2),[sl Ac_Groups ((c_Groups).length) cc_Groups]⟩,⟨some (b1,3),[sl Ac_Chain ((c_Chain).length) cc_Chain]⟩,⟨some (b1,4),[vs c_Key]⟩,⟨some (b1,5),[sl Ac_Roots ((c_Roots).length) cc_Roots]⟩,⟨some (b1,6),[vs c_Name]⟩,⟨some (b1,7),[vi c_Tickets]⟩,⟨some (b1,8),[vs c_Seal]⟩,⟨some (b1,9),[sl Ac_Psk ((c_Psk).length) cc_Psk]⟩,⟨some (b1,10),[vs c_Tape]⟩,⟨some (b1,11),[vi c_Clock]⟩,⟨some (b1,12),[vi c_Pad]⟩,⟨some (b1,13),[vi c_Limit]⟩,⟨some (b1,14),[vi c_Ring]⟩,⟨some (b2,0),[vi m_Kind]⟩,⟨some (b2,1),[vs m_Random]⟩,⟨some (b2,2),[vs m_Session]⟩,⟨some (b2,3),[sl Am_Suites ((m_Suites).length) cm_Suites]⟩,⟨some (b2,4),[vs m_Name]⟩,⟨some (b2,5),[sl Am_Versions ((m_Versions).length) cm_Versions]⟩,⟨some (b2,6),[sl Am_Groups ((m_Groups).length) cm_Groups]⟩,⟨some (b2,7),[sl Am_Schemes ((m_Schemes).length) cm_Schemes]⟩,⟨some (b2,8),[sl Am_Modes ((m_Modes).length) cm_Modes]⟩,⟨some (b2,9),[sl Am_Shares ((m_Shares).length) cm_Shares]⟩,⟨some (b2,10),[sl Am_Identities ((m_Identities).length) cm_Identities]⟩,⟨some (b2,11),[sl Am_Binders ((m_Binders).length) cm_Binders]⟩,⟨some (b2,12),[vi m_Psk]⟩,⟨some (b2,13),[sl Am_Others ((m_Others).length) cm_Others]⟩,⟨some (b2,14),[sl Am_Certs ((m_Certs).length) cm_Certs]⟩,⟨some (b2,15),[vi m_Scheme]⟩,⟨some (b2,16),[vs m_Data]⟩,⟨some (b2,17),[vi m_Life]⟩,⟨some (b2,18),[vi m_Add]⟩,⟨some (b2,19),[vs m_Nonce]⟩,⟨some (b2,20),[vi m_Update]⟩,⟨some (b3,0),[vi r_2.1]⟩,⟨some (b3,1),[vi r_2.2.1]⟩,⟨some (b3,2),[vs r_2.2.2.1]⟩,⟨some (b3,3),[vb r_2.2.2.2.1]⟩,⟨some (b3,4),[vb r_2.2.2.2.2.1]⟩,⟨some (b3,5),[vi r_2.2.2.2.2.2]⟩] 15 (by kernel_rfl) (N:=15) rfl ?_
       refine TA_tk 0 (rp 42 0) (dn 15 1) rfl rfl (V_move rfl) ?_
       refine TA_tk 1 (rp 42 0) (dn 15 3) rfl rfl (V_fieldE rfl underlying26 rfl rfl inf22 rfl (v:=ptr (some (b1,1)) 0) rfl) ?_
       refine TA_tk 2 (rp 42 0) (dn 15 7) rfl rfl (V_load rfl (.o 1) rfl isAgg22) ?_
       refine TA_tk 3 (rp 42 0) (dn 15 15) rfl rfl (V_len_slice rfl underlying22) ?_
       refine TA_tk 4 (rp 42 0) (dn 15 31) rfl rfl (V_bin rfl rfl (fun w=>lssI w s0 ((c_Suites).length:Int))) ?_
       refine TA_tk 5 (rp 42 0) (dn 15 63) rfl rfl (V_move rfl) ?_
       refine TA_re (d:=75) (v:=vb (decide (s0<((c_Suites).length:Int)))) (v':=vb false) rfl (congrArg vb hg9_6) ?_
       refine TA_ts 6 (rp 42 0) (dn 15 127) rfl rfl ?_
       refine TA_ts 7 (rp 42 0) (dn 15 255) rfl rfl ?_
       refine TA_ts 8 (rp 42 0) (dn 15 511) rfl rfl ?_
       refine TA_ts 9 (rp 42 0) (dn 15 1023) rfl rfl ?_
       refine TA_ts 10 (rp 42 0) (dn 15 2047) rfl rfl ?_
       refine TA_ts 11 (rp 42 0) (dn 15 4095) rfl rfl ?_
       refine TA_ts 12 (rp 42 0) (dn 15 8191) rfl rfl ?_
       refine TA_ts 13 (rp 42 0) (dn 15 16383) rfl rfl ?_
       refine TA_tk 14 (rp 42 0) (dn 15 32767) rfl rfl (V_pick (b:=false) rfl rfl) ?_
       refine TA_done (by kernel_rfl) ?_ 0
       refine TX_next (TC_cond_f rfl ?_)
       refine TC_exit (TX_then_exit (TX_then_exit ?_))
       obtain rfl:=sj H
       exact TXj (rp 42 0) (hE () rfl ())
     ·rcases t_1 with t_1 | rv
      ·intro gx1
       dsimp only at H
       refine TX_block_exit (TX_next (TC_seq (TC_region (TVa ?_))))
       refine TL_nil (TX_next (TC_seq (TC_seq (TC_region (TVa ?_)))))
       refine TL_nil (TX_next (TC_block ?_))
       obtain ⟨t_2,Hl,H⟩:=bind_elim H
       refine TC.sub (m':=[(4,_),(5,_),(9,_),(11,_),(12,_)]) ⟨rfl,rfl,rfl,rfl,rfl,trivial⟩ ?_
       refine TC.pull (is:=(rp 42 0)) (L':=[_,_,_,_,_,_,_,_,_,_,_,_,_,_,_,_,_,_,_,_,_,_,_,_,_,_,_,_,_,_,_,_,_,_,_,_,_,_,_,_,_,_]) rfl ?_
       refine TC_loopL (id:=2) (body:=(halberdlaw24_HelloChosen.b1 m_Shares r_2)) (σ:=Str × Int) (Γ:=Unit) (Γx:=Unit) (fun s1 g1_=>[(4,ptr (some (b1,0)) 0),(5,ptr (some (b2,0)) 0),(9,ptr (some (b3,0)) 0),(11,vs s1.1),(12,vi s1.2)]) (fun s1 g1_=>[⟨some (b1,0),[vb c_Server]⟩,⟨some (b1,1),[sl Ac_Suites ((c_Suites).length) cc_Suites]⟩,⟨some (b1,2),[sl Ac_Groups ((c_Groups).length) cc_Groups]⟩,⟨some (b1,3),[sl Ac_Chain ((c_Chain).length) cc_Chain]⟩,⟨some (b1,4),[vs c_Key]⟩,⟨some (b1,5),[sl Ac_Roots ((c_Roots).length) cc_Roots]⟩,⟨some (b1,6),[vs c_Name]⟩,⟨some (b1,7),[vi c_Tickets]⟩,⟨some (b1,8),[vs c_Seal]⟩,⟨some (b1,9),[sl Ac_Psk ((c_Psk).length) cc_Psk]⟩,⟨some (b1,10),[vs c_Tape]⟩,⟨some (b1,11),[vi c_Clock]⟩,⟨some (b1,12),[vi c_Pad]⟩,⟨some (b1,13),[vi c_Limit]⟩,⟨some (b1,14),[vi c_Ring]⟩,⟨some (b2,0),[vi m_Kind]⟩,⟨some (b2,1),[vs m_Random]⟩,⟨some (b2,2),[vs m_Session]⟩,⟨some (b2,3),[sl Am_Suites ((m_Suites).length) cm_Suites]⟩,⟨some (b2,4),[vs m_Name]⟩,⟨some (b2,5),[sl Am_Versions ((m_Versions).length) cm_Versions]⟩,⟨some (b2,6),[sl Am_Groups ((m_Groups).length) cm_Groups]⟩,⟨some (b2,7),[sl Am_Schemes ((m_Schemes).length) cm_Schemes]⟩,⟨some (b2,8),[sl Am_Modes ((m_Modes).length) cm_Modes]⟩,⟨some (b2,9),[sl Am_Shares ((m_Shares).length) cm_Shares]⟩,⟨some (b2,10),[sl Am_Identities ((m_Identities).length) cm_Identities]⟩,⟨some (b2,11),[sl Am_Binders ((m_Binders).length) cm_Binders]⟩,⟨some (b2,12),[vi m_Psk]⟩,⟨some (b2,13),[sl Am_Others ((m_Others).length) cm_Others]⟩,⟨some (b2,14),[sl Am_Certs ((m_Certs).length) cm_Certs]⟩,⟨some (b2,15),[vi m_Scheme]⟩,⟨some (b2,16),[vs m_Data]⟩,⟨some (b2,17),[vi m_Life]⟩,⟨some (b2,18),[vi m_Add]⟩,⟨some (b2,19),[vs m_Nonce]⟩,⟨some (b2,20),[vi m_Update]⟩,⟨some (b3,0),[vi r_2.1]⟩,⟨some (b3,1),[vi r_2.2.1]⟩,⟨some (b3,2),[vs r_2.2.2.1]⟩,⟨some (b3,3),[vb r_2.2.2.2.1]⟩,⟨some (b3,4),[vb r_2.2.2.2.2.1]⟩,⟨some (b3,5),[vi r_2.2.2.2.2.2]⟩]) (fun t g=>[(4,ptr (some (b1,0)) 0),(5,ptr (some (b2,0)) 0),(9,ptr (some (b3,0)) 0),(11,vs t)]) (fun t g=>[⟨some (b1,0),[vb c_Server]⟩,⟨some (b1,1),[sl Ac_Suites ((c_Suites).length) cc_Suites]⟩,⟨some (b1,2),[sl Ac_Groups ((c_Groups).length) cc_Groups]⟩,⟨some (b1,3),[sl Ac_Chain ((c_Chain).length) cc_Chain]⟩,⟨some (b1,4),[vs c_Key]⟩,⟨some (b1,5),[sl Ac_Roots ((c_Roots).length) cc_Roots]⟩,⟨some (b1,6),[vs c_Name]⟩,⟨some (b1,7),[vi c_Tickets]⟩,⟨some (b1,8),[vs c_Seal]⟩,⟨some (b1,9),[sl Ac_Psk ((c_Psk).length) cc_Psk]⟩,⟨some (b1,10),[vs c_Tape]⟩,⟨some (b1,11),[vi c_Clock]⟩,⟨some (b1,12),[vi c_Pad]⟩,⟨some (b1,13),[vi c_Limit]⟩,⟨some (b1,14),[vi c_Ring]⟩,⟨some (b2,0),[vi m_Kind]⟩,⟨some (b2,1),[vs m_Random]⟩,⟨some (b2,2),[vs m_Session]⟩,⟨some (b2,3),[sl Am_Suites ((m_Suites).length) cm_Suites]⟩,⟨some (b2,4),[vs m_Name]⟩,⟨some (b2,5),[sl Am_Versions ((m_Versions).length) cm_Versions]⟩,⟨some (b2,6),[sl Am_Groups ((m_Groups).length) cm_Groups]⟩,⟨some (b2,7),[sl Am_Schemes ((m_Schemes).length) cm_Schemes]⟩,⟨some (b2,8),[sl Am_Modes ((m_Modes).length) cm_Modes]⟩,⟨some (b2,9),[sl Am_Shares ((m_Shares).length) cm_Shares]⟩,⟨some (b2,10),[sl Am_Identities ((m_Identities).length) cm_Identities]⟩,⟨some (b2,11),[sl Am_Binders ((m_Binders).length) cm_Binders]⟩,⟨some (b2,12),[vi m_Psk]⟩,⟨some (b2,13),[sl Am_Others ((m_Others).length) cm_Others]⟩,⟨some (b2,14),[sl Am_Certs ((m_Certs).length) cm_Certs]⟩,⟨some (b2,15),[vi m_Scheme]⟩,⟨some (b2,16),[vs m_Data]⟩,⟨some (b2,17),[vi m_Life]⟩,⟨some (b2,18),[vi m_Add]⟩,⟨some (b2,19),[vs m_Nonce]⟩,⟨some (b2,20),[vi m_Update]⟩,⟨some (b3,0),[vi r_2.1]⟩,⟨some (b3,1),[vi r_2.2.1]⟩,⟨some (b3,2),[vs r_2.2.2.1]⟩,⟨some (b3,3),[vb r_2.2.2.2.1]⟩,⟨some (b3,4),[vb r_2.2.2.2.2.1]⟩,⟨some (b3,5),[vi r_2.2.2.2.2.2]⟩]) ?_ BIG (([]:Str),0) () t_2 Hl ?_
       ·intro s1 g1_ r1 H K hK hE
        unfold halberdlaw24_HelloChosen.b1 at H
        refine TC_seq (TC_seq (TC_region (TVm ?_)))
        refine TLv (V_fieldE rfl underlying30 rfl rfl inf27 rfl (v:=ptr (some (b2,9)) 0) rfl) ?_
        refine TLv (V_load rfl (.o 24) rfl isAgg27) ?_
        refine TLv (V_len_slice rfl underlying27) ?_
        refine TLv (V_bin rfl rfl (fun w=>lssI w s1.2 ((m_Shares).length:Int))) ?_
        refine TL_nil (TX_next (TCd H (fun hc H=>?_) (fun hc H=>?_)))
        ·refine TC_skip (TX_next (TC_seq (TC_block (TC_seq ?_))))
         obtain ⟨h3,H⟩:=if_elim H
         refine TA_begin [] 9 (by kernel_rfl) (N:=9) rfl ?_
         refine TA_mix (is:=[]) (done':=dn 9 511) [itV 0 102 (ptr (some (b2,9)) 0) [],itV 1 103 (sl Am_Shares ((m_Shares).length) cm_Shares) [0],itV 2 104 (vi s1.2) [],itV 3 105 (ptr Am_Shares (((s1.2).toNat) * 2)) [2,1],itV 4 106 (ptr Am_Shares (((s1.2).toNat) * 2+0)) [3],itV 5 107 (vi ((lg m_Shares ((s1.2).toNat)).1)) [4],itV 6 108 (ptr (some (b3,1)) 0) [],itV 7 109 (vi r_2.2.1) [6],itV 8 110 (vb (decide (((lg m_Shares ((s1.2).toNat)).1)=r_2.2.1))) [5,7]] [] 0 (by kernel_rfl) (QP.then (QP.block (QP.then (QP.then (QP.block (QP.then QP.body)))))) (by kernel_rfl) rfl (.v rfl (V_fe underlying30 inf27) (.v rfl (V_load rfl (.o 24) rfl isAgg27) (.v rfl (V_move rfl) (.v rfl (V_idxSlS (i:=s1.2) rfl rfl underlying27 inf50 rfl (.r 10) (eF_ne2 (s:=2) (fun _=>rfl) rfl (toNat_lt h3.1 h3.2)) h3.1 h3.2 (k:=((s1.2).toNat) * 2) rfl) (.v rfl (V_field rfl underlying50 rfl (k:=0) rfl inf3 rfl) (.v rfl (V_load rfl (.r 10) ((get_eF (g:=fun p:Int × Str=>[vi p.1,vs p.2]) (s:=2) (fun _=>rfl) m_Shares ((s1.2).toNat) 0 (toNat_lt h3.1 h3.2) (by decide:0<2)).trans rfl) isAgg3) (.v rfl (V_fe underlying34 inf3) (.v rfl (V_load rfl (.o 37) rfl isAgg3) (.v rfl (V_bin rfl rfl (fun w=>eqlI w ((lg m_Shares ((s1.2).toNat)).1) r_2.2.1)) .nil))))))))) .nil (by kernel_rfl) rfl (fun γ=>?_)
         refine TA_cut [(110,vb (decide (((lg m_Shares ((s1.2).toNat)).1)=r_2.2.1))),(4,ptr (some (b1,0)) 0),(5,ptr (some (b2,0)) 0),(9,ptr (some (b3,0)) 0),(11,vs s1.1),(12,vi s1.2)] [⟨some (b1,0),[vb c_Server]⟩,⟨some (b1,1),[sl Ac_Suites ((c_Suites).length) cc_Suites]⟩,⟨some (b1,2),[sl Ac_Groups ((c_Groups).length) cc_Groups]⟩,⟨some (b1,3),[sl Ac_Chain ((c_Chain).length) cc_Chain]⟩,⟨some (b1,4),[vs c_Key]⟩,⟨some (b1,5),[sl Ac_Roots ((c_Roots).length) cc_Roots]⟩,⟨some (b1,6),[vs c_Name]⟩,⟨some (b1,7),[vi c_Tickets]⟩,⟨some (b1,8),[vs c_Seal]⟩,⟨some (b1,9),[sl Ac_Psk ((c_Psk).length) cc_Psk]⟩,⟨some (b1,10),[vs c_Tape]⟩,⟨some (b1,11),[vi c_Clock]⟩,⟨some (b1,12),[vi c_Pad]⟩,⟨some (b1,13),[vi c_Limit]⟩,⟨some (b1,14),[vi c_Ring]⟩,⟨some (b2,0),[vi m_Kind]⟩,⟨some (b2,1),[vs m_Random]⟩,⟨some (b2,2),[vs m_Session]⟩,⟨some (b2,3),[sl Am_Suites ((m_Suites).length) cm_Suites]⟩,⟨some (b2,4),[vs m_Name]⟩,⟨some (b2,5),[sl Am_Versions ((m_Versions).length) cm_Versions]⟩,⟨some (b2,6),[sl Am_Groups ((m_Groups).length) cm_Groups]⟩,⟨some (b2,7),[sl Am_Schemes ((m_Schemes).length) cm_Schemes]⟩,⟨some (b2,8),[sl Am_Modes ((m_Modes).length) cm_Modes]⟩,⟨some (b2,9),[sl Am_Shares ((m_Shares).length) cm_Shares]⟩,⟨some (b2,10),[sl Am_Identities ((m_Identities).length) cm_Identities]⟩,⟨some (b2,11),[sl Am_Binders ((m_Binders).length) cm_Binders]⟩,⟨some (b2,12),[vi m_Psk]⟩,⟨some (b2,13),[sl Am_Others ((m_Others).length) cm_Others]⟩,⟨some (b2,14),[sl Am_Certs ((m_Certs).length) cm_Certs]⟩,⟨some (b2,15),[vi m_Scheme]⟩,⟨some (b2,16),[vs m_Data]⟩,⟨some (b2,17),[vi m_Life]⟩,⟨some (b2,18),[vi m_Add]⟩,⟨some (b2,19),[vs m_Nonce]⟩,⟨some (b2,20),[vi m_Update]⟩,⟨some (b3,0),[vi r_2.1]⟩,⟨some (b3,1),[vi r_2.2.1]⟩,⟨some (b3,2),[vs r_2.2.2.1]⟩,⟨some (b3,3),[vb r_2.2.2.2.1]⟩,⟨some (b3,4),[vb r_2.2.2.2.2.1]⟩,⟨some (b3,5),[vi r_2.2.2.2.2.2]⟩] ⟨rfl,rfl,rfl,rfl,rfl,rfl,trivial⟩ rfl ?_
         refine TA_done (by kernel_rfl) ?_ 0
         refine TX_next (TCd H (fun hc H=>?_) (fun hc H=>?_))
         ·refine TC_region (TLv (V_fieldE rfl underlying30 rfl rfl inf27 rfl (v:=ptr (some (b2,9)) 0) rfl) ?_)
          refine TLv (V_load rfl (.o 24) rfl isAgg27) ?_
          refine TVm ?_
          obtain ⟨h4,H⟩:=if_elim H
          refine TLv (V_idxSlS (i:=s1.2) rfl rfl underlying27 inf50 rfl (.r 10) (eF_ne2 (s:=2) (fun _=>rfl) rfl (toNat_lt h4.1 h4.2)) h4.1 h4.2 (k:=((s1.2).toNat) * 2) rfl) ?_
          refine TLv (V_field rfl underlying50 rfl (k:=1) rfl inf9 rfl) ?_
          refine TLv (V_load rfl (.r 10) ((get_eF (g:=fun p:Int × Str=>[vi p.1,vs p.2]) (s:=2) (fun _=>rfl) m_Shares ((s1.2).toNat) 1 (toNat_lt h4.1 h4.2) (by decide:1<2)).trans rfl) isAgg9) ?_
          refine TVa ?_
          obtain ⟨found1,hfound1,H⟩:=ltt_elim H
          refine TLr 11 (congrArg vs hfound1) ?_
          refine TL_nil (TX_block_normal (TX_next (TC_region (TVm ?_))))
          refine TLv (V_bin rfl rfl (fun w=>addI w s1.2 1)) ?_
          refine TVa ?_
          obtain ⟨i1,hi1,H⟩:=ltt_elim H
          refine TLr 12 (congrArg vi hi1) ?_
          refine TL_nil ?_
          obtain rfl:=sj H
          exact TXk (rp 42 0) (hK (found1,i1) rfl ())
         ·refine TC_skip (TX_block_normal (TX_next (TC_region (TVm ?_))))
          refine TLv (V_bin rfl rfl (fun w=>addI w s1.2 1)) ?_
          refine TVa ?_
          obtain ⟨i2,hi2,H⟩:=ltt_elim H
          refine TLr 12 (congrArg vi hi2) ?_
          refine TL_nil ?_
          obtain rfl:=sj H
          exact TXk (rp 42 0) (hK (s1.1,i2) rfl ())
        ·refine TC_exit (TX_then_exit (TX_then_exit ?_))
         obtain rfl:=sj H
         exact TXj (rp 42 0) (hE s1.1 rfl ())
       ·intro g
        refine TX_block_exit (TX_next (TC_seq (TC_region (TVa ?_))))
        refine TL_nil (TX_next (TC_seq (TC_seq (TC_region (TVa ?_)))))
        refine TL_nil (TX_next (TC_block ?_))
        obtain ⟨t_3,Hl,H⟩:=bind_elim H
        refine TC.sub (m':=[(4,_),(5,_),(9,_),(11,_),(13,_),(14,_)]) ⟨rfl,rfl,rfl,rfl,rfl,rfl,trivial⟩ ?_
        refine TC.pull (is:=(rp 42 0)) (L':=[_,_,_,_,_,_,_,_,_,_,_,_,_,_,_,_,_,_,_,_,_,_,_,_,_,_,_,_,_,_,_,_,_,_,_,_,_,_,_,_,_,_]) rfl ?_
        refine TC_loopL (id:=4) (body:=(halberdlaw24_HelloChosen.b2 m_Shares r_2)) (σ:=Bool × Int) (Γ:=Unit) (Γx:=Unit) (fun s2 g2_=>[(4,ptr (some (b1,0)) 0),(5,ptr (some (b2,0)) 0),(9,ptr (some (b3,0)) 0),(11,vs t_2),(13,vb s2.1),(14,vi s2.2)]) (fun s2 g2_=>[⟨some (b1,0),[vb c_Server]⟩,⟨some (b1,1),[sl Ac_Suites ((c_Suites).length) cc_Suites]⟩,⟨some (b1,2),[sl Ac_Groups ((c_Groups).length) cc_Groups]⟩,⟨some (b1,3),[sl Ac_Chain ((c_Chain).length) cc_Chain]⟩,⟨some (b1,4),[vs c_Key]⟩,⟨some (b1,5),[sl Ac_Roots ((c_Roots).length) cc_Roots]⟩,⟨some (b1,6),[vs c_Name]⟩,⟨some (b1,7),[vi c_Tickets]⟩,⟨some (b1,8),[vs c_Seal]⟩,⟨some (b1,9),[sl Ac_Psk ((c_Psk).length) cc_Psk]⟩,⟨some (b1,10),[vs c_Tape]⟩,⟨some (b1,11),[vi c_Clock]⟩,⟨some (b1,12),[vi c_Pad]⟩,⟨some (b1,13),[vi c_Limit]⟩,⟨some (b1,14),[vi c_Ring]⟩,⟨some (b2,0),[vi m_Kind]⟩,⟨some (b2,1),[vs m_Random]⟩,⟨some (b2,2),[vs m_Session]⟩,⟨some (b2,3),[sl Am_Suites ((m_Suites).length) cm_Suites]⟩,⟨some (b2,4),[vs m_Name]⟩,⟨some (b2,5),[sl Am_Versions ((m_Versions).length) cm_Versions]⟩,⟨some (b2,6),[sl Am_Groups ((m_Groups).length) cm_Groups]⟩,⟨some (b2,7),[sl Am_Schemes ((m_Schemes).length) cm_Schemes]⟩,⟨some (b2,8),[sl Am_Modes ((m_Modes).length) cm_Modes]⟩,⟨some (b2,9),[sl Am_Shares ((m_Shares).length) cm_Shares]⟩,⟨some (b2,10),[sl Am_Identities ((m_Identities).length) cm_Identities]⟩,⟨some (b2,11),[sl Am_Binders ((m_Binders).length) cm_Binders]⟩,⟨some (b2,12),[vi m_Psk]⟩,⟨some (b2,13),[sl Am_Others ((m_Others).length) cm_Others]⟩,⟨some (b2,14),[sl Am_Certs ((m_Certs).length) cm_Certs]⟩,⟨some (b2,15),[vi m_Scheme]⟩,⟨some (b2,16),[vs m_Data]⟩,⟨some (b2,17),[vi m_Life]⟩,⟨some (b2,18),[vi m_Add]⟩,⟨some (b2,19),[vs m_Nonce]⟩,⟨some (b2,20),[vi m_Update]⟩,⟨some (b3,0),[vi r_2.1]⟩,⟨some (b3,1),[vi r_2.2.1]⟩,⟨some (b3,2),[vs r_2.2.2.1]⟩,⟨some (b3,3),[vb r_2.2.2.2.1]⟩,⟨some (b3,4),[vb r_2.2.2.2.2.1]⟩,⟨some (b3,5),[vi r_2.2.2.2.2.2]⟩]) (fun t g=>[(4,ptr (some (b1,0)) 0),(5,ptr (some (b2,0)) 0),(9,ptr (some (b3,0)) 0),(11,vs t_2),(13,vb t)]) (fun t g=>[⟨some (b1,0),[vb c_Server]⟩,⟨some (b1,1),[sl Ac_Suites ((c_Suites).length) cc_Suites]⟩,⟨some (b1,2),[sl Ac_Groups ((c_Groups).length) cc_Groups]⟩,⟨some (b1,3),[sl Ac_Chain ((c_Chain).length) cc_Chain]⟩,⟨some (b1,4),[vs c_Key]⟩,⟨some (b1,5),[sl Ac_Roots ((c_Roots).length) cc_Roots]⟩,⟨some (b1,6),[vs c_Name]⟩,⟨some (b1,7),[vi c_Tickets]⟩,⟨some (b1,8),[vs c_Seal]⟩,⟨some (b1,9),[sl Ac_Psk ((c_Psk).length) cc_Psk]⟩,⟨some (b1,10),[vs c_Tape]⟩,⟨some (b1,11),[vi c_Clock]⟩,⟨some (b1,12),[vi c_Pad]⟩,⟨some (b1,13),[vi c_Limit]⟩,⟨some (b1,14),[vi c_Ring]⟩,⟨some (b2,0),[vi m_Kind]⟩,⟨some (b2,1),[vs m_Random]⟩,⟨some (b2,2),[vs m_Session]⟩,⟨some (b2,3),[sl Am_Suites ((m_Suites).length) cm_Suites]⟩,⟨some (b2,4),[vs m_Name]⟩,⟨some (b2,5),[sl Am_Versions ((m_Versions).length) cm_Versions]⟩,⟨some (b2,6),[sl Am_Groups ((m_Groups).length) cm_Groups]⟩,⟨some (b2,7),[sl Am_Schemes ((m_Schemes).length) cm_Schemes]⟩,⟨some (b2,8),[sl Am_Modes ((m_Modes).length) cm_Modes]⟩,⟨some (b2,9),[sl Am_Shares ((m_Shares).length) cm_Shares]⟩,⟨some (b2,10),[sl Am_Identities ((m_Identities).length) cm_Identities]⟩,⟨some (b2,11),[sl Am_Binders ((m_Binders).length) cm_Binders]⟩,⟨some (b2,12),[vi m_Psk]⟩,⟨some (b2,13),[sl Am_Others ((m_Others).length) cm_Others]⟩,⟨some (b2,14),[sl Am_Certs ((m_Certs).length) cm_Certs]⟩,⟨some (b2,15),[vi m_Scheme]⟩,⟨some (b2,16),[vs m_Data]⟩,⟨some (b2,17),[vi m_Life]⟩,⟨some (b2,18),[vi m_Add]⟩,⟨some (b2,19),[vs m_Nonce]⟩,⟨some (b2,20),[vi m_Update]⟩,⟨some (b3,0),[vi r_2.1]⟩,⟨some (b3,1),[vi r_2.2.1]⟩,⟨some (b3,2),[vs r_2.2.2.1]⟩,⟨some (b3,3),[vb r_2.2.2.2.1]⟩,⟨some (b3,4),[vb r_2.2.2.2.2.1]⟩,⟨some (b3,5),[vi r_2.2.2.2.2.2]⟩]) ?_ BIG (false,0) () t_3 Hl ?_
        ·intro s2 g2_ r1 H K hK hE
         unfold halberdlaw24_HelloChosen.b2 at H
         refine TC_seq (TC_seq (TC_region (TVm ?_)))
         refine TLv (V_fieldE rfl underlying30 rfl rfl inf27 rfl (v:=ptr (some (b2,9)) 0) rfl) ?_
         refine TLv (V_load rfl (.o 24) rfl isAgg27) ?_
         refine TLv (V_len_slice rfl underlying27) ?_
         refine TLv (V_bin rfl rfl (fun w=>lssI w s2.2 ((m_Shares).length:Int))) ?_
         refine TL_nil (TX_next (TCd H (fun hc H=>?_) (fun hc H=>?_)))
         ·refine TC_skip (TX_next (TC_seq (TC_block (TC_em s2.1 (fun hg23_2=>?_) (fun hg23_2=>?_)))))
          ·replace H:=ite_t hg23_2 H
           refine TA_begin [⟨some (b1,0),[vb c_Server]⟩,⟨some (b1,1),[sl Ac_Suites ((c_Suites).length) cc_Suites]⟩,⟨some (b1,2),[sl Ac_Groups ((c_Groups).length) cc_Groups]⟩,⟨some (b1,3),[sl Ac_Chain ((c_Chain).length) cc_Chain]⟩,⟨some (b1,4),[vs c_Key]⟩,⟨some (b1,5),[sl Ac_Roots ((c_Roots).length) cc_Roots]⟩,⟨some (b1,6),[vs c_Name]⟩,⟨some (b1,7),[vi c_Tickets]⟩,⟨some (b1,8),[vs c_Seal]⟩,⟨some (b1,9),[sl Ac_Psk ((c_Psk).length) cc_Psk]⟩,⟨some (b1,10),[vs c_Tape]⟩,⟨some (b1,11),[vi c_Clock]⟩,⟨some (b1,12),[vi c_Pad]⟩,⟨some (b1,13),[vi c_Limit]⟩,⟨some (b1,14),[vi c_Ring]⟩,⟨some (b2,0),[vi m_Kind]⟩,⟨some (b2,1),[vs m_Random]⟩,⟨some (b2,2),[vs m_Session]⟩,⟨some (b2,3),[sl Am_Suites ((m_Suites).length) cm_Suites]⟩,⟨some (b2,4),[vs m_Name]⟩,⟨some (b2,5),[sl Am_Versions ((m_Versions).length) cm_Versions]⟩,⟨some (b2,6),[sl Am_Groups ((m_Groups).length) cm_Groups]⟩,⟨some (b2,7),[sl Am_Schemes ((m_Schemes).length) cm_Schemes]⟩,⟨some (b2,8),[sl Am_Modes ((m_Modes).length) cm_Modes]⟩,⟨some (b2,9),[sl Am_Shares ((m_Shares).length) cm_Shares]⟩,⟨some (b2,10),[sl Am_Identities ((m_Identities).length) cm_Identities]⟩,⟨some (b2,11),[sl Am_Binders ((m_Binders).length) cm_Binders]⟩,⟨some (b2,12),[vi m_Psk]⟩,⟨some (b2,13),[sl Am_Others ((m_Others).length) cm_Others]⟩,⟨some (b2,14),[sl Am_Certs ((m_Certs).length) cm_Certs]⟩,⟨some (b2,15),[vi m_Scheme]⟩,⟨some (b2,16),[vs m_Data]⟩,⟨some (b2,17),[vi m_Life]⟩,⟨some (b2,18),[vi m_Add]⟩,⟨some (b2,19),[vs m_Nonce]⟩,⟨some (b2,20),[vi m_Update]⟩,⟨some (b3,0),[vi r_2.1]⟩,⟨some (b3,1),[vi r_2.2.1]⟩,⟨some (b3,2),[vs r_2.2.2.1]⟩,⟨some (b3,3),[vb r_2.2.2.2.1]⟩,⟨some (b3,4),[vb r_2.2.2.2.2.1]⟩,⟨some (b3,5),[vi r_2.2.2.2.2.2]⟩] 13 (by kernel_rfl) (N:=13) rfl ?_
           refine TA_tk 0 (rp 42 0) (dn 13 1) rfl rfl (V_move rfl) ?_
           refine TA_tk 1 (rp 42 0) (dn 13 3) rfl rfl (V_move rfl) ?_
           refine TA_re (d:=125) (v:=vb s2.1) (v':=vb true) rfl (congrArg vb hg23_2) ?_
           refine TA_ts 2 (rp 42 0) (dn 13 7) rfl rfl ?_
           refine TA_ts 3 (rp 42 0) (dn 13 15) rfl rfl ?_
           refine TA_ts 4 (rp 42 0) (dn 13 31) rfl rfl ?_
           refine TA_ts 5 (rp 42 0) (dn 13 63) rfl rfl ?_
           refine TA_ts 6 (rp 42 0) (dn 13 127) rfl rfl ?_
           refine TA_ts 7 (rp 42 0) (dn 13 255) rfl rfl ?_
           refine TA_ts 8 (rp 42 0) (dn 13 511) rfl rfl ?_
           refine TA_ts 9 (rp 42 0) (dn 13 1023) rfl rfl ?_
           refine TA_ts 10 (rp 42 0) (dn 13 2047) rfl rfl ?_
           refine TA_tk 11 (rp 42 0) (dn 13 4095) rfl rfl (V_pick (b:=true) rfl rfl) ?_
           refine TA_tk 12 (rp 42 0) (dn 13 8191) rfl rfl (V_assign rfl) ?_
           refine TA_done (by kernel_rfl) ?_ 0
           refine TX_block_normal (TX_next (TC_region (TVm ?_)))
           refine TLv (V_bin rfl rfl (fun w=>addI w s2.2 1)) ?_
           refine TVa ?_
           obtain ⟨i3,hi3,H⟩:=ltt_elim H
           refine TLr 14 (congrArg vi hi3) ?_
           refine TL_nil ?_
           obtain rfl:=sj H
           exact TXk (rp 42 0) (hK (true,i3) rfl ())
          ·replace H:=ite_f (Bool.eq_false_iff.1 hg23_2) H
           obtain ⟨h5,H⟩:=if_elim H
           obtain ⟨there1,hthere1,H⟩:=ltt_elim H
           refine TA_begin [⟨some (b1,0),[vb c_Server]⟩,⟨some (b1,1),[sl Ac_Suites ((c_Suites).length) cc_Suites]⟩,⟨some (b1,2),[sl Ac_Groups ((c_Groups).length) cc_Groups]⟩,⟨some (b1,3),[sl Ac_Chain ((c_Chain).length) cc_Chain]⟩,⟨some (b1,4),[vs c_Key]⟩,⟨some (b1,5),[sl Ac_Roots ((c_Roots).length) cc_Roots]⟩,⟨some (b1,6),[vs c_Name]⟩,⟨some (b1,7),[vi c_Tickets]⟩,⟨some (b1,8),[vs c_Seal]⟩,⟨some (b1,9),[sl Ac_Psk ((c_Psk).length) cc_Psk]⟩,⟨some (b1,10),[vs c_Tape]⟩,⟨some (b1,11),[vi c_Clock]⟩,⟨some (b1,12),[vi c_Pad]⟩,⟨some (b1,13),[vi c_Limit]⟩,⟨some (b1,14),[vi c_Ring]⟩,⟨some (b2,0),[vi m_Kind]⟩,⟨some (b2,1),[vs m_Random]⟩,⟨some (b2,2),[vs m_Session]⟩,⟨some (b2,3),[sl Am_Suites ((m_Suites).length) cm_Suites]⟩,⟨some (b2,4),[vs m_Name]⟩,⟨some (b2,5),[sl Am_Versions ((m_Versions).length) cm_Versions]⟩,⟨some (b2,6),[sl Am_Groups ((m_Groups).length) cm_Groups]⟩,⟨some (b2,7),[sl Am_Schemes ((m_Schemes).length) cm_Schemes]⟩,⟨some (b2,8),[sl Am_Modes ((m_Modes).length) cm_Modes]⟩,⟨some (b2,9),[sl Am_Shares ((m_Shares).length) cm_Shares]⟩,⟨some (b2,10),[sl Am_Identities ((m_Identities).length) cm_Identities]⟩,⟨some (b2,11),[sl Am_Binders ((m_Binders).length) cm_Binders]⟩,⟨some (b2,12),[vi m_Psk]⟩,⟨some (b2,13),[sl Am_Others ((m_Others).length) cm_Others]⟩,⟨some (b2,14),[sl Am_Certs ((m_Certs).length) cm_Certs]⟩,⟨some (b2,15),[vi m_Scheme]⟩,⟨some (b2,16),[vs m_Data]⟩,⟨some (b2,17),[vi m_Life]⟩,⟨some (b2,18),[vi m_Add]⟩,⟨some (b2,19),[vs m_Nonce]⟩,⟨some (b2,20),[vi m_Update]⟩,⟨some (b3,0),[vi r_2.1]⟩,⟨some (b3,1),[vi r_2.2.1]⟩,⟨some (b3,2),[vs r_2.2.2.1]⟩,⟨some (b3,3),[vb r_2.2.2.2.1]⟩,⟨some (b3,4),[vb r_2.2.2.2.2.1]⟩,⟨some (b3,5),[vi r_2.2.2.2.2.2]⟩] 13 (by kernel_rfl) (N:=13) rfl ?_
           refine TA_tk 0 (rp 42 0) (dn 13 1) rfl rfl (V_move rfl) ?_
           refine TA_tk 1 (rp 42 0) (dn 13 3) rfl rfl (V_move rfl) ?_
           refine TA_re (d:=125) (v:=vb s2.1) (v':=vb false) rfl (congrArg vb hg23_2) ?_
           refine TA_tw 2 (rp 42 0) (dn 13 7) rfl rfl (V_fieldE rfl underlying30 rfl rfl inf27 rfl (v:=ptr (some (b2,9)) 0) rfl) ?_
           refine TA_tw 3 (rp 42 0) (dn 13 15) rfl rfl (V_load rfl (.o 24) rfl isAgg27) ?_
           refine TA_tw 4 (rp 42 0) (dn 13 31) rfl rfl (V_move rfl) ?_
           refine TA_tw 5 (rp 42 0) (dn 13 63) rfl rfl (V_idxSlS (i:=s2.2) rfl rfl underlying27 inf50 rfl (.r 10) (eF_ne2 (s:=2) (fun _=>rfl) rfl (toNat_lt h5.1 h5.2)) h5.1 h5.2 (k:=((s2.2).toNat) * 2) rfl) ?_
           refine TA_tw 6 (rp 42 0) (dn 13 127) rfl rfl (V_field rfl underlying50 rfl (k:=0) rfl inf3 rfl) ?_
           refine TA_tw 7 (rp 42 0) (dn 13 255) rfl rfl (V_load rfl (.r 10) ((get_eF (g:=fun p:Int × Str=>[vi p.1,vs p.2]) (s:=2) (fun _=>rfl) m_Shares ((s2.2).toNat) 0 (toNat_lt h5.1 h5.2) (by decide:0<2)).trans rfl) isAgg3) ?_
           refine TA_tw 8 (rp 42 0) (dn 13 511) rfl rfl (V_fieldE rfl underlying34 rfl rfl inf3 rfl (v:=ptr (some (b3,1)) 0) rfl) ?_
           refine TA_tw 9 (rp 42 0) (dn 13 1023) rfl rfl (V_load rfl (.o 37) rfl isAgg3) ?_
           refine TA_tw 10 (rp 42 0) (dn 13 2047) rfl rfl (V_bin rfl rfl (fun w=>eqlI w ((lg m_Shares ((s2.2).toNat)).1) r_2.2.1)) ?_
           refine TA_tk 11 (rp 42 0) (dn 13 4095) rfl rfl (V_pick (b:=false) rfl rfl) ?_
           refine TA_tk 12 (rp 42 0) (dn 13 8191) rfl rfl (V_assign rfl) ?_
           refine TA_re (d:=13) (v:=vb (decide (((lg m_Shares ((s2.2).toNat)).1)=r_2.2.1))) (v':=vb there1) rfl (congrArg vb hthere1) ?_
           refine TA_done (by kernel_rfl) ?_ 0
           refine TX_block_normal (TX_next (TC_region (TVm ?_)))
           refine TLv (V_bin rfl rfl (fun w=>addI w s2.2 1)) ?_
           refine TVa ?_
           obtain ⟨i4,hi4,H⟩:=ltt_elim H
           refine TLr 14 (congrArg vi hi4) ?_
           refine TL_nil ?_
           obtain rfl:=sj H
           exact TXk (rp 42 0) (hK (there1,i4) rfl ())
         ·refine TC_exit (TX_then_exit (TX_then_exit ?_))
          obtain rfl:=sj H
          exact TXj (rp 42 0) (hE s2.1 rfl ())
        ·intro g
         refine TX_block_exit (TX_next (TC_seq (TC_region (TLv (V_fieldE rfl underlying34 rfl rfl inf4 rfl (v:=ptr (some (b3,3)) 0) rfl) ?_))))
         refine TLv (V_load rfl (.o 39) rfl isAgg4) ?_
         refine TVm ?_
         refine TLv (V_un rfl (fun w=>notB w t_3)) ?_
         refine TLv (V_bin rfl rfl (fun w=>eqlB w r_2.2.2.2.1 (!t_3) underlying4)) ?_
         refine TVm ?_
         refine TFb (d:=141) H (fun hc H=>?_) (fun hc H=>?_)
         ·refine TLw (V_fieldE rfl underlying34 rfl rfl inf9 rfl (v:=ptr (some (b3,2)) 0) rfl) ?_
          refine TLw (V_load rfl (.o 38) rfl isAgg9) ?_
          refine TLw (V_move rfl) ?_
          refine TLw (V_bin rfl rfl (fun w=>eqlS w r_2.2.2.1 t_2)) ?_
          refine TVt ?_
          refine TVm ?_
          refine TFd (d:=147) H (fun hc H=>?_) (fun hc H=>?_)
          ·refine TLw (V_fieldE rfl underlying34 rfl rfl inf4 rfl (v:=ptr (some (b3,4)) 0) rfl) ?_
           refine TLw (V_load rfl (.o 40) rfl isAgg4) ?_
           refine TLw (V_move rfl) ?_
           refine TFb (d:=150) H (fun hc H=>?_) (fun hc H=>?_)
           ·refine TLs ?_
            refine TLs ?_
            refine TLw (V_pick (b:=true) rfl rfl) ?_
            refine TLw (V_move rfl) ?_
            refine TLs ?_
            refine TLs ?_
            refine TLs ?_
            refine TLw (V_pick (b:=true) rfl rfl) ?_
            refine TVt ?_
            refine TVm ?_
            refine TLw (V_fieldE rfl underlying34 rfl rfl inf4 rfl (v:=ptr (some (b3,4)) 0) rfl) ?_
            refine TLw (V_load rfl (.o 40) rfl isAgg4) ?_
            refine TLw (V_un rfl (fun w=>notB w r_2.2.2.2.2.1)) ?_
            refine TLw (V_move rfl) ?_
            refine TFb (d:=164) H (fun hc H=>?_) (fun hc H=>?_)
            ·refine TLs ?_
             refine TLs ?_
             refine TLs ?_
             refine TLs ?_
             refine TLs ?_
             refine TL_skipU rfl rfl rfl rfl rfl rfl ?_
             refine TL_skipU rfl rfl rfl rfl rfl rfl ?_
             refine TL_skipU rfl rfl rfl rfl rfl rfl ?_
             refine TLs ?_
             refine TLs ?_
             refine TL_skipU rfl rfl rfl rfl rfl rfl ?_
             refine TL_skipU rfl rfl rfl rfl rfl rfl ?_
             refine TL_skipU rfl rfl rfl rfl rfl rfl ?_
             refine TL_skipU rfl rfl rfl rfl rfl rfl ?_
             refine TLs ?_
             refine TLw (V_pick (b:=true) rfl rfl) ?_
             refine TVt ?_
             refine TVa ?_
             refine TL_nil (TX_next (TC.sub (m':=[(8,_)]) ⟨rfl,trivial⟩ ?_))
             refine TC.pull (is:=[]) (L':=[]) rfl ?_
             refine TC_ret ?_
             obtain rfl:=sj H
             exact TX1
            ·refine TLw (V_fieldE rfl underlying30 rfl rfl inf28 rfl (v:=ptr (some (b2,10)) 0) rfl) ?_
             refine TLw (V_load rfl (.o 25) rfl isAgg28) ?_
             refine TLw (V_len_slice rfl underlying28) ?_
             refine TLw (V_bin rfl rfl (fun w=>gtrI w ((m_Identities).length:Int) 0)) ?_
             refine TLw (V_move rfl) ?_
             refine TFd (d:=169) H (fun hc H=>?_) (fun hc H=>?_)
             ·refine TLw (V_fieldE rfl underlying30 rfl rfl inf22 rfl (v:=ptr (some (b2,8)) 0) rfl) ?_
              refine TLw (V_load rfl (.o 23) rfl isAgg22) ?_
              obtain ⟨r_4,hr_4,H⟩:=bind_elim H
              refine TLu (E_c0 (F23_calls Am_Modes cm_Modes m_Modes 1 hcm_Modes r_4 hr_4) call23 ⟨.r 9,trivial⟩) (fun g_4=>?_)
              refine TLw (V_pick (b:=true) rfl rfl) ?_
              refine TLw (V_move rfl) ?_
              refine TFb (d:=174) H (fun hc H=>?_) (fun hc H=>?_)
              ·refine TLw (V_fieldE rfl underlying26 rfl rfl inf9 rfl (v:=ptr (some (b1,8)) 0) rfl) ?_
               refine TLw (V_load rfl (.o 8) rfl isAgg9) ?_
               refine TLw (V_len_str rfl underlying9) ?_
               refine TLw (V_bin rfl rfl (fun w=>eqlI w ((c_Seal).length:Int) 32)) ?_
               refine TLw (V_pick (b:=true) rfl rfl) ?_
               refine TLw (V_pick (b:=false) rfl rfl) ?_
               refine TVt ?_
               refine TVa ?_
               obtain ⟨x2,hx2,H⟩:=ltt_elim H
               refine TLr 8 (congrArg vb hx2) ?_
               refine TL_nil (TX_next (TC.sub (m':=[(8,_)]) ⟨rfl,trivial⟩ ?_))
               refine TC.pull (is:=[]) (L':=[]) rfl ?_
               refine TC_ret ?_
               obtain rfl:=sj H
               exact TX1
              ·refine TLs ?_
               refine TLs ?_
               refine TLs ?_
               refine TLs ?_
               refine TLw (V_pick (b:=false) rfl rfl) ?_
               refine TLw (V_pick (b:=false) rfl rfl) ?_
               refine TVt ?_
               refine TVa ?_
               refine TL_nil (TX_next (TC.sub (m':=[(8,_)]) ⟨rfl,trivial⟩ ?_))
               refine TC.pull (is:=[]) (L':=[]) rfl ?_
               refine TC_ret ?_
               obtain rfl:=sj H
               exact TX1
             ·refine TLs ?_
              refine TLs ?_
              refine TLs ?_
              refine TLw (V_pick (b:=false) rfl rfl) ?_
              refine TLw (V_move rfl) ?_
              refine TLs ?_
              refine TLs ?_
              refine TLs ?_
              refine TLs ?_
              refine TLw (V_pick (b:=false) rfl rfl) ?_
              refine TLw (V_pick (b:=false) rfl rfl) ?_
              refine TVt ?_
              refine TVa ?_
              refine TL_nil (TX_next (TC.sub (m':=[(8,_)]) ⟨rfl,trivial⟩ ?_))
              refine TC.pull (is:=[]) (L':=[]) rfl ?_
              refine TC_ret ?_
              obtain rfl:=sj H
              exact TX1
           ·refine TLw (V_fieldE rfl underlying34 rfl rfl inf4 rfl (v:=ptr (some (b3,3)) 0) rfl) ?_
            refine TLw (V_load rfl (.o 39) rfl isAgg4) ?_
            refine TLw (V_pick (b:=false) rfl rfl) ?_
            refine TLw (V_move rfl) ?_
            refine TFb (d:=154) H (fun hc H=>?_) (fun hc H=>?_)
            ·refine TLs ?_
             refine TLs ?_
             refine TLs ?_
             refine TLw (V_pick (b:=true) rfl rfl) ?_
             refine TVt ?_
             refine TVm ?_
             refine TLw (V_fieldE rfl underlying34 rfl rfl inf4 rfl (v:=ptr (some (b3,4)) 0) rfl) ?_
             refine TLw (V_load rfl (.o 40) rfl isAgg4) ?_
             refine TLw (V_un rfl (fun w=>notB w r_2.2.2.2.2.1)) ?_
             refine TLw (V_move rfl) ?_
             refine TFb (d:=164) H (fun hc H=>?_) (fun hc H=>?_)
             ·refine TLs ?_
              refine TLs ?_
              refine TLs ?_
              refine TLs ?_
              refine TLs ?_
              refine TL_skipU rfl rfl rfl rfl rfl rfl ?_
              refine TL_skipU rfl rfl rfl rfl rfl rfl ?_
              refine TL_skipU rfl rfl rfl rfl rfl rfl ?_
              refine TLs ?_
              refine TLs ?_
              refine TL_skipU rfl rfl rfl rfl rfl rfl ?_
              refine TL_skipU rfl rfl rfl rfl rfl rfl ?_
              refine TL_skipU rfl rfl rfl rfl rfl rfl ?_
              refine TL_skipU rfl rfl rfl rfl rfl rfl ?_
              refine TLs ?_
              refine TLw (V_pick (b:=true) rfl rfl) ?_
              refine TVt ?_
              refine TVa ?_
              refine TL_nil (TX_next (TC.sub (m':=[(8,_)]) ⟨rfl,trivial⟩ ?_))
              refine TC.pull (is:=[]) (L':=[]) rfl ?_
              refine TC_ret ?_
              obtain rfl:=sj H
              exact TX1
             ·refine TLw (V_fieldE rfl underlying30 rfl rfl inf28 rfl (v:=ptr (some (b2,10)) 0) rfl) ?_
              refine TLw (V_load rfl (.o 25) rfl isAgg28) ?_
              refine TLw (V_len_slice rfl underlying28) ?_
              refine TLw (V_bin rfl rfl (fun w=>gtrI w ((m_Identities).length:Int) 0)) ?_
              refine TLw (V_move rfl) ?_
              refine TFd (d:=169) H (fun hc H=>?_) (fun hc H=>?_)
              ·refine TLw (V_fieldE rfl underlying30 rfl rfl inf22 rfl (v:=ptr (some (b2,8)) 0) rfl) ?_
               refine TLw (V_load rfl (.o 23) rfl isAgg22) ?_
               obtain ⟨r_5,hr_5,H⟩:=bind_elim H
               refine TLu (E_c0 (F23_calls Am_Modes cm_Modes m_Modes 1 hcm_Modes r_5 hr_5) call23 ⟨.r 9,trivial⟩) (fun g_5=>?_)
               refine TLw (V_pick (b:=true) rfl rfl) ?_
               refine TLw (V_move rfl) ?_
               refine TFb (d:=174) H (fun hc H=>?_) (fun hc H=>?_)
               ·refine TLw (V_fieldE rfl underlying26 rfl rfl inf9 rfl (v:=ptr (some (b1,8)) 0) rfl) ?_
                refine TLw (V_load rfl (.o 8) rfl isAgg9) ?_
                refine TLw (V_len_str rfl underlying9) ?_
                refine TLw (V_bin rfl rfl (fun w=>eqlI w ((c_Seal).length:Int) 32)) ?_
                refine TLw (V_pick (b:=true) rfl rfl) ?_
                refine TLw (V_pick (b:=false) rfl rfl) ?_
                refine TVt ?_
                refine TVa ?_
                obtain ⟨x3,hx3,H⟩:=ltt_elim H
                refine TLr 8 (congrArg vb hx3) ?_
                refine TL_nil (TX_next (TC.sub (m':=[(8,_)]) ⟨rfl,trivial⟩ ?_))
                refine TC.pull (is:=[]) (L':=[]) rfl ?_
                refine TC_ret ?_
                obtain rfl:=sj H
                exact TX1
               ·refine TLs ?_
                refine TLs ?_
                refine TLs ?_
                refine TLs ?_
                refine TLw (V_pick (b:=false) rfl rfl) ?_
                refine TLw (V_pick (b:=false) rfl rfl) ?_
                refine TVt ?_
                refine TVa ?_
                refine TL_nil (TX_next (TC.sub (m':=[(8,_)]) ⟨rfl,trivial⟩ ?_))
                refine TC.pull (is:=[]) (L':=[]) rfl ?_
                refine TC_ret ?_
                obtain rfl:=sj H
                exact TX1
              ·refine TLs ?_
               refine TLs ?_
               refine TLs ?_
               refine TLw (V_pick (b:=false) rfl rfl) ?_
               refine TLw (V_move rfl) ?_
               refine TLs ?_
               refine TLs ?_
               refine TLs ?_
               refine TLs ?_
               refine TLw (V_pick (b:=false) rfl rfl) ?_
               refine TLw (V_pick (b:=false) rfl rfl) ?_
               refine TVt ?_
               refine TVa ?_
               refine TL_nil (TX_next (TC.sub (m':=[(8,_)]) ⟨rfl,trivial⟩ ?_))
               refine TC.pull (is:=[]) (L':=[]) rfl ?_
               refine TC_ret ?_
               obtain rfl:=sj H
               exact TX1
            ·refine TLw (V_fieldE rfl underlying30 rfl rfl inf22 rfl (v:=ptr (some (b2,7)) 0) rfl) ?_
             refine TLw (V_load rfl (.o 22) rfl isAgg22) ?_
             obtain ⟨r_6,hr_6,H⟩:=bind_elim H
             refine TLu (E_c0 (F23_calls Am_Schemes cm_Schemes m_Schemes 1027 hcm_Schemes r_6 hr_6) call23 ⟨.r 8,trivial⟩) (fun g_6=>?_)
             refine TLw (V_pick (b:=false) rfl rfl) ?_
             refine TVt ?_
             refine TVm ?_
             refine TFb (d:=160) H (fun hc H=>?_) (fun hc H=>?_)
             ·refine TLw (V_fieldE rfl underlying34 rfl rfl inf4 rfl (v:=ptr (some (b3,4)) 0) rfl) ?_
              refine TLw (V_load rfl (.o 40) rfl isAgg4) ?_
              refine TLw (V_un rfl (fun w=>notB w r_2.2.2.2.2.1)) ?_
              refine TLw (V_move rfl) ?_
              refine TFb (d:=164) H (fun hc H=>?_) (fun hc H=>?_)
              ·refine TLs ?_
               refine TLs ?_
               refine TLs ?_
               refine TLs ?_
               refine TLs ?_
               refine TL_skipU rfl rfl rfl rfl rfl rfl ?_
               refine TL_skipU rfl rfl rfl rfl rfl rfl ?_
               refine TL_skipU rfl rfl rfl rfl rfl rfl ?_
               refine TLs ?_
               refine TLs ?_
               refine TL_skipU rfl rfl rfl rfl rfl rfl ?_
               refine TL_skipU rfl rfl rfl rfl rfl rfl ?_
               refine TL_skipU rfl rfl rfl rfl rfl rfl ?_
               refine TL_skipU rfl rfl rfl rfl rfl rfl ?_
               refine TLs ?_
               refine TLw (V_pick (b:=true) rfl rfl) ?_
               refine TVt ?_
               refine TVa ?_
               refine TL_nil (TX_next (TC.sub (m':=[(8,_)]) ⟨rfl,trivial⟩ ?_))
               refine TC.pull (is:=[]) (L':=[]) rfl ?_
               refine TC_ret ?_
               obtain rfl:=sj H
               exact TX1
              ·refine TLw (V_fieldE rfl underlying30 rfl rfl inf28 rfl (v:=ptr (some (b2,10)) 0) rfl) ?_
               refine TLw (V_load rfl (.o 25) rfl isAgg28) ?_
               refine TLw (V_len_slice rfl underlying28) ?_
               refine TLw (V_bin rfl rfl (fun w=>gtrI w ((m_Identities).length:Int) 0)) ?_
               refine TLw (V_move rfl) ?_
               refine TFd (d:=169) H (fun hc H=>?_) (fun hc H=>?_)
               ·refine TLw (V_fieldE rfl underlying30 rfl rfl inf22 rfl (v:=ptr (some (b2,8)) 0) rfl) ?_
                refine TLw (V_load rfl (.o 23) rfl isAgg22) ?_
                obtain ⟨r_7,hr_7,H⟩:=bind_elim H
                refine TLu (E_c0 (F23_calls Am_Modes cm_Modes m_Modes 1 hcm_Modes r_7 hr_7) call23 ⟨.r 9,trivial⟩) (fun g_7=>?_)
                refine TLw (V_pick (b:=true) rfl rfl) ?_
                refine TLw (V_move rfl) ?_
                refine TFb (d:=174) H (fun hc H=>?_) (fun hc H=>?_)
                ·refine TLw (V_fieldE rfl underlying26 rfl rfl inf9 rfl (v:=ptr (some (b1,8)) 0) rfl) ?_
                 refine TLw (V_load rfl (.o 8) rfl isAgg9) ?_
                 refine TLw (V_len_str rfl underlying9) ?_
                 refine TLw (V_bin rfl rfl (fun w=>eqlI w ((c_Seal).length:Int) 32)) ?_
                 refine TLw (V_pick (b:=true) rfl rfl) ?_
                 refine TLw (V_pick (b:=false) rfl rfl) ?_
                 refine TVt ?_
                 refine TVa ?_
                 obtain ⟨x4,hx4,H⟩:=ltt_elim H
                 refine TLr 8 (congrArg vb hx4) ?_
                 refine TL_nil (TX_next (TC.sub (m':=[(8,_)]) ⟨rfl,trivial⟩ ?_))
                 refine TC.pull (is:=[]) (L':=[]) rfl ?_
                 refine TC_ret ?_
                 obtain rfl:=sj H
                 exact TX1
                ·refine TLs ?_
                 refine TLs ?_
                 refine TLs ?_
                 refine TLs ?_
                 refine TLw (V_pick (b:=false) rfl rfl) ?_
                 refine TLw (V_pick (b:=false) rfl rfl) ?_
                 refine TVt ?_
                 refine TVa ?_
                 refine TL_nil (TX_next (TC.sub (m':=[(8,_)]) ⟨rfl,trivial⟩ ?_))
                 refine TC.pull (is:=[]) (L':=[]) rfl ?_
                 refine TC_ret ?_
                 obtain rfl:=sj H
                 exact TX1
               ·refine TLs ?_
                refine TLs ?_
                refine TLs ?_
                refine TLw (V_pick (b:=false) rfl rfl) ?_
                refine TLw (V_move rfl) ?_
                refine TLs ?_
                refine TLs ?_
                refine TLs ?_
                refine TLs ?_
                refine TLw (V_pick (b:=false) rfl rfl) ?_
                refine TLw (V_pick (b:=false) rfl rfl) ?_
                refine TVt ?_
                refine TVa ?_
                refine TL_nil (TX_next (TC.sub (m':=[(8,_)]) ⟨rfl,trivial⟩ ?_))
                refine TC.pull (is:=[]) (L':=[]) rfl ?_
                refine TC_ret ?_
                obtain rfl:=sj H
                exact TX1
             ·refine TLs ?_
              refine TLs ?_
              refine TLs ?_
              refine TLs ?_
              refine TL_skipU rfl rfl rfl rfl rfl rfl ?_
              refine TL_skipU rfl rfl rfl rfl rfl rfl ?_
              refine TL_skipU rfl rfl rfl rfl rfl rfl ?_
              refine TL_skipU rfl rfl rfl rfl rfl rfl ?_
              refine TL_skipU rfl rfl rfl rfl rfl rfl ?_
              refine TL_skipU rfl rfl rfl rfl rfl rfl ?_
              refine TL_skipU rfl rfl rfl rfl rfl rfl ?_
              refine TL_skipU rfl rfl rfl rfl rfl rfl ?_
              refine TL_skipU rfl rfl rfl rfl rfl rfl ?_
              refine TL_skipU rfl rfl rfl rfl rfl rfl ?_
              refine TL_skipU rfl rfl rfl rfl rfl rfl ?_
              refine TL_skipU rfl rfl rfl rfl rfl rfl ?_
              refine TL_skipU rfl rfl rfl rfl rfl rfl ?_
              refine TL_skipU rfl rfl rfl rfl rfl rfl ?_
              refine TL_skipU rfl rfl rfl rfl rfl rfl ?_
              refine TLs ?_
              refine TVf ?_
              refine TVa ?_
              refine TL_nil (TX_next (TC.sub (m':=[(8,_)]) ⟨rfl,trivial⟩ ?_))
              refine TC.pull (is:=[]) (L':=[]) rfl ?_
              refine TC_ret ?_
              obtain rfl:=sj H
              exact TX1
          ·refine TLs ?_
           refine TLs ?_
           refine TLs ?_
           refine TL_skipU rfl rfl rfl rfl rfl rfl ?_
           refine TL_skipU rfl rfl rfl rfl rfl rfl ?_
           refine TLs ?_
           refine TLs ?_
           refine TL_skipU rfl rfl rfl rfl rfl rfl ?_
           refine TL_skipU rfl rfl rfl rfl rfl rfl ?_
           refine TL_skipU rfl rfl rfl rfl rfl rfl ?_
           refine TLs ?_
           refine TVf ?_
           refine TVm ?_
           refine TLs ?_
           refine TLs ?_
           refine TLs ?_
           refine TLs ?_
           refine TL_skipU rfl rfl rfl rfl rfl rfl ?_
           refine TL_skipU rfl rfl rfl rfl rfl rfl ?_
           refine TL_skipU rfl rfl rfl rfl rfl rfl ?_
           refine TL_skipU rfl rfl rfl rfl rfl rfl ?_
           refine TL_skipU rfl rfl rfl rfl rfl rfl ?_
           refine TL_skipU rfl rfl rfl rfl rfl rfl ?_
           refine TL_skipU rfl rfl rfl rfl rfl rfl ?_
           refine TL_skipU rfl rfl rfl rfl rfl rfl ?_
           refine TL_skipU rfl rfl rfl rfl rfl rfl ?_
           refine TL_skipU rfl rfl rfl rfl rfl rfl ?_
           refine TL_skipU rfl rfl rfl rfl rfl rfl ?_
           refine TL_skipU rfl rfl rfl rfl rfl rfl ?_
           refine TL_skipU rfl rfl rfl rfl rfl rfl ?_
           refine TL_skipU rfl rfl rfl rfl rfl rfl ?_
           refine TL_skipU rfl rfl rfl rfl rfl rfl ?_
           refine TLs ?_
           refine TVf ?_
           refine TVa ?_
           refine TL_nil (TX_next (TC.sub (m':=[(8,_)]) ⟨rfl,trivial⟩ ?_))
           refine TC.pull (is:=[]) (L':=[]) rfl ?_
           refine TC_ret ?_
           obtain rfl:=sj H
           exact TX1
         ·refine TLs ?_
          refine TLs ?_
          refine TLs ?_
          refine TLs ?_
          refine TVf ?_
          refine TVm ?_
          refine TLs ?_
          refine TLs ?_
          refine TLs ?_
          refine TL_skipU rfl rfl rfl rfl rfl rfl ?_
          refine TL_skipU rfl rfl rfl rfl rfl rfl ?_
          refine TLs ?_
          refine TLs ?_
          refine TL_skipU rfl rfl rfl rfl rfl rfl ?_
          refine TL_skipU rfl rfl rfl rfl rfl rfl ?_
          refine TL_skipU rfl rfl rfl rfl rfl rfl ?_
          refine TLs ?_
          refine TVf ?_
          refine TVm ?_
          refine TLs ?_
          refine TLs ?_
          refine TLs ?_
          refine TLs ?_
          refine TL_skipU rfl rfl rfl rfl rfl rfl ?_
          refine TL_skipU rfl rfl rfl rfl rfl rfl ?_
          refine TL_skipU rfl rfl rfl rfl rfl rfl ?_
          refine TL_skipU rfl rfl rfl rfl rfl rfl ?_
          refine TL_skipU rfl rfl rfl rfl rfl rfl ?_
          refine TL_skipU rfl rfl rfl rfl rfl rfl ?_
          refine TL_skipU rfl rfl rfl rfl rfl rfl ?_
          refine TL_skipU rfl rfl rfl rfl rfl rfl ?_
          refine TL_skipU rfl rfl rfl rfl rfl rfl ?_
          refine TL_skipU rfl rfl rfl rfl rfl rfl ?_
          refine TL_skipU rfl rfl rfl rfl rfl rfl ?_
          refine TL_skipU rfl rfl rfl rfl rfl rfl ?_
          refine TL_skipU rfl rfl rfl rfl rfl rfl ?_
          refine TL_skipU rfl rfl rfl rfl rfl rfl ?_
          refine TL_skipU rfl rfl rfl rfl rfl rfl ?_
          refine TLs ?_
          refine TVf ?_
          refine TVa ?_
          refine TL_nil (TX_next (TC.sub (m':=[(8,_)]) ⟨rfl,trivial⟩ ?_))
          refine TC.pull (is:=[]) (L':=[]) rfl ?_
          refine TC_ret ?_
          obtain rfl:=sj H
          exact TX1
      ·exact (Option.some.inj H)
   ·intro hJ
    replace H:=Hj
    refine TFd (d:=33) H (fun hc H=>?_) (fun hc H=>?_)
    ·refine TLs ?_
     refine TLs ?_
     refine TLs ?_
     refine TVt ?_
     refine TVm ?_
     refine TLs ?_
     refine TLs ?_
     refine TLs ?_
     refine TVt ?_
     refine TVm ?_
     refine TLs ?_
     refine TLs ?_
     refine TLs ?_
     refine TVt ?_
     refine TVm ?_
     refine TLs ?_
     refine TLs ?_
     refine TLs ?_
     refine TLs ?_
     refine TLs ?_
     refine TLs ?_
     refine TVt ?_
     refine TVm ?_
     refine TLs ?_
     refine TLs ?_
     refine TLs ?_
     refine TLs ?_
     refine TLs ?_
     refine TLs ?_
     refine TVt ?_
     refine TVm ?_
     refine TLs ?_
     refine TLs ?_
     refine TLs ?_
     refine TLs ?_
     refine TVt ?_
     refine TL_nil ?_
     obtain rfl:=sj H
     exact TXj (rp 42 0) (hJ ())
    ·refine TLw (V_lp (b:=b1) (o:=0) (n:=15) (ps:=[(1,_),(1,_),(1,_),(1,_),(1,_),(1,_),(1,_),(1,_),(1,_),(1,_),(1,_),(1,_),(1,_),(1,_),(1,_)]) ⟨.o 0, .o 1, .o 2, .o 3, .o 4, .o 5, .o 6, .o 7, .o 8, .o 9, .o 10, .o 11, .o 12, .o 13, .o 14,trivial⟩ isAgg26 inf26) ?_
     obtain ⟨r_8,hr_8,H⟩:=bind_elim H
     refine TLu (E_c0 (F16_calls Ac_Suites cc_Suites Ac_Groups cc_Groups Ac_Chain cc_Chain Ac_Roots cc_Roots Ac_Psk cc_Psk c_Server c_Suites c_Groups c_Chain c_Key c_Roots c_Name c_Tickets c_Seal c_Psk c_Tape c_Clock c_Pad c_Limit c_Ring hcc_Suites hcc_Groups hcc_Chain hcc_Roots hcc_Psk r_8 hr_8) call16 ⟨.r 0, .r 1, .r 2, .r 3, .r 4,trivial⟩) (fun g_8=>?_)
     refine TLw (V_un rfl (fun w=>notB w r_8)) ?_
     refine TVf ?_
     refine TVm ?_
     refine TFb (d:=38) H (fun hc H=>?_) (fun hc H=>?_)
     ·refine TLs ?_
      refine TLs ?_
      refine TLs ?_
      refine TVt ?_
      refine TVm ?_
      refine TLs ?_
      refine TLs ?_
      refine TLs ?_
      refine TVt ?_
      refine TVm ?_
      refine TLs ?_
      refine TLs ?_
      refine TLs ?_
      refine TLs ?_
      refine TLs ?_
      refine TLs ?_
      refine TVt ?_
      refine TVm ?_
      refine TLs ?_
      refine TLs ?_
      refine TLs ?_
      refine TLs ?_
      refine TLs ?_
      refine TLs ?_
      refine TVt ?_
      refine TVm ?_
      refine TLs ?_
      refine TLs ?_
      refine TLs ?_
      refine TLs ?_
      refine TVt ?_
      refine TL_nil ?_
      obtain rfl:=sj H
      exact TXj (rp 42 0) (hJ ())
     ·refine TLw (V_fieldE rfl underlying26 rfl rfl inf4 rfl (v:=ptr (some (b1,0)) 0) rfl) ?_
      refine TLw (V_load rfl (.o 0) rfl isAgg4) ?_
      refine TLw (V_un rfl (fun w=>notB w c_Server)) ?_
      refine TVf ?_
      refine TVm ?_
      refine TFb (d:=43) H (fun hc H=>?_) (fun hc H=>?_)
      ·refine TLs ?_
       refine TLs ?_
       refine TLs ?_
       refine TVt ?_
       refine TVm ?_
       refine TLs ?_
       refine TLs ?_
       refine TLs ?_
       refine TLs ?_
       refine TLs ?_
       refine TLs ?_
       refine TVt ?_
       refine TVm ?_
       refine TLs ?_
       refine TLs ?_
       refine TLs ?_
       refine TLs ?_
       refine TLs ?_
       refine TLs ?_
       refine TVt ?_
       refine TVm ?_
       refine TLs ?_
       refine TLs ?_
       refine TLs ?_
       refine TLs ?_
       refine TVt ?_
       refine TL_nil ?_
       obtain rfl:=sj H
       exact TXj (rp 42 0) (hJ ())
      ·refine TLw (V_fieldE rfl underlying30 rfl rfl inf3 rfl (v:=ptr (some (b2,0)) 0) rfl) ?_
       refine TLw (V_load rfl (.o 15) rfl isAgg3) ?_
       refine TLw (V_bin rfl rfl (fun w=>neqI w m_Kind 1)) ?_
       refine TVf ?_
       refine TVm ?_
       refine TFd (d:=48) H (fun hc H=>?_) (fun hc H=>?_)
       ·refine TLs ?_
        refine TLs ?_
        refine TLs ?_
        refine TLs ?_
        refine TLs ?_
        refine TLs ?_
        refine TVt ?_
        refine TVm ?_
        refine TLs ?_
        refine TLs ?_
        refine TLs ?_
        refine TLs ?_
        refine TLs ?_
        refine TLs ?_
        refine TVt ?_
        refine TVm ?_
        refine TLs ?_
        refine TLs ?_
        refine TLs ?_
        refine TLs ?_
        refine TVt ?_
        refine TL_nil ?_
        obtain rfl:=sj H
        exact TXj (rp 42 0) (hJ ())
       ·refine TLw (V_fieldE rfl underlying30 rfl rfl inf22 rfl (v:=ptr (some (b2,3)) 0) rfl) ?_
        refine TLw (V_load rfl (.o 18) rfl isAgg22) ?_
        refine TLw (V_fieldE rfl underlying34 rfl rfl inf3 rfl (v:=ptr (some (b3,0)) 0) rfl) ?_
        refine TLw (V_load rfl (.o 36) rfl isAgg3) ?_
        obtain ⟨r_9,hr_9,H⟩:=bind_elim H
        refine TLu (E_c0 (F23_calls Am_Suites cm_Suites m_Suites r_2.1 hcm_Suites r_9 hr_9) call23 ⟨.r 5,trivial⟩) (fun g_9=>?_)
        refine TLw (V_un rfl (fun w=>notB w r_9)) ?_
        refine TVf ?_
        refine TVm ?_
        refine TFb (d:=56) H (fun hc H=>?_) (fun hc H=>?_)
        ·refine TLs ?_
         refine TLs ?_
         refine TLs ?_
         refine TLs ?_
         refine TLs ?_
         refine TLs ?_
         refine TVt ?_
         refine TVm ?_
         refine TLs ?_
         refine TLs ?_
         refine TLs ?_
         refine TLs ?_
         refine TVt ?_
         refine TL_nil ?_
         obtain rfl:=sj H
         exact TXj (rp 42 0) (hJ ())
        ·refine TLw (V_fieldE rfl underlying30 rfl rfl inf22 rfl (v:=ptr (some (b2,6)) 0) rfl) ?_
         refine TLw (V_load rfl (.o 21) rfl isAgg22) ?_
         refine TLw (V_fieldE rfl underlying34 rfl rfl inf3 rfl (v:=ptr (some (b3,1)) 0) rfl) ?_
         refine TLw (V_load rfl (.o 37) rfl isAgg3) ?_
         obtain ⟨r_10,hr_10,H⟩:=bind_elim H
         refine TLu (E_c0 (F23_calls Am_Groups cm_Groups m_Groups r_2.2.1 hcm_Groups r_10 hr_10) call23 ⟨.r 7,trivial⟩) (fun g_10=>?_)
         refine TLw (V_un rfl (fun w=>notB w r_10)) ?_
         refine TVf ?_
         refine TVm ?_
         refine TFb (d:=64) H (fun hc H=>?_) (fun hc H=>?_)
         ·refine TLs ?_
          refine TLs ?_
          refine TLs ?_
          refine TLs ?_
          refine TVt ?_
          refine TL_nil ?_
          obtain rfl:=sj H
          exact TXj (rp 42 0) (hJ ())
         ·refine TLw (V_fieldE rfl underlying30 rfl rfl inf22 rfl (v:=ptr (some (b2,5)) 0) rfl) ?_
          refine TLw (V_load rfl (.o 20) rfl isAgg22) ?_
          obtain ⟨r_11,hr_11,H⟩:=bind_elim H
          refine TLu (E_c0 (F23_calls Am_Versions cm_Versions m_Versions 772 hcm_Versions r_11 hr_11) call23 ⟨.r 6,trivial⟩) (fun g_11=>?_)
          refine TLw (V_un rfl (fun w=>notB w r_11)) ?_
          refine TVf ?_
          refine TL_nil ?_
          obtain rfl:=sj H
          exact TXj (rp 42 0) (hJ ())
end Go.Proofs
end

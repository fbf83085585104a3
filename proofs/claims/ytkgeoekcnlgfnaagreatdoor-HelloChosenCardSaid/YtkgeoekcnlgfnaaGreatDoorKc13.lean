/-
  Part 13 of the proof of what several laws share.
-/
import Derived.Test.YtkgeoekcnlgfnaaGreatDoorKc1
import Derived.Test.YtkgeoekcnlgfnaaGreatDoorKc2
import Derived.Test.YtkgeoekcnlgfnaaGreatDoorKc3
import Derived.Test.YtkgeoekcnlgfnaaGreatDoorKc4
import Derived.Test.YtkgeoekcnlgfnaaGreatDoorKc5
import Derived.Test.YtkgeoekcnlgfnaaGreatDoorKc6
import Derived.Test.YtkgeoekcnlgfnaaGreatDoorKc7
import Derived.Test.YtkgeoekcnlgfnaaGreatDoorKc12
set_option linter.unusedVariables false
set_option linter.unusedSimpArgs false
section
namespace Go.Proofs
open Go Go.Kx
open TryzI Tryz
def hello_asking_shares_2 (s_Group:Int) (s_Key:Str) (cap0_c_Server:Bool) (cap0_c_Suites:List (Int)) (cap0_c_Groups:List (Int)) (cap0_c_Chain:List (Str)) (cap0_c_Key:Str) (cap0_c_Roots:List (Str)) (cap0_c_Name:Str) (cap0_c_Tickets:Int) (cap0_c_Seal:Str) (cap0_c_Psk:List (Str × Str × Int × Int × Int × Int)) (cap0_c_Tape:Str) (cap0_c_Clock:Int) (cap0_c_Pad:Int) (cap0_c_Limit:Int) (cap0_c_Ring:Int) (cap0_m_Kind:Int) (cap0_m_Random:Str) (cap0_m_Session:Str) (cap0_m_Suites:List (Int)) (cap0_m_Name:Str) (cap0_m_Versions:List (Int)) (cap0_m_Groups:List (Int)) (cap0_m_Schemes:List (Int)) (cap0_m_Modes:List (Int)) (cap0_m_Shares:List (Int × Str)) (cap0_m_Identities:List (Str × Int)) (cap0_m_Binders:List (Str)) (cap0_m_Psk:Int) (cap0_m_Others:List (Int)) (cap0_m_Certs:List (Str)) (cap0_m_Scheme:Int) (cap0_m_Data:Str) (cap0_m_Life:Int) (cap0_m_Add:Int) (cap0_m_Nonce:Str) (cap0_m_Update:Int) (cap0_again:Bool) (cap0_group:Int) (cap0_out_Suite:Int) (cap0_out_Group:Int) (cap0_out_Share:Str) (cap0_out_Retry:Bool) (cap0_out_Psk:Bool) (cap0_out_Alert:Int):Option (Bool) :=
 ltt (decide (s_Group=cap0_out_Group)) fun (x1:Bool)=>(some x1)
set_option maxHeartbeats 4000000 in
set_option maxRecDepth 20000 in
theorem F66_calls (bcap0:Nat) (obcap0:Nat) (bcap02:Nat) (obcap02:Nat) (bcap0_c:Nat) (obcap0_c:Nat) (Acap0_c_Suites:Adr) (ccap0_c_Suites:Nat) (Acap0_c_Groups:Adr) (ccap0_c_Groups:Nat) (Acap0_c_Chain:Adr) (ccap0_c_Chain:Nat) (Acap0_c_Roots:Adr) (ccap0_c_Roots:Nat) (Acap0_c_Psk:Adr) (ccap0_c_Psk:Nat) (bcap0_m:Nat) (obcap0_m:Nat) (Acap0_m_Suites:Adr) (ccap0_m_Suites:Nat) (Acap0_m_Versions:Adr) (ccap0_m_Versions:Nat) (Acap0_m_Groups:Adr) (ccap0_m_Groups:Nat) (Acap0_m_Schemes:Adr) (ccap0_m_Schemes:Nat) (Acap0_m_Modes:Adr) (ccap0_m_Modes:Nat) (Acap0_m_Shares:Adr) (ccap0_m_Shares:Nat) (Acap0_m_Identities:Adr) (ccap0_m_Identities:Nat) (Acap0_m_Binders:Adr) (ccap0_m_Binders:Nat) (Acap0_m_Others:Adr) (ccap0_m_Others:Nat) (Acap0_m_Certs:Adr) (ccap0_m_Certs:Nat) (s_Group:Int) (s_Key:Str) (cap0_c_Server:Bool) (cap0_c_Suites:List (Int)) (cap0_c_Groups:List (Int)) (cap0_c_Chain:List (Str)) (cap0_c_Key:Str) (cap0_c_Roots:List (Str)) (cap0_c_Name:Str) (cap0_c_Tickets:Int) (cap0_c_Seal:Str) (cap0_c_Psk:List (Str × Str × Int × Int × Int × Int)) (cap0_c_Tape:Str) (cap0_c_Clock:Int) (cap0_c_Pad:Int) (cap0_c_Limit:Int) (cap0_c_Ring:Int) (cap0_m_Kind:Int) (cap0_m_Random:Str) (cap0_m_Session:Str) (cap0_m_Suites:List (Int)) (cap0_m_Name:Str) (cap0_m_Versions:List (Int)) (cap0_m_Groups:List (Int)) (cap0_m_Schemes:List (Int)) (cap0_m_Modes:List (Int)) (cap0_m_Shares:List (Int × Str)) (cap0_m_Identities:List (Str × Int)) (cap0_m_Binders:List (Str)) (cap0_m_Psk:Int) (cap0_m_Others:List (Int)) (cap0_m_Certs:List (Str)) (cap0_m_Scheme:Int) (cap0_m_Data:Str) (cap0_m_Life:Int) (cap0_m_Add:Int) (cap0_m_Nonce:Str) (cap0_m_Update:Int) (cap0_again:Bool) (cap0_group:Int) (cap0_out_Suite:Int) (cap0_out_Group:Int) (cap0_out_Share:Str) (cap0_out_Retry:Bool) (cap0_out_Psk:Bool) (cap0_out_Alert:Int) (hccap0_c_Suites:(cap0_c_Suites).length≤ccap0_c_Suites) (hccap0_c_Groups:(cap0_c_Groups).length≤ccap0_c_Groups) (hccap0_c_Chain:(cap0_c_Chain).length≤ccap0_c_Chain) (hccap0_c_Roots:(cap0_c_Roots).length≤ccap0_c_Roots) (hccap0_c_Psk:(cap0_c_Psk).length≤ccap0_c_Psk) (hccap0_m_Suites:(cap0_m_Suites).length≤ccap0_m_Suites) (hccap0_m_Versions:(cap0_m_Versions).length≤ccap0_m_Versions) (hccap0_m_Groups:(cap0_m_Groups).length≤ccap0_m_Groups) (hccap0_m_Schemes:(cap0_m_Schemes).length≤ccap0_m_Schemes) (hccap0_m_Modes:(cap0_m_Modes).length≤ccap0_m_Modes) (hccap0_m_Shares:(cap0_m_Shares).length≤ccap0_m_Shares) (hccap0_m_Identities:(cap0_m_Identities).length≤ccap0_m_Identities) (hccap0_m_Binders:(cap0_m_Binders).length≤ccap0_m_Binders) (hccap0_m_Others:(cap0_m_Others).length≤ccap0_m_Others) (hccap0_m_Certs:(cap0_m_Certs).length≤ccap0_m_Certs) (r:Bool) (H:hello_asking_shares_2 s_Group s_Key cap0_c_Server cap0_c_Suites cap0_c_Groups cap0_c_Chain cap0_c_Key cap0_c_Roots cap0_c_Name cap0_c_Tickets cap0_c_Seal cap0_c_Psk cap0_c_Tape cap0_c_Clock cap0_c_Pad cap0_c_Limit cap0_c_Ring cap0_m_Kind cap0_m_Random cap0_m_Session cap0_m_Suites cap0_m_Name cap0_m_Versions cap0_m_Groups cap0_m_Schemes cap0_m_Modes cap0_m_Shares cap0_m_Identities cap0_m_Binders cap0_m_Psk cap0_m_Others cap0_m_Certs cap0_m_Scheme cap0_m_Data cap0_m_Life cap0_m_Add cap0_m_Nonce cap0_m_Update cap0_again cap0_group cap0_out_Suite cap0_out_Group cap0_out_Share cap0_out_Retry cap0_out_Psk cap0_out_Alert=some r) :
  Does Tryz.prog 66 [aG [(1,[vi s_Group]),(1,[vs s_Key])],ptr (some (bcap0,obcap0)) 0] [] [⟨some (bcap0,obcap0),[ptr (some (bcap02,obcap02)) 0]⟩,⟨some (bcap02,obcap02),[ptr (some (bcap0_c,obcap0_c)) 0]⟩,⟨some (bcap02,obcap02+1),[ptr (some (bcap0_m,obcap0_m)) 0]⟩,⟨some (bcap02,obcap02+2),[vb cap0_again]⟩,⟨some (bcap02,obcap02+3),[vi cap0_group]⟩,⟨some (bcap02,obcap02+4),[vi cap0_out_Suite]⟩,⟨some (bcap02,obcap02+5),[vi cap0_out_Group]⟩,⟨some (bcap02,obcap02+6),[vs cap0_out_Share]⟩,⟨some (bcap02,obcap02+7),[vb cap0_out_Retry]⟩,⟨some (bcap02,obcap02+8),[vb cap0_out_Psk]⟩,⟨some (bcap02,obcap02+9),[vi cap0_out_Alert]⟩,⟨some (bcap0_c,obcap0_c),[vb cap0_c_Server]⟩,⟨some (bcap0_c,obcap0_c+1),[sl Acap0_c_Suites ((cap0_c_Suites).length) ccap0_c_Suites]⟩,⟨some (bcap0_c,obcap0_c+2),[sl Acap0_c_Groups ((cap0_c_Groups).length) ccap0_c_Groups]⟩,⟨some (bcap0_c,obcap0_c+3),[sl Acap0_c_Chain ((cap0_c_Chain).length) ccap0_c_Chain]⟩,⟨some (bcap0_c,obcap0_c+4),[vs cap0_c_Key]⟩,⟨some (bcap0_c,obcap0_c+5),[sl Acap0_c_Roots ((cap0_c_Roots).length) ccap0_c_Roots]⟩,⟨some (bcap0_c,obcap0_c+6),[vs cap0_c_Name]⟩,⟨some (bcap0_c,obcap0_c+7),[vi cap0_c_Tickets]⟩,⟨some (bcap0_c,obcap0_c+8),[vs cap0_c_Seal]⟩,⟨some (bcap0_c,obcap0_c+9),[sl Acap0_c_Psk ((cap0_c_Psk).length) ccap0_c_Psk]⟩,⟨some (bcap0_c,obcap0_c+10),[vs cap0_c_Tape]⟩,⟨some (bcap0_c,obcap0_c+11),[vi cap0_c_Clock]⟩,⟨some (bcap0_c,obcap0_c+12),[vi cap0_c_Pad]⟩,⟨some (bcap0_c,obcap0_c+13),[vi cap0_c_Limit]⟩,⟨some (bcap0_c,obcap0_c+14),[vi cap0_c_Ring]⟩,⟨Acap0_c_Suites,eI cap0_c_Suites⟩,⟨Acap0_c_Groups,eI cap0_c_Groups⟩,⟨Acap0_c_Chain,eS cap0_c_Chain⟩,⟨Acap0_c_Roots,eS cap0_c_Roots⟩,⟨Acap0_c_Psk,eF (fun p:Str × Str × Int × Int × Int × Int=>[vs p.1,vs p.2.1,vi p.2.2.1,vi p.2.2.2.1,vi p.2.2.2.2.1,vi p.2.2.2.2.2]) cap0_c_Psk⟩,⟨some (bcap0_m,obcap0_m),[vi cap0_m_Kind]⟩,⟨some (bcap0_m,obcap0_m+1),[vs cap0_m_Random]⟩,⟨some (bcap0_m,obcap0_m+2),[vs cap0_m_Session]⟩,⟨some (bcap0_m,obcap0_m+3),[sl Acap0_m_Suites ((cap0_m_Suites).length) ccap0_m_Suites]⟩,⟨some (bcap0_m,obcap0_m+4),[vs cap0_m_Name]⟩,⟨some (bcap0_m,obcap0_m+5),[sl Acap0_m_Versions ((cap0_m_Versions).length) ccap0_m_Versions]⟩,⟨some (bcap0_m,obcap0_m+6),[sl Acap0_m_Groups ((cap0_m_Groups).length) ccap0_m_Groups]⟩,⟨some (bcap0_m,obcap0_m+7),[sl Acap0_m_Schemes ((cap0_m_Schemes).length) ccap0_m_Schemes]⟩,⟨some (bcap0_m,obcap0_m+8),[sl Acap0_m_Modes ((cap0_m_Modes).length) ccap0_m_Modes]⟩,⟨some (bcap0_m,obcap0_m+9),[sl Acap0_m_Shares ((cap0_m_Shares).length) ccap0_m_Shares]⟩,⟨some (bcap0_m,obcap0_m+10),[sl Acap0_m_Identities ((cap0_m_Identities).length) ccap0_m_Identities]⟩,⟨some (bcap0_m,obcap0_m+11),[sl Acap0_m_Binders ((cap0_m_Binders).length) ccap0_m_Binders]⟩,⟨some (bcap0_m,obcap0_m+12),[vi cap0_m_Psk]⟩,⟨some (bcap0_m,obcap0_m+13),[sl Acap0_m_Others ((cap0_m_Others).length) ccap0_m_Others]⟩,⟨some (bcap0_m,obcap0_m+14),[sl Acap0_m_Certs ((cap0_m_Certs).length) ccap0_m_Certs]⟩,⟨some (bcap0_m,obcap0_m+15),[vi cap0_m_Scheme]⟩,⟨some (bcap0_m,obcap0_m+16),[vs cap0_m_Data]⟩,⟨some (bcap0_m,obcap0_m+17),[vi cap0_m_Life]⟩,⟨some (bcap0_m,obcap0_m+18),[vi cap0_m_Add]⟩,⟨some (bcap0_m,obcap0_m+19),[vs cap0_m_Nonce]⟩,⟨some (bcap0_m,obcap0_m+20),[vi cap0_m_Update]⟩,⟨Acap0_m_Suites,eI cap0_m_Suites⟩,⟨Acap0_m_Versions,eI cap0_m_Versions⟩,⟨Acap0_m_Groups,eI cap0_m_Groups⟩,⟨Acap0_m_Schemes,eI cap0_m_Schemes⟩,⟨Acap0_m_Modes,eI cap0_m_Modes⟩,⟨Acap0_m_Shares,eF (fun p:Int × Str=>[vi p.1,vs p.2]) cap0_m_Shares⟩,⟨Acap0_m_Identities,eF (fun p:Str × Int=>[vs p.1,vi p.2]) cap0_m_Identities⟩,⟨Acap0_m_Binders,eS cap0_m_Binders⟩,⟨Acap0_m_Others,eI cap0_m_Others⟩,⟨Acap0_m_Certs,eS cap0_m_Certs⟩] (Γ:=Unit) (fun g=>vb r) (fun g=>[]):=by
 intro w hmem hro hd
 refine calls_of (N:=12) (m0:=[(0,aG [(1,[vi s_Group]),(1,[vs s_Key])]),(1,ptr (some (bcap0,obcap0)) 0)]) func66 rfl ntmps66 (argM_ok [aG [(1,[vi s_Group]),(1,[vs s_Key])],ptr (some (bcap0,obcap0)) 0]) rfl hmem hro hd ?_
 unfold hello_asking_shares_2 at H
 refine TC_seq (TC_region (TLe (E_boxP [(1,[vi s_Group]),(1,[vs s_Key])] rfl rfl ⟨rfl,rfl,trivial⟩) (fun b1=>?_)))
 refine TVa ?_
 refine TL_nil (TX_next (TC_seq ?_))
 obtain ⟨x1,hx1,H⟩:=ltt_elim H
 refine TA_begin [] 9 (by kernel_rfl) (N:=9) rfl ?_
 refine TA_mix (is:=[]) (done':=dn 9 255) [itV 0 4 (ptr (some (b1,0)) 0) [],itV 1 5 (vi s_Group) [0],itV 2 6 (ptr (some (bcap02,obcap02)) 0) [],itV 3 7 (ptr (some (bcap02,obcap02)) 0) [2],itV 4 8 (ptr (some (bcap02,obcap02+4)) 0) [3],itV 5 9 (ptr (some (bcap02,obcap02+5)) 0) [4],itV 6 10 (vi cap0_out_Group) [5],itV 7 11 (vb (decide (s_Group=cap0_out_Group))) [6,1]] [] 1 (by kernel_rfl) (QP.then QP.body) (by kernel_rfl) rfl (.v rfl (V_fe underlying50 inf3) (.v rfl (V_load rfl (.o 0) rfl isAgg3) (.v rfl (V_load rfl (.r 0) rfl isAgg70) (.v rfl (V_nilCheck rfl) (.v rfl (V_fe underlying74 inf34) (.v rfl (V_fe underlying34 inf3) (.v rfl (V_load rfl (.r 6) rfl isAgg3) (.v rfl (V_bin rfl rfl (fun w=>eqlI w s_Group cap0_out_Group)) .nil)))))))) .nil (by kernel_rfl) rfl (fun γ=>?_)
 refine TA_cut [(11,vb (decide (s_Group=cap0_out_Group))),(3,vb false)] [⟨some (b1,0),[vi s_Group]⟩,⟨some (b1,1),[vs s_Key]⟩] ⟨rfl,rfl,trivial⟩ rfl ?_
 refine TA_all (rs:=[8]) (by kernel_rfl) rfl ?_
 refine ⟨?_,trivial⟩
 refine TO_v (is:=[]) (done':=dn 9 511) rfl rfl rfl rfl (by kernel_rfl) (V_assign rfl) (fun _=>rfl) ?_
 refine TA_re (d:=3) (v:=vb (decide (s_Group=cap0_out_Group))) (v':=vb x1) rfl (congrArg vb hx1) ?_
 refine TA_done (by kernel_rfl) ?_ 0
 refine TX_next (TC_ret ?_)
 obtain rfl:=sj H
 exact TX1
end Go.Proofs
end

section
namespace Go.Proofs
open Go Go.Kx
open TryzI Tryz
def slices_IndexFunc___api_Share_api_Share__fn1_64.b0 (s_:List (Int × Str)) (fc0_Group:Int) (fc0_Key:Str) (s0:Int):Option ((Int) ⊕ ((Unit) ⊕ (Int))) :=
 if s0<((s_).length:Int) then (if 0≤s0∧s0<((s_).length:Int) then ((hello_asking_shares_1 ((lg s_ ((s0).toNat)).1) ((lg s_ ((s0).toNat)).2) fc0_Group fc0_Key).bind fun (r_1:Bool)=>(if r_1=true then (some (.inr (.inr s0))) else (some (.inl (w64 (s0+1)))))) else none) else (some (.inr (.inl ())))
def slices_IndexFunc___api_Share_api_Share__fn1_64 (s_:List (Int × Str)) (fc0_Group:Int) (fc0_Key:Str):Option (Int) :=
 (loop (slices_IndexFunc___api_Share_api_Share__fn1_64.b0 s_ fc0_Group fc0_Key) BIG 0).bind fun (t_1:(Unit) ⊕ (Int))=>(match t_1 with | .inl t_1=>(some (-1)) | .inr rv=>some rv)
def slices_IndexFunc___api_Share_api_Share__fn1_66.b0 (s_:List (Int × Str)) (fc0_c_Server:Bool) (fc0_c_Suites:List (Int)) (fc0_c_Groups:List (Int)) (fc0_c_Chain:List (Str)) (fc0_c_Key:Str) (fc0_c_Roots:List (Str)) (fc0_c_Name:Str) (fc0_c_Tickets:Int) (fc0_c_Seal:Str) (fc0_c_Psk:List (Str × Str × Int × Int × Int × Int)) (fc0_c_Tape:Str) (fc0_c_Clock:Int) (fc0_c_Pad:Int) (fc0_c_Limit:Int) (fc0_c_Ring:Int) (fc0_m_Kind:Int) (fc0_m_Random:Str) (fc0_m_Session:Str) (fc0_m_Suites:List (Int)) (fc0_m_Name:Str) (fc0_m_Versions:List (Int)) (fc0_m_Groups:List (Int)) (fc0_m_Schemes:List (Int)) (fc0_m_Modes:List (Int)) (fc0_m_Shares:List (Int × Str)) (fc0_m_Identities:List (Str × Int)) (fc0_m_Binders:List (Str)) (fc0_m_Psk:Int) (fc0_m_Others:List (Int)) (fc0_m_Certs:List (Str)) (fc0_m_Scheme:Int) (fc0_m_Data:Str) (fc0_m_Life:Int) (fc0_m_Add:Int) (fc0_m_Nonce:Str) (fc0_m_Update:Int) (fc0_again:Bool) (fc0_group:Int) (fc0_out_Suite:Int) (fc0_out_Group:Int) (fc0_out_Share:Str) (fc0_out_Retry:Bool) (fc0_out_Psk:Bool) (fc0_out_Alert:Int) (s0:Int):Option ((Int) ⊕ ((Unit) ⊕ (Int))) :=
 if s0<((s_).length:Int) then (if 0≤s0∧s0<((s_).length:Int) then ((hello_asking_shares_2 ((lg s_ ((s0).toNat)).1) ((lg s_ ((s0).toNat)).2) fc0_c_Server fc0_c_Suites fc0_c_Groups fc0_c_Chain fc0_c_Key fc0_c_Roots fc0_c_Name fc0_c_Tickets fc0_c_Seal fc0_c_Psk fc0_c_Tape fc0_c_Clock fc0_c_Pad fc0_c_Limit fc0_c_Ring fc0_m_Kind fc0_m_Random fc0_m_Session fc0_m_Suites fc0_m_Name fc0_m_Versions fc0_m_Groups fc0_m_Schemes fc0_m_Modes fc0_m_Shares fc0_m_Identities fc0_m_Binders fc0_m_Psk fc0_m_Others fc0_m_Certs fc0_m_Scheme fc0_m_Data fc0_m_Life fc0_m_Add fc0_m_Nonce fc0_m_Update fc0_again fc0_group fc0_out_Suite fc0_out_Group fc0_out_Share fc0_out_Retry fc0_out_Psk fc0_out_Alert).bind fun (r_1:Bool)=>(if r_1=true then (some (.inr (.inr s0))) else (some (.inl (w64 (s0+1)))))) else none) else (some (.inr (.inl ())))
def slices_IndexFunc___api_Share_api_Share__fn1_66 (s_:List (Int × Str)) (fc0_c_Server:Bool) (fc0_c_Suites:List (Int)) (fc0_c_Groups:List (Int)) (fc0_c_Chain:List (Str)) (fc0_c_Key:Str) (fc0_c_Roots:List (Str)) (fc0_c_Name:Str) (fc0_c_Tickets:Int) (fc0_c_Seal:Str) (fc0_c_Psk:List (Str × Str × Int × Int × Int × Int)) (fc0_c_Tape:Str) (fc0_c_Clock:Int) (fc0_c_Pad:Int) (fc0_c_Limit:Int) (fc0_c_Ring:Int) (fc0_m_Kind:Int) (fc0_m_Random:Str) (fc0_m_Session:Str) (fc0_m_Suites:List (Int)) (fc0_m_Name:Str) (fc0_m_Versions:List (Int)) (fc0_m_Groups:List (Int)) (fc0_m_Schemes:List (Int)) (fc0_m_Modes:List (Int)) (fc0_m_Shares:List (Int × Str)) (fc0_m_Identities:List (Str × Int)) (fc0_m_Binders:List (Str)) (fc0_m_Psk:Int) (fc0_m_Others:List (Int)) (fc0_m_Certs:List (Str)) (fc0_m_Scheme:Int) (fc0_m_Data:Str) (fc0_m_Life:Int) (fc0_m_Add:Int) (fc0_m_Nonce:Str) (fc0_m_Update:Int) (fc0_again:Bool) (fc0_group:Int) (fc0_out_Suite:Int) (fc0_out_Group:Int) (fc0_out_Share:Str) (fc0_out_Retry:Bool) (fc0_out_Psk:Bool) (fc0_out_Alert:Int):Option (Int) :=
 (loop (slices_IndexFunc___api_Share_api_Share__fn1_66.b0 s_ fc0_c_Server fc0_c_Suites fc0_c_Groups fc0_c_Chain fc0_c_Key fc0_c_Roots fc0_c_Name fc0_c_Tickets fc0_c_Seal fc0_c_Psk fc0_c_Tape fc0_c_Clock fc0_c_Pad fc0_c_Limit fc0_c_Ring fc0_m_Kind fc0_m_Random fc0_m_Session fc0_m_Suites fc0_m_Name fc0_m_Versions fc0_m_Groups fc0_m_Schemes fc0_m_Modes fc0_m_Shares fc0_m_Identities fc0_m_Binders fc0_m_Psk fc0_m_Others fc0_m_Certs fc0_m_Scheme fc0_m_Data fc0_m_Life fc0_m_Add fc0_m_Nonce fc0_m_Update fc0_again fc0_group fc0_out_Suite fc0_out_Group fc0_out_Share fc0_out_Retry fc0_out_Psk fc0_out_Alert) BIG 0).bind fun (t_1:(Unit) ⊕ (Int))=>(match t_1 with | .inl t_1=>(some (-1)) | .inr rv=>some rv)
set_option maxHeartbeats 4000000 in
set_option maxRecDepth 20000 in
theorem F65_fn1_64_calls (As_:Adr) (cs_:Nat) (bfc0:Nat) (obfc0:Nat) (s_:List (Int × Str)) (fc0_Group:Int) (fc0_Key:Str) (hcs_:(s_).length≤cs_) (r:Int) (H:slices_IndexFunc___api_Share_api_Share__fn1_64 s_ fc0_Group fc0_Key=some r) :
  Does Tryz.prog 65 [sl As_ ((s_).length) cs_,Value.func (.func 64) #[] #[ptr (some (bfc0,obfc0)) 0]] [] [⟨As_,eF (fun p:Int × Str=>[vi p.1,vs p.2]) s_⟩,⟨some (bfc0,obfc0),[vi fc0_Group]⟩,⟨some (bfc0,obfc0+1),[vs fc0_Key]⟩] (Γ:=Unit) (fun g=>vi r) (fun g=>[]):=by
 intro w hmem hro hd
 refine calls_of (N:=19) (m0:=[(0,sl As_ ((s_).length) cs_),(1,Value.func (.func 64) #[] #[ptr (some (bfc0,obfc0)) 0])]) func65 rfl ntmps65 (argM_ok [sl As_ ((s_).length) cs_,Value.func (.func 64) #[] #[ptr (some (bfc0,obfc0)) 0]]) rfl hmem hro hd ?_
 unfold slices_IndexFunc___api_Share_api_Share__fn1_64 at H
 refine TC_seq (TC_region (TVa ?_))
 refine TL_nil (TX_next (TC_seq (TC_seq (TC_region (TVm ?_)))))
 refine TLv (V_len_slice rfl underlying27) ?_
 refine TVm ?_
 refine TL_nil (TX_next (TC_block ?_))
 obtain ⟨t_1,Hl,H⟩:=bind_elim H
 refine TC.sub (m':=[(0,_),(1,_),(7,_),(8,_)]) ⟨rfl,rfl,rfl,rfl,trivial⟩ ?_
 refine TC.pull (is:=[]) (L':=[]) rfl ?_
 refine TC_loopR (id:=0) (body:=(slices_IndexFunc___api_Share_api_Share__fn1_64.b0 s_ fc0_Group fc0_Key)) (σ:=Int) (Γ:=Unit) (Γx:=Unit) (fun s0 g0_=>[(0,sl As_ ((s_).length) cs_),(1,Value.func (.func 64) #[] #[ptr (some (bfc0,obfc0)) 0]),(7,vi ((s_).length:Int)),(8,vi s0)]) (fun s0 g0_=>[]) (fun t g=>[]) (fun t g=>[]) r ?_ BIG 0 () t_1 Hl ?_
 ·intro s0 g0_ r1 H K hK hE hR1
  unfold slices_IndexFunc___api_Share_api_Share__fn1_64.b0 at H
  refine TC_seq (TC_region (TLv (V_bin rfl rfl (fun w=>lssI w s0 ((s_).length:Int))) ?_))
  refine TL_nil (TX_next (TC_seq (TCd H (fun hc H=>?_) (fun hc H=>?_))))
  ·refine TC_skip (TX_next (TC_seq (TC_block (TC_seq (TC_region (TVm ?_))))))
   refine TVa ?_
   refine TL_nil (TX_next (TC_seq (TC_region (TVm ?_))))
   refine TVm ?_
   refine TVm ?_
   obtain ⟨h1,H⟩:=if_elim H
   refine TLv (V_idxSlS (i:=s0) rfl rfl underlying27 inf50 rfl (.r 0) (eF_ne2 (s:=2) (fun _=>rfl) rfl (toNat_lt h1.1 h1.2)) h1.1 h1.2 (k:=((s0).toNat) * 2) rfl) ?_
   refine TLv (V_loadPart (n:=2) (ds:=[vi ((lg s_ ((s0).toNat)).1),vs ((lg s_ ((s0).toNat)).2)]) rfl (.r 0) (part_eF (g:=fun p:Int × Str=>[vi p.1,vs p.2]) (s:=2) (fun _=>rfl) s_ ((s0).toNat) (toNat_lt h1.1 h1.2)) rfl rfl isAgg50 inf50 rfl) ?_
   obtain ⟨r_1,hr_1,H⟩:=bind_elim H
   refine TLe (E_c0V (vs:=[aG [(1,[vi ((lg s_ ((s0).toNat)).1)]),(1,[vs ((lg s_ ((s0).toNat)).2)])]]) (cap:=[ptr (some (bfc0,obfc0)) 0]) (F64_calls bfc0 obfc0 ((lg s_ ((s0).toNat)).1) ((lg s_ ((s0).toNat)).2) fc0_Group fc0_Key r_1 hr_1) call64 ⟨.r 1, .r 2,trivial⟩) (fun g_1=>?_)
   refine TL_nil (TX_next (TCb H (fun hc H=>?_) (fun hc H=>?_)))
   ·refine TC_seq (TC_region (TVm ?_))
    refine TVa ?_
    refine TL_nil (TX_next (TC_ret (TX_block_ret (TX_then_ret (TX_then_ret (TX_block_ret (TX_then_ret ?_)))))))
    have hrv:=(hR1 _ (Option.some.inj H).symm)
    subst hrv
    exact TX1
   ·refine TC_skip (TX_block_normal (TX_next (TC_region (TLv (V_bin rfl rfl (fun w=>addI w s0 1)) ?_))))
    refine TVm ?_
    refine TL_nil ?_
    obtain rfl:=sj H
    exact TXk [] (hK (w64 (s0+1)) rfl ())
  ·refine TC_exit (TX_then_exit (TX_then_exit ?_))
   obtain rfl:=sj H
   exact TXj [] (hE () rfl ())
 ·rcases t_1 with t_1 | rv
  ·intro gx1
   dsimp only at H
   refine TX_block_exit (TX_next (TC_seq (TC_region (TVa ?_))))
   refine TL_nil (TX_next (TC_ret ?_))
   obtain rfl:=sj H
   exact TX1
  ·exact (Option.some.inj H)
set_option maxHeartbeats 4000000 in
set_option maxRecDepth 20000 in
theorem F65_fn1_66_calls (As_:Adr) (cs_:Nat) (bfc0:Nat) (obfc0:Nat) (bfc02:Nat) (obfc02:Nat) (bfc0_c:Nat) (obfc0_c:Nat) (Afc0_c_Suites:Adr) (cfc0_c_Suites:Nat) (Afc0_c_Groups:Adr) (cfc0_c_Groups:Nat) (Afc0_c_Chain:Adr) (cfc0_c_Chain:Nat) (Afc0_c_Roots:Adr) (cfc0_c_Roots:Nat) (Afc0_c_Psk:Adr) (cfc0_c_Psk:Nat) (bfc0_m:Nat) (obfc0_m:Nat) (Afc0_m_Suites:Adr) (cfc0_m_Suites:Nat) (Afc0_m_Versions:Adr) (cfc0_m_Versions:Nat) (Afc0_m_Groups:Adr) (cfc0_m_Groups:Nat) (Afc0_m_Schemes:Adr) (cfc0_m_Schemes:Nat) (Afc0_m_Modes:Adr) (cfc0_m_Modes:Nat) (Afc0_m_Shares:Adr) (cfc0_m_Shares:Nat) (Afc0_m_Identities:Adr) (cfc0_m_Identities:Nat) (Afc0_m_Binders:Adr) (cfc0_m_Binders:Nat) (Afc0_m_Others:Adr) (cfc0_m_Others:Nat) (Afc0_m_Certs:Adr) (cfc0_m_Certs:Nat) (s_:List (Int × Str)) (fc0_c_Server:Bool) (fc0_c_Suites:List (Int)) (fc0_c_Groups:List (Int)) (fc0_c_Chain:List (Str)) (fc0_c_Key:Str) (fc0_c_Roots:List (Str)) (fc0_c_Name:Str) (fc0_c_Tickets:Int) (fc0_c_Seal:Str) (fc0_c_Psk:List (Str × Str × Int × Int × Int × Int)) (fc0_c_Tape:Str) (fc0_c_Clock:Int) (fc0_c_Pad:Int) (fc0_c_Limit:Int) (fc0_c_Ring:Int) (fc0_m_Kind:Int) (fc0_m_Random:Str) (fc0_m_Session:Str) (fc0_m_Suites:List (Int)) (fc0_m_Name:Str) (fc0_m_Versions:List (Int)) (fc0_m_Groups:List (Int)) (fc0_m_Schemes:List (Int)) (fc0_m_Modes:List (Int)) (fc0_m_Shares:List (Int × Str)) (fc0_m_Identities:List (Str × Int)) (fc0_m_Binders:List (Str)) (fc0_m_Psk:Int) (fc0_m_Others:List (Int)) (fc0_m_Certs:List (Str)) (fc0_m_Scheme:Int) (fc0_m_Data:Str) (fc0_m_Life:Int) (fc0_m_Add:Int) (fc0_m_Nonce:Str) (fc0_m_Update:Int) (fc0_again:Bool) (fc0_group:Int) (fc0_out_Suite:Int) (fc0_out_Group:Int) (fc0_out_Share:Str) (fc0_out_Retry:Bool) (fc0_out_Psk:Bool) (fc0_out_Alert:Int) (hcs_:(s_).length≤cs_) (hcfc0_c_Suites:(fc0_c_Suites).length≤cfc0_c_Suites) (hcfc0_c_Groups:(fc0_c_Groups).length≤cfc0_c_Groups) (hcfc0_c_Chain:(fc0_c_Chain).length≤cfc0_c_Chain) (hcfc0_c_Roots:(fc0_c_Roots).length≤cfc0_c_Roots) (hcfc0_c_Psk:(fc0_c_Psk).length≤cfc0_c_Psk) (hcfc0_m_Suites:(fc0_m_Suites).length≤cfc0_m_Suites) (hcfc0_m_Versions:(fc0_m_Versions).length≤cfc0_m_Versions) (hcfc0_m_Groups:(fc0_m_Groups).length≤cfc0_m_Groups) (hcfc0_m_Schemes:(fc0_m_Schemes).length≤cfc0_m_Schemes) (hcfc0_m_Modes:(fc0_m_Modes).length≤cfc0_m_Modes) (hcfc0_m_Shares:(fc0_m_Shares).length≤cfc0_m_Shares) (hcfc0_m_Identities:(fc0_m_Identities).length≤cfc0_m_Identities) (hcfc0_m_Binders:(fc0_m_Binders).length≤cfc0_m_Binders) (hcfc0_m_Others:(fc0_m_Others).length≤cfc0_m_Others) (hcfc0_m_Certs:(fc0_m_Certs).length≤cfc0_m_Certs) (r:Int) (H:slices_IndexFunc___api_Share_api_Share__fn1_66 s_ fc0_c_Server fc0_c_Suites fc0_c_Groups fc0_c_Chain fc0_c_Key fc0_c_Roots fc0_c_Name fc0_c_Tickets fc0_c_Seal fc0_c_Psk fc0_c_Tape fc0_c_Clock fc0_c_Pad fc0_c_Limit fc0_c_Ring fc0_m_Kind fc0_m_Random fc0_m_Session fc0_m_Suites fc0_m_Name fc0_m_Versions fc0_m_Groups fc0_m_Schemes fc0_m_Modes fc0_m_Shares fc0_m_Identities fc0_m_Binders fc0_m_Psk fc0_m_Others fc0_m_Certs fc0_m_Scheme fc0_m_Data fc0_m_Life fc0_m_Add fc0_m_Nonce fc0_m_Update fc0_again fc0_group fc0_out_Suite fc0_out_Group fc0_out_Share fc0_out_Retry fc0_out_Psk fc0_out_Alert=some r) :
  Does Tryz.prog 65 [sl As_ ((s_).length) cs_,Value.func (.func 66) #[] #[ptr (some (bfc0,obfc0)) 0]] [] [⟨As_,eF (fun p:Int × Str=>[vi p.1,vs p.2]) s_⟩,⟨some (bfc0,obfc0),[ptr (some (bfc02,obfc02)) 0]⟩,⟨some (bfc02,obfc02),[ptr (some (bfc0_c,obfc0_c)) 0]⟩,⟨some (bfc02,obfc02+1),[ptr (some (bfc0_m,obfc0_m)) 0]⟩,⟨some (bfc02,obfc02+2),[vb fc0_again]⟩,⟨some (bfc02,obfc02+3),[vi fc0_group]⟩,⟨some (bfc02,obfc02+4),[vi fc0_out_Suite]⟩,⟨some (bfc02,obfc02+5),[vi fc0_out_Group]⟩,⟨some (bfc02,obfc02+6),[vs fc0_out_Share]⟩,⟨some (bfc02,obfc02+7),[vb fc0_out_Retry]⟩,⟨some (bfc02,obfc02+8),[vb fc0_out_Psk]⟩,⟨some (bfc02,obfc02+9),[vi fc0_out_Alert]⟩,⟨some (bfc0_c,obfc0_c),[vb fc0_c_Server]⟩,⟨some (bfc0_c,obfc0_c+1),[sl Afc0_c_Suites ((fc0_c_Suites).length) cfc0_c_Suites]⟩,⟨some (bfc0_c,obfc0_c+2),[sl Afc0_c_Groups ((fc0_c_Groups).length) cfc0_c_Groups]⟩,⟨some (bfc0_c,obfc0_c+3),[sl Afc0_c_Chain ((fc0_c_Chain).length) cfc0_c_Chain]⟩,⟨some (bfc0_c,obfc0_c+4),[vs fc0_c_Key]⟩,⟨some (bfc0_c,obfc0_c+5),[sl Afc0_c_Roots ((fc0_c_Roots).length) cfc0_c_Roots]⟩,⟨some (bfc0_c,obfc0_c+6),[vs fc0_c_Name]⟩,⟨some (bfc0_c,obfc0_c+7),[vi fc0_c_Tickets]⟩,⟨some (bfc0_c,obfc0_c+8),[vs fc0_c_Seal]⟩,⟨some (bfc0_c,obfc0_c+9),[sl Afc0_c_Psk ((fc0_c_Psk).length) cfc0_c_Psk]⟩,⟨some (bfc0_c,obfc0_c+10),[vs fc0_c_Tape]⟩,⟨some (bfc0_c,obfc0_c+11),[vi fc0_c_Clock]⟩,⟨some (bfc0_c,obfc0_c+12),[vi fc0_c_Pad]⟩,⟨some (bfc0_c,obfc0_c+13),[vi fc0_c_Limit]⟩,⟨some (bfc0_c,obfc0_c+14),[vi fc0_c_Ring]⟩,⟨Afc0_c_Suites,eI fc0_c_Suites⟩,⟨Afc0_c_Groups,eI fc0_c_Groups⟩,⟨Afc0_c_Chain,eS fc0_c_Chain⟩,⟨Afc0_c_Roots,eS fc0_c_Roots⟩,⟨Afc0_c_Psk,eF (fun p:Str × Str × Int × Int × Int × Int=>[vs p.1,vs p.2.1,vi p.2.2.1,vi p.2.2.2.1,vi p.2.2.2.2.1,vi p.2.2.2.2.2]) fc0_c_Psk⟩,⟨some (bfc0_m,obfc0_m),[vi fc0_m_Kind]⟩,⟨some (bfc0_m,obfc0_m+1),[vs fc0_m_Random]⟩,⟨some (bfc0_m,obfc0_m+2),[vs fc0_m_Session]⟩,⟨some (bfc0_m,obfc0_m+3),[sl Afc0_m_Suites ((fc0_m_Suites).length) cfc0_m_Suites]⟩,⟨some (bfc0_m,obfc0_m+4),[vs fc0_m_Name]⟩,⟨some (bfc0_m,obfc0_m+5),[sl Afc0_m_Versions ((fc0_m_Versions).length) cfc0_m_Versions]⟩,⟨some (bfc0_m,obfc0_m+6),[sl Afc0_m_Groups ((fc0_m_Groups).length) cfc0_m_Groups]⟩,⟨some (bfc0_m,obfc0_m+7),[sl Afc0_m_Schemes ((fc0_m_Schemes).length) cfc0_m_Schemes]⟩,⟨some (bfc0_m,obfc0_m+8),[sl Afc0_m_Modes ((fc0_m_Modes).length) cfc0_m_Modes]⟩,⟨some (bfc0_m,obfc0_m+9),[sl Afc0_m_Shares ((fc0_m_Shares).length) cfc0_m_Shares]⟩,⟨some (bfc0_m,obfc0_m+10),[sl Afc0_m_Identities ((fc0_m_Identities).length) cfc0_m_Identities]⟩,⟨some (bfc0_m,obfc0_m+11),[sl Afc0_m_Binders ((fc0_m_Binders).length) cfc0_m_Binders]⟩,⟨some (bfc0_m,obfc0_m+12),[vi fc0_m_Psk]⟩,⟨some (bfc0_m,obfc0_m+13),[sl Afc0_m_Others ((fc0_m_Others).length) cfc0_m_Others]⟩,⟨some (bfc0_m,obfc0_m+14),[sl Afc0_m_Certs ((fc0_m_Certs).length) cfc0_m_Certs]⟩,⟨some (bfc0_m,obfc0_m+15),[vi fc0_m_Scheme]⟩,⟨some (bfc0_m,obfc0_m+16),[vs fc0_m_Data]⟩,⟨some (bfc0_m,obfc0_m+17),[vi fc0_m_Life]⟩,⟨some (bfc0_m,obfc0_m+18),[vi fc0_m_Add]⟩,⟨some (bfc0_m,obfc0_m+19),[vs fc0_m_Nonce]⟩,⟨some (bfc0_m,obfc0_m+20),[vi fc0_m_Update]⟩,⟨Afc0_m_Suites,eI fc0_m_Suites⟩,⟨Afc0_m_Versions,eI fc0_m_Versions⟩,⟨Afc0_m_Groups,eI fc0_m_Groups⟩,⟨Afc0_m_Schemes,eI fc0_m_Schemes⟩,⟨Afc0_m_Modes,eI fc0_m_Modes⟩,⟨Afc0_m_Shares,eF (fun p:Int × Str=>[vi p.1,vs p.2]) fc0_m_Shares⟩,⟨Afc0_m_Identities,eF (fun p:Str × Int=>[vs p.1,vi p.2]) fc0_m_Identities⟩,⟨Afc0_m_Binders,eS fc0_m_Binders⟩,⟨Afc0_m_Others,eI fc0_m_Others⟩,⟨Afc0_m_Certs,eS fc0_m_Certs⟩] (Γ:=Unit) (fun g=>vi r) (fun g=>[]):=by
 intro w hmem hro hd
 refine calls_of (N:=19) (m0:=[(0,sl As_ ((s_).length) cs_),(1,Value.func (.func 66) #[] #[ptr (some (bfc0,obfc0)) 0])]) func65 rfl ntmps65 (argM_ok [sl As_ ((s_).length) cs_,Value.func (.func 66) #[] #[ptr (some (bfc0,obfc0)) 0]]) rfl hmem hro hd ?_
 unfold slices_IndexFunc___api_Share_api_Share__fn1_66 at H
 refine TC_seq (TC_region (TVa ?_))
 refine TL_nil (TX_next (TC_seq (TC_seq (TC_region (TVm ?_)))))
 refine TLv (V_len_slice rfl underlying27) ?_
 refine TVm ?_
 refine TL_nil (TX_next (TC_block ?_))
 obtain ⟨t_1,Hl,H⟩:=bind_elim H
 refine TC.sub (m':=[(0,_),(1,_),(7,_),(8,_)]) ⟨rfl,rfl,rfl,rfl,trivial⟩ ?_
 refine TC.pull (is:=[]) (L':=[]) rfl ?_
 refine TC_loopR (id:=0) (body:=(slices_IndexFunc___api_Share_api_Share__fn1_66.b0 s_ fc0_c_Server fc0_c_Suites fc0_c_Groups fc0_c_Chain fc0_c_Key fc0_c_Roots fc0_c_Name fc0_c_Tickets fc0_c_Seal fc0_c_Psk fc0_c_Tape fc0_c_Clock fc0_c_Pad fc0_c_Limit fc0_c_Ring fc0_m_Kind fc0_m_Random fc0_m_Session fc0_m_Suites fc0_m_Name fc0_m_Versions fc0_m_Groups fc0_m_Schemes fc0_m_Modes fc0_m_Shares fc0_m_Identities fc0_m_Binders fc0_m_Psk fc0_m_Others fc0_m_Certs fc0_m_Scheme fc0_m_Data fc0_m_Life fc0_m_Add fc0_m_Nonce fc0_m_Update fc0_again fc0_group fc0_out_Suite fc0_out_Group fc0_out_Share fc0_out_Retry fc0_out_Psk fc0_out_Alert)) (σ:=Int) (Γ:=Unit) (Γx:=Unit) (fun s0 g0_=>[(0,sl As_ ((s_).length) cs_),(1,Value.func (.func 66) #[] #[ptr (some (bfc0,obfc0)) 0]),(7,vi ((s_).length:Int)),(8,vi s0)]) (fun s0 g0_=>[]) (fun t g=>[]) (fun t g=>[]) r ?_ BIG 0 () t_1 Hl ?_
 ·intro s0 g0_ r1 H K hK hE hR1
  unfold slices_IndexFunc___api_Share_api_Share__fn1_66.b0 at H
  refine TC_seq (TC_region (TLv (V_bin rfl rfl (fun w=>lssI w s0 ((s_).length:Int))) ?_))
  refine TL_nil (TX_next (TC_seq (TCd H (fun hc H=>?_) (fun hc H=>?_))))
  ·refine TC_skip (TX_next (TC_seq (TC_block (TC_seq (TC_region (TVm ?_))))))
   refine TVa ?_
   refine TL_nil (TX_next (TC_seq (TC_region (TVm ?_))))
   refine TVm ?_
   refine TVm ?_
   obtain ⟨h1,H⟩:=if_elim H
   refine TLv (V_idxSlS (i:=s0) rfl rfl underlying27 inf50 rfl (.r 0) (eF_ne2 (s:=2) (fun _=>rfl) rfl (toNat_lt h1.1 h1.2)) h1.1 h1.2 (k:=((s0).toNat) * 2) rfl) ?_
   refine TLv (V_loadPart (n:=2) (ds:=[vi ((lg s_ ((s0).toNat)).1),vs ((lg s_ ((s0).toNat)).2)]) rfl (.r 0) (part_eF (g:=fun p:Int × Str=>[vi p.1,vs p.2]) (s:=2) (fun _=>rfl) s_ ((s0).toNat) (toNat_lt h1.1 h1.2)) rfl rfl isAgg50 inf50 rfl) ?_
   obtain ⟨r_1,hr_1,H⟩:=bind_elim H
   refine TLe (E_c0V (vs:=[aG [(1,[vi ((lg s_ ((s0).toNat)).1)]),(1,[vs ((lg s_ ((s0).toNat)).2)])]]) (cap:=[ptr (some (bfc0,obfc0)) 0]) (F66_calls bfc0 obfc0 bfc02 obfc02 bfc0_c obfc0_c Afc0_c_Suites cfc0_c_Suites Afc0_c_Groups cfc0_c_Groups Afc0_c_Chain cfc0_c_Chain Afc0_c_Roots cfc0_c_Roots Afc0_c_Psk cfc0_c_Psk bfc0_m obfc0_m Afc0_m_Suites cfc0_m_Suites Afc0_m_Versions cfc0_m_Versions Afc0_m_Groups cfc0_m_Groups Afc0_m_Schemes cfc0_m_Schemes Afc0_m_Modes cfc0_m_Modes Afc0_m_Shares cfc0_m_Shares Afc0_m_Identities cfc0_m_Identities Afc0_m_Binders cfc0_m_Binders Afc0_m_Others cfc0_m_Others Afc0_m_Certs cfc0_m_Certs ((lg s_ ((s0).toNat)).1) ((lg s_ ((s0).toNat)).2) fc0_c_Server fc0_c_Suites fc0_c_Groups fc0_c_Chain fc0_c_Key fc0_c_Roots fc0_c_Name fc0_c_Tickets fc0_c_Seal fc0_c_Psk fc0_c_Tape fc0_c_Clock fc0_c_Pad fc0_c_Limit fc0_c_Ring fc0_m_Kind fc0_m_Random fc0_m_Session fc0_m_Suites fc0_m_Name fc0_m_Versions fc0_m_Groups fc0_m_Schemes fc0_m_Modes fc0_m_Shares fc0_m_Identities fc0_m_Binders fc0_m_Psk fc0_m_Others fc0_m_Certs fc0_m_Scheme fc0_m_Data fc0_m_Life fc0_m_Add fc0_m_Nonce fc0_m_Update fc0_again fc0_group fc0_out_Suite fc0_out_Group fc0_out_Share fc0_out_Retry fc0_out_Psk fc0_out_Alert hcfc0_c_Suites hcfc0_c_Groups hcfc0_c_Chain hcfc0_c_Roots hcfc0_c_Psk hcfc0_m_Suites hcfc0_m_Versions hcfc0_m_Groups hcfc0_m_Schemes hcfc0_m_Modes hcfc0_m_Shares hcfc0_m_Identities hcfc0_m_Binders hcfc0_m_Others hcfc0_m_Certs r_1 hr_1) call66 ⟨.r 1, .r 2, .r 3, .r 4, .r 5, .r 6, .r 7, .r 8, .r 9, .r 10, .r 11, .r 12, .r 13, .r 14, .r 15, .r 16, .r 17, .r 18, .r 19, .r 20, .r 21, .r 22, .r 23, .r 24, .r 25, .r 26, .r 27, .r 28, .r 29, .r 30, .r 31, .r 32, .r 33, .r 34, .r 35, .r 36, .r 37, .r 38, .r 39, .r 40, .r 41, .r 42, .r 43, .r 44, .r 45, .r 46, .r 47, .r 48, .r 49, .r 50, .r 51, .r 52, .r 53, .r 54, .r 55, .r 56, .r 57, .r 58, .r 59, .r 60, .r 61, .r 62,trivial⟩) (fun g_1=>?_)
   refine TL_nil (TX_next (TCb H (fun hc H=>?_) (fun hc H=>?_)))
   ·refine TC_seq (TC_region (TVm ?_))
    refine TVa ?_
    refine TL_nil (TX_next (TC_ret (TX_block_ret (TX_then_ret (TX_then_ret (TX_block_ret (TX_then_ret ?_)))))))
    have hrv:=(hR1 _ (Option.some.inj H).symm)
    subst hrv
    exact TX1
   ·refine TC_skip (TX_block_normal (TX_next (TC_region (TLv (V_bin rfl rfl (fun w=>addI w s0 1)) ?_))))
    refine TVm ?_
    refine TL_nil ?_
    obtain rfl:=sj H
    exact TXk [] (hK (w64 (s0+1)) rfl ())
  ·refine TC_exit (TX_then_exit (TX_then_exit ?_))
   obtain rfl:=sj H
   exact TXj [] (hE () rfl ())
 ·rcases t_1 with t_1 | rv
  ·intro gx1
   dsimp only at H
   refine TX_block_exit (TX_next (TC_seq (TC_region (TVa ?_))))
   refine TL_nil (TX_next (TC_ret ?_))
   obtain rfl:=sj H
   exact TX1
  ·exact (Option.some.inj H)
end Go.Proofs
end

section
namespace Go.Proofs
open Go Go.Kx
open TryzI Tryz
def slices_ContainsFunc___api_Share_api_Share__fn1_64 (s_:List (Int × Str)) (fc0_Group:Int) (fc0_Key:Str):Option (Bool) :=
 (slices_IndexFunc___api_Share_api_Share__fn1_64 s_ fc0_Group fc0_Key).bind fun (r_1:Int)=>(ltt (decide (0≤r_1)) fun (x1:Bool)=>(some x1))
set_option maxHeartbeats 4000000 in
set_option maxRecDepth 20000 in
theorem F63_fn1_64_calls (As_:Adr) (cs_:Nat) (bfc0:Nat) (obfc0:Nat) (s_:List (Int × Str)) (fc0_Group:Int) (fc0_Key:Str) (hcs_:(s_).length≤cs_) (r:Bool) (H:slices_ContainsFunc___api_Share_api_Share__fn1_64 s_ fc0_Group fc0_Key=some r) :
  Does Tryz.prog 63 [sl As_ ((s_).length) cs_,Value.func (.func 64) #[] #[ptr (some (bfc0,obfc0)) 0]] [] [⟨As_,eF (fun p:Int × Str=>[vi p.1,vs p.2]) s_⟩,⟨some (bfc0,obfc0),[vi fc0_Group]⟩,⟨some (bfc0,obfc0+1),[vs fc0_Key]⟩] (Γ:=Unit) (fun g=>vb r) (fun g=>[]):=by
 intro w hmem hro hd
 refine calls_of (N:=9) (m0:=[(0,sl As_ ((s_).length) cs_),(1,Value.func (.func 64) #[] #[ptr (some (bfc0,obfc0)) 0])]) func63 rfl ntmps63 (argM_ok [sl As_ ((s_).length) cs_,Value.func (.func 64) #[] #[ptr (some (bfc0,obfc0)) 0]]) rfl hmem hro hd ?_
 unfold slices_ContainsFunc___api_Share_api_Share__fn1_64 at H
 refine TC_seq (TC_region (TVa ?_))
 refine TL_nil (TX_next (TC_seq (TC_region (TVm ?_))))
 refine TVm ?_
 obtain ⟨r_1,hr_1,H⟩:=bind_elim H
 refine TLe (E_c0 (F65_fn1_64_calls As_ cs_ bfc0 obfc0 s_ fc0_Group fc0_Key hcs_ r_1 hr_1) call65 ⟨.r 0, .r 1, .r 2,trivial⟩) (fun g_1=>?_)
 refine TLv (V_bin rfl rfl (fun w=>geqI w r_1 0)) ?_
 refine TVa ?_
 obtain ⟨x1,hx1,H⟩:=ltt_elim H
 refine TLr 4 (congrArg vb hx1) ?_
 refine TL_nil (TX_next (TC_ret ?_))
 obtain rfl:=sj H
 exact TX1
end Go.Proofs
end

/-
  Part 11 of the proof of what several laws share.
-/
import Derived.Test.YtkgeoekcnlgfnaaGreatDoorKc1
import Derived.Test.YtkgeoekcnlgfnaaGreatDoorKc2
import Derived.Test.YtkgeoekcnlgfnaaGreatDoorKc3
import Derived.Test.YtkgeoekcnlgfnaaGreatDoorKc4
import Derived.Test.YtkgeoekcnlgfnaaGreatDoorKc5
import Derived.Test.YtkgeoekcnlgfnaaGreatDoorKc6
import Derived.Test.YtkgeoekcnlgfnaaGreatDoorKc7
set_option linter.unusedVariables false
set_option linter.unusedSimpArgs false
section
namespace Go.Proofs
open Go Go.Kx
open TryzI Tryz
def hello_psk (c_Server:Bool) (c_Suites:List (Int)) (c_Groups:List (Int)) (c_Chain:List (Str)) (c_Key:Str) (c_Roots:List (Str)) (c_Name:Str) (c_Tickets:Int) (c_Seal:Str) (c_Psk:List (Str × Str × Int × Int × Int × Int)) (c_Tape:Str) (c_Clock:Int) (c_Pad:Int) (c_Limit:Int) (c_Ring:Int) (p_Ticket:Str) (p_Secret:Str) (p_Suite:Int) (p_Add:Int) (p_Got:Int) (p_Life:Int):Option (Bool) :=
 (aead_Sizes p_Suite).bind fun (r_1:Int × Int × Int)=>((slices_Contains___int_int_ c_Suites p_Suite).bind fun (r_2:Bool)=>(if r_2=true then (if ((p_Secret).length:Int)=(w64 (r_1.2.1.tdiv 8)) then ((hello_in ((p_Ticket).length:Int) 1 4096).bind fun (r_3:Bool)=>(if r_3=true then ((hello_in p_Add 0 4294967295).bind fun (r_4:Bool)=>(if r_4=true then ((hello_in p_Got 0 4294967295).bind fun (r_5:Bool)=>(if r_5=true then ((hello_in p_Life 0 604800).bind fun (r_6:Bool)=>(some r_6)) else (some false))) else (some false))) else (some false))) else (some false)) else (some false)))
set_option maxHeartbeats 4000000 in
set_option maxRecDepth 20000 in
theorem F76_calls (bc:Nat) (obc:Nat) (Ac_Suites:Adr) (cc_Suites:Nat) (Ac_Groups:Adr) (cc_Groups:Nat) (Ac_Chain:Adr) (cc_Chain:Nat) (Ac_Roots:Adr) (cc_Roots:Nat) (Ac_Psk:Adr) (cc_Psk:Nat) (c_Server:Bool) (c_Suites:List (Int)) (c_Groups:List (Int)) (c_Chain:List (Str)) (c_Key:Str) (c_Roots:List (Str)) (c_Name:Str) (c_Tickets:Int) (c_Seal:Str) (c_Psk:List (Str × Str × Int × Int × Int × Int)) (c_Tape:Str) (c_Clock:Int) (c_Pad:Int) (c_Limit:Int) (c_Ring:Int) (p_Ticket:Str) (p_Secret:Str) (p_Suite:Int) (p_Add:Int) (p_Got:Int) (p_Life:Int) (hcc_Suites:(c_Suites).length≤cc_Suites) (hcc_Groups:(c_Groups).length≤cc_Groups) (hcc_Chain:(c_Chain).length≤cc_Chain) (hcc_Roots:(c_Roots).length≤cc_Roots) (hcc_Psk:(c_Psk).length≤cc_Psk) (r:Bool) (H:hello_psk c_Server c_Suites c_Groups c_Chain c_Key c_Roots c_Name c_Tickets c_Seal c_Psk c_Tape c_Clock c_Pad c_Limit c_Ring p_Ticket p_Secret p_Suite p_Add p_Got p_Life=some r) :
  Does Tryz.prog 76 [ptr (some (bc,obc)) 0,aG [(1,[vs p_Ticket]),(1,[vs p_Secret]),(1,[vi p_Suite]),(1,[vi p_Add]),(1,[vi p_Got]),(1,[vi p_Life])]] [] [⟨some (bc,obc),[vb c_Server]⟩,⟨some (bc,obc+1),[sl Ac_Suites ((c_Suites).length) cc_Suites]⟩,⟨some (bc,obc+2),[sl Ac_Groups ((c_Groups).length) cc_Groups]⟩,⟨some (bc,obc+3),[sl Ac_Chain ((c_Chain).length) cc_Chain]⟩,⟨some (bc,obc+4),[vs c_Key]⟩,⟨some (bc,obc+5),[sl Ac_Roots ((c_Roots).length) cc_Roots]⟩,⟨some (bc,obc+6),[vs c_Name]⟩,⟨some (bc,obc+7),[vi c_Tickets]⟩,⟨some (bc,obc+8),[vs c_Seal]⟩,⟨some (bc,obc+9),[sl Ac_Psk ((c_Psk).length) cc_Psk]⟩,⟨some (bc,obc+10),[vs c_Tape]⟩,⟨some (bc,obc+11),[vi c_Clock]⟩,⟨some (bc,obc+12),[vi c_Pad]⟩,⟨some (bc,obc+13),[vi c_Limit]⟩,⟨some (bc,obc+14),[vi c_Ring]⟩,⟨Ac_Suites,eI c_Suites⟩,⟨Ac_Groups,eI c_Groups⟩,⟨Ac_Chain,eS c_Chain⟩,⟨Ac_Roots,eS c_Roots⟩,⟨Ac_Psk,eF (fun p:Str × Str × Int × Int × Int × Int=>[vs p.1,vs p.2.1,vi p.2.2.1,vi p.2.2.2.1,vi p.2.2.2.2.1,vi p.2.2.2.2.2]) c_Psk⟩] (Γ:=Unit) (fun g=>vb r) (fun g=>[]):=by
 intro w hmem hro hd
 refine calls_of (N:=51) (m0:=[(0,ptr (some (bc,obc)) 0),(1,aG [(1,[vs p_Ticket]),(1,[vs p_Secret]),(1,[vi p_Suite]),(1,[vi p_Add]),(1,[vi p_Got]),(1,[vi p_Life])])]) func76 rfl ntmps76 (argM_ok [ptr (some (bc,obc)) 0,aG [(1,[vs p_Ticket]),(1,[vs p_Secret]),(1,[vi p_Suite]),(1,[vi p_Add]),(1,[vi p_Got]),(1,[vi p_Life])]]) rfl hmem hro hd ?_
 unfold hello_psk at H
 refine TC_seq (TC_region (TLe (E_boxP [(1,[vs p_Ticket]),(1,[vs p_Secret]),(1,[vi p_Suite]),(1,[vi p_Add]),(1,[vi p_Got]),(1,[vi p_Life])] rfl rfl ⟨rfl,rfl,rfl,rfl,rfl,rfl,trivial⟩) (fun b1=>?_)))
 refine TVa ?_
 refine TL_nil (TX_next (TC_seq (TC_region (TLv (V_fieldE rfl underlying57 rfl rfl inf3 rfl (v:=ptr (some (b1,2)) 0) rfl) ?_))))
 refine TLv (V_load rfl (.o 2) rfl isAgg3) ?_
 obtain ⟨r_1,hr_1,H⟩:=bind_elim H
 refine TLe (E_c0 (F70_calls p_Suite r_1 hr_1) call70 .z) (fun g_1=>?_)
 refine TVm ?_
 refine TLv V_ex ?_
 refine TLv V_ex ?_
 refine TLv V_ex ?_
 refine TVa ?_
 refine TVa ?_
 refine TVa ?_
 refine TL_nil (TX_next (TC_seq ?_))
 obtain ⟨r_2,hr_2,H⟩:=bind_elim H
 refine TC_em r_2 (fun hg2_8=>?_) (fun hg2_8=>?_)
 ·replace H:=ite_t hg2_8 H
  refine TC_em (decide (((p_Secret).length:Int)=(w64 (r_1.2.1.tdiv 8)))) (fun hg2_16=>?_) (fun hg2_16=>?_)
  ·replace H:=ite_t (of_decide_eq_true hg2_16) H
   obtain ⟨r_3,hr_3,H⟩:=bind_elim H
   refine TC_em r_3 (fun hg2_22=>?_) (fun hg2_22=>?_)
   ·replace H:=ite_t hg2_22 H
    obtain ⟨r_4,hr_4,H⟩:=bind_elim H
    refine TC_em r_4 (fun hg2_27=>?_) (fun hg2_27=>?_)
    ·replace H:=ite_t hg2_27 H
     obtain ⟨r_5,hr_5,H⟩:=bind_elim H
     refine TC_em r_5 (fun hg2_32=>?_) (fun hg2_32=>?_)
     ·replace H:=ite_t hg2_32 H
      obtain ⟨r_6,hr_6,H⟩:=bind_elim H
      refine TA_begin [⟨some (b1,0),[vs p_Ticket]⟩,⟨some (b1,1),[vs p_Secret]⟩,⟨some (b1,2),[vi p_Suite]⟩,⟨some (b1,3),[vi p_Add]⟩,⟨some (b1,4),[vi p_Got]⟩,⟨some (b1,5),[vi p_Life]⟩] 37 (by kernel_rfl) (N:=37) rfl ?_
      refine TA_tk 0 [0,0,0,0,0,0] (dn 37 1) rfl rfl (V_move rfl) ?_
      refine TA_tk 1 [0,0,0,0,0,0] (dn 37 3) rfl rfl (V_nilCheck rfl) ?_
      refine TA_tk 2 [0,0,0,0,0,0] (dn 37 7) rfl rfl (V_fieldE rfl underlying26 rfl rfl inf22 rfl (v:=ptr (some (bc,obc+1)) 0) rfl) ?_
      refine TA_tk 3 [0,0,0,0,0,0] (dn 37 15) rfl rfl (V_load rfl (.r 1) rfl isAgg22) ?_
      refine TA_tk 4 [0,0,0,0,0,0] (dn 37 31) rfl rfl (V_fieldE rfl underlying57 rfl rfl inf3 rfl (v:=ptr (some (b1,2)) 0) rfl) ?_
      refine TA_tk 5 [0,0,0,0,0,0] (dn 37 63) rfl rfl (V_load rfl (.o 2) rfl isAgg3) ?_
      refine TA_all (rs:=[6]) (by kernel_rfl) rfl ?_
      refine ⟨?_,trivial⟩
      refine TO_e (is:=[0,0,0,0,0,0]) (done':=dn 37 127) rfl rfl rfl rfl (by kernel_rfl) (E_c0 (F62_calls Ac_Suites cc_Suites c_Suites p_Suite hcc_Suites r_2 hr_2) call62 ⟨.r 15,trivial⟩) (fun _ _=>rfl) (fun g_2=>?_)
      refine TA_tk 7 [0,0,0,0,0,0] (dn 37 255) rfl rfl (V_move rfl) ?_
      refine TA_re (d:=22) (v:=vb r_2) (v':=vb true) rfl (congrArg vb hg2_8) ?_
      refine TA_tw 8 [0,0,0,0,0,0] (dn 37 511) rfl rfl (V_fieldE rfl underlying57 rfl rfl inf9 rfl (v:=ptr (some (b1,1)) 0) rfl) ?_
      refine TA_tw 9 [0,0,0,0,0,0] (dn 37 1023) rfl rfl (V_load rfl (.o 1) rfl isAgg9) ?_
      refine TA_tw 10 [0,0,0,0,0,0] (dn 37 2047) rfl rfl (V_len_str rfl underlying9) ?_
      refine TA_tw 11 [0,0,0,0,0,0] (dn 37 4095) rfl rfl (V_move rfl) ?_
      refine TA_tw 12 [0,0,0,0,0,0] (dn 37 8191) rfl rfl (V_bin rfl rfl (fun w=>quoI w r_1.2.1 8 (by decide))) ?_
      refine TA_tw 13 [0,0,0,0,0,0] (dn 37 16383) rfl rfl (V_bin rfl rfl (fun w=>eqlI w ((p_Secret).length:Int) (w64 (r_1.2.1.tdiv 8)))) ?_
      refine TA_tk 14 [0,0,0,0,0,0] (dn 37 32767) rfl rfl (V_pick (b:=true) rfl rfl) ?_
      refine TA_tk 15 [0,0,0,0,0,0] (dn 37 65535) rfl rfl (V_move rfl) ?_
      refine TA_re (d:=30) (v:=vb (decide (((p_Secret).length:Int)=(w64 (r_1.2.1.tdiv 8))))) (v':=vb true) rfl (congrArg vb hg2_16) ?_
      refine TA_tw 16 [0,0,0,0,0,0] (dn 37 131071) rfl rfl (V_fieldE rfl underlying57 rfl rfl inf9 rfl (v:=ptr (some (b1,0)) 0) rfl) ?_
      refine TA_tw 17 [0,0,0,0,0,0] (dn 37 262143) rfl rfl (V_load rfl (.o 0) rfl isAgg9) ?_
      refine TA_tw 18 [0,0,0,0,0,0] (dn 37 524287) rfl rfl (V_len_str rfl underlying9) ?_
      refine TA_all (rs:=[19]) (by kernel_rfl) rfl ?_
      refine ⟨?_,trivial⟩
      refine TO_eW (is:=[0,0,0,0,0,0]) (done':=dn 37 1048575) rfl rfl rfl rfl rfl rfl rfl (by kernel_rfl) (E_c0 (F46_calls ((p_Ticket).length:Int) 1 4096 r_3 hr_3) call46 .z) (fun _ _=>rfl) (fun g_3=>?_)
      refine TA_tk 20 [0,0,0,0,0,0] (dn 37 2097151) rfl rfl (V_pick (b:=true) rfl rfl) ?_
      refine TA_tk 21 [0,0,0,0,0,0] (dn 37 4194303) rfl rfl (V_move rfl) ?_
      refine TA_re (d:=36) (v:=vb r_3) (v':=vb true) rfl (congrArg vb hg2_22) ?_
      refine TA_tw 22 [0,0,0,0,0,0] (dn 37 8388607) rfl rfl (V_fieldE rfl underlying57 rfl rfl inf3 rfl (v:=ptr (some (b1,3)) 0) rfl) ?_
      refine TA_tw 23 [0,0,0,0,0,0] (dn 37 16777215) rfl rfl (V_load rfl (.o 3) rfl isAgg3) ?_
      refine TA_all (rs:=[24]) (by kernel_rfl) rfl ?_
      refine ⟨?_,trivial⟩
      refine TO_eW (is:=[0,0,0,0,0,0]) (done':=dn 37 33554431) rfl rfl rfl rfl rfl rfl rfl (by kernel_rfl) (E_c0 (F46_calls p_Add 0 4294967295 r_4 hr_4) call46 .z) (fun _ _=>rfl) (fun g_4=>?_)
      refine TA_tk 25 [0,0,0,0,0,0] (dn 37 67108863) rfl rfl (V_pick (b:=true) rfl rfl) ?_
      refine TA_tk 26 [0,0,0,0,0,0] (dn 37 134217727) rfl rfl (V_move rfl) ?_
      refine TA_re (d:=41) (v:=vb r_4) (v':=vb true) rfl (congrArg vb hg2_27) ?_
      refine TA_tw 27 [0,0,0,0,0,0] (dn 37 268435455) rfl rfl (V_fieldE rfl underlying57 rfl rfl inf3 rfl (v:=ptr (some (b1,4)) 0) rfl) ?_
      refine TA_tw 28 [0,0,0,0,0,0] (dn 37 536870911) rfl rfl (V_load rfl (.o 4) rfl isAgg3) ?_
      refine TA_all (rs:=[29]) (by kernel_rfl) rfl ?_
      refine ⟨?_,trivial⟩
      refine TO_eW (is:=[0,0,0,0,0,0]) (done':=dn 37 1073741823) rfl rfl rfl rfl rfl rfl rfl (by kernel_rfl) (E_c0 (F46_calls p_Got 0 4294967295 r_5 hr_5) call46 .z) (fun _ _=>rfl) (fun g_5=>?_)
      refine TA_tk 30 [0,0,0,0,0,0] (dn 37 2147483647) rfl rfl (V_pick (b:=true) rfl rfl) ?_
      refine TA_tk 31 [0,0,0,0,0,0] (dn 37 4294967295) rfl rfl (V_move rfl) ?_
      refine TA_re (d:=46) (v:=vb r_5) (v':=vb true) rfl (congrArg vb hg2_32) ?_
      refine TA_tw 32 [0,0,0,0,0,0] (dn 37 8589934591) rfl rfl (V_fieldE rfl underlying57 rfl rfl inf3 rfl (v:=ptr (some (b1,5)) 0) rfl) ?_
      refine TA_tw 33 [0,0,0,0,0,0] (dn 37 17179869183) rfl rfl (V_load rfl (.o 5) rfl isAgg3) ?_
      refine TA_all (rs:=[34]) (by kernel_rfl) rfl ?_
      refine ⟨?_,trivial⟩
      refine TO_eW (is:=[0,0,0,0,0,0]) (done':=dn 37 34359738367) rfl rfl rfl rfl rfl rfl rfl (by kernel_rfl) (E_c0 (F46_calls p_Life 0 604800 r_6 hr_6) call46 .z) (fun _ _=>rfl) (fun g_6=>?_)
      refine TA_tk 35 [0,0,0,0,0,0] (dn 37 68719476735) rfl rfl (V_pick (b:=true) rfl rfl) ?_
      refine TA_tk 36 [0,0,0,0,0,0] (dn 37 137438953471) rfl rfl (V_assign rfl) ?_
      refine TA_done (by kernel_rfl) ?_ 0
      refine TX_next (TC.sub (m':=[(4,_)]) ⟨rfl,trivial⟩ ?_)
      refine TC.pull (is:=[]) (L':=[]) rfl ?_
      refine TC_ret ?_
      obtain rfl:=sj H
      exact TX1
     ·replace H:=ite_f (Bool.eq_false_iff.1 hg2_32) H
      refine TA_begin [⟨some (b1,0),[vs p_Ticket]⟩,⟨some (b1,1),[vs p_Secret]⟩,⟨some (b1,2),[vi p_Suite]⟩,⟨some (b1,3),[vi p_Add]⟩,⟨some (b1,4),[vi p_Got]⟩,⟨some (b1,5),[vi p_Life]⟩] 37 (by kernel_rfl) (N:=37) rfl ?_
      refine TA_tk 0 [0,0,0,0,0,0] (dn 37 1) rfl rfl (V_move rfl) ?_
      refine TA_tk 1 [0,0,0,0,0,0] (dn 37 3) rfl rfl (V_nilCheck rfl) ?_
      refine TA_tk 2 [0,0,0,0,0,0] (dn 37 7) rfl rfl (V_fieldE rfl underlying26 rfl rfl inf22 rfl (v:=ptr (some (bc,obc+1)) 0) rfl) ?_
      refine TA_tk 3 [0,0,0,0,0,0] (dn 37 15) rfl rfl (V_load rfl (.r 1) rfl isAgg22) ?_
      refine TA_tk 4 [0,0,0,0,0,0] (dn 37 31) rfl rfl (V_fieldE rfl underlying57 rfl rfl inf3 rfl (v:=ptr (some (b1,2)) 0) rfl) ?_
      refine TA_tk 5 [0,0,0,0,0,0] (dn 37 63) rfl rfl (V_load rfl (.o 2) rfl isAgg3) ?_
      refine TA_all (rs:=[6]) (by kernel_rfl) rfl ?_
      refine ⟨?_,trivial⟩
      refine TO_e (is:=[0,0,0,0,0,0]) (done':=dn 37 127) rfl rfl rfl rfl (by kernel_rfl) (E_c0 (F62_calls Ac_Suites cc_Suites c_Suites p_Suite hcc_Suites r_2 hr_2) call62 ⟨.r 15,trivial⟩) (fun _ _=>rfl) (fun g_2=>?_)
      refine TA_tk 7 [0,0,0,0,0,0] (dn 37 255) rfl rfl (V_move rfl) ?_
      refine TA_re (d:=22) (v:=vb r_2) (v':=vb true) rfl (congrArg vb hg2_8) ?_
      refine TA_tw 8 [0,0,0,0,0,0] (dn 37 511) rfl rfl (V_fieldE rfl underlying57 rfl rfl inf9 rfl (v:=ptr (some (b1,1)) 0) rfl) ?_
      refine TA_tw 9 [0,0,0,0,0,0] (dn 37 1023) rfl rfl (V_load rfl (.o 1) rfl isAgg9) ?_
      refine TA_tw 10 [0,0,0,0,0,0] (dn 37 2047) rfl rfl (V_len_str rfl underlying9) ?_
      refine TA_tw 11 [0,0,0,0,0,0] (dn 37 4095) rfl rfl (V_move rfl) ?_
      refine TA_tw 12 [0,0,0,0,0,0] (dn 37 8191) rfl rfl (V_bin rfl rfl (fun w=>quoI w r_1.2.1 8 (by decide))) ?_
      refine TA_tw 13 [0,0,0,0,0,0] (dn 37 16383) rfl rfl (V_bin rfl rfl (fun w=>eqlI w ((p_Secret).length:Int) (w64 (r_1.2.1.tdiv 8)))) ?_
      refine TA_tk 14 [0,0,0,0,0,0] (dn 37 32767) rfl rfl (V_pick (b:=true) rfl rfl) ?_
      refine TA_tk 15 [0,0,0,0,0,0] (dn 37 65535) rfl rfl (V_move rfl) ?_
      refine TA_re (d:=30) (v:=vb (decide (((p_Secret).length:Int)=(w64 (r_1.2.1.tdiv 8))))) (v':=vb true) rfl (congrArg vb hg2_16) ?_
      refine TA_tw 16 [0,0,0,0,0,0] (dn 37 131071) rfl rfl (V_fieldE rfl underlying57 rfl rfl inf9 rfl (v:=ptr (some (b1,0)) 0) rfl) ?_
      refine TA_tw 17 [0,0,0,0,0,0] (dn 37 262143) rfl rfl (V_load rfl (.o 0) rfl isAgg9) ?_
      refine TA_tw 18 [0,0,0,0,0,0] (dn 37 524287) rfl rfl (V_len_str rfl underlying9) ?_
      refine TA_all (rs:=[19]) (by kernel_rfl) rfl ?_
      refine ⟨?_,trivial⟩
      refine TO_eW (is:=[0,0,0,0,0,0]) (done':=dn 37 1048575) rfl rfl rfl rfl rfl rfl rfl (by kernel_rfl) (E_c0 (F46_calls ((p_Ticket).length:Int) 1 4096 r_3 hr_3) call46 .z) (fun _ _=>rfl) (fun g_3=>?_)
      refine TA_tk 20 [0,0,0,0,0,0] (dn 37 2097151) rfl rfl (V_pick (b:=true) rfl rfl) ?_
      refine TA_tk 21 [0,0,0,0,0,0] (dn 37 4194303) rfl rfl (V_move rfl) ?_
      refine TA_re (d:=36) (v:=vb r_3) (v':=vb true) rfl (congrArg vb hg2_22) ?_
      refine TA_tw 22 [0,0,0,0,0,0] (dn 37 8388607) rfl rfl (V_fieldE rfl underlying57 rfl rfl inf3 rfl (v:=ptr (some (b1,3)) 0) rfl) ?_
      refine TA_tw 23 [0,0,0,0,0,0] (dn 37 16777215) rfl rfl (V_load rfl (.o 3) rfl isAgg3) ?_
      refine TA_all (rs:=[24]) (by kernel_rfl) rfl ?_
      refine ⟨?_,trivial⟩
      refine TO_eW (is:=[0,0,0,0,0,0]) (done':=dn 37 33554431) rfl rfl rfl rfl rfl rfl rfl (by kernel_rfl) (E_c0 (F46_calls p_Add 0 4294967295 r_4 hr_4) call46 .z) (fun _ _=>rfl) (fun g_4=>?_)
      refine TA_tk 25 [0,0,0,0,0,0] (dn 37 67108863) rfl rfl (V_pick (b:=true) rfl rfl) ?_
      refine TA_tk 26 [0,0,0,0,0,0] (dn 37 134217727) rfl rfl (V_move rfl) ?_
      refine TA_re (d:=41) (v:=vb r_4) (v':=vb true) rfl (congrArg vb hg2_27) ?_
      refine TA_tw 27 [0,0,0,0,0,0] (dn 37 268435455) rfl rfl (V_fieldE rfl underlying57 rfl rfl inf3 rfl (v:=ptr (some (b1,4)) 0) rfl) ?_
      refine TA_tw 28 [0,0,0,0,0,0] (dn 37 536870911) rfl rfl (V_load rfl (.o 4) rfl isAgg3) ?_
      refine TA_all (rs:=[29]) (by kernel_rfl) rfl ?_
      refine ⟨?_,trivial⟩
      refine TO_eW (is:=[0,0,0,0,0,0]) (done':=dn 37 1073741823) rfl rfl rfl rfl rfl rfl rfl (by kernel_rfl) (E_c0 (F46_calls p_Got 0 4294967295 r_5 hr_5) call46 .z) (fun _ _=>rfl) (fun g_5=>?_)
      refine TA_tk 30 [0,0,0,0,0,0] (dn 37 2147483647) rfl rfl (V_pick (b:=true) rfl rfl) ?_
      refine TA_tk 31 [0,0,0,0,0,0] (dn 37 4294967295) rfl rfl (V_move rfl) ?_
      refine TA_re (d:=46) (v:=vb r_5) (v':=vb false) rfl (congrArg vb hg2_32) ?_
      refine TA_ts 32 [0,0,0,0,0,0] (dn 37 8589934591) rfl rfl ?_
      refine TA_ts 33 [0,0,0,0,0,0] (dn 37 17179869183) rfl rfl ?_
      refine TA_ts 34 [0,0,0,0,0,0] (dn 37 34359738367) rfl rfl ?_
      refine TA_tk 35 [0,0,0,0,0,0] (dn 37 68719476735) rfl rfl (V_pick (b:=false) rfl rfl) ?_
      refine TA_tk 36 [0,0,0,0,0,0] (dn 37 137438953471) rfl rfl (V_assign rfl) ?_
      refine TA_done (by kernel_rfl) ?_ 0
      refine TX_next (TC.sub (m':=[(4,_)]) ⟨rfl,trivial⟩ ?_)
      refine TC.pull (is:=[]) (L':=[]) rfl ?_
      refine TC_ret ?_
      obtain rfl:=sj H
      exact TX1
    ·replace H:=ite_f (Bool.eq_false_iff.1 hg2_27) H
     refine TA_begin [⟨some (b1,0),[vs p_Ticket]⟩,⟨some (b1,1),[vs p_Secret]⟩,⟨some (b1,2),[vi p_Suite]⟩,⟨some (b1,3),[vi p_Add]⟩,⟨some (b1,4),[vi p_Got]⟩,⟨some (b1,5),[vi p_Life]⟩] 37 (by kernel_rfl) (N:=37) rfl ?_
     refine TA_tk 0 [0,0,0,0,0,0] (dn 37 1) rfl rfl (V_move rfl) ?_
     refine TA_tk 1 [0,0,0,0,0,0] (dn 37 3) rfl rfl (V_nilCheck rfl) ?_
     refine TA_tk 2 [0,0,0,0,0,0] (dn 37 7) rfl rfl (V_fieldE rfl underlying26 rfl rfl inf22 rfl (v:=ptr (some (bc,obc+1)) 0) rfl) ?_
     refine TA_tk 3 [0,0,0,0,0,0] (dn 37 15) rfl rfl (V_load rfl (.r 1) rfl isAgg22) ?_
     refine TA_tk 4 [0,0,0,0,0,0] (dn 37 31) rfl rfl (V_fieldE rfl underlying57 rfl rfl inf3 rfl (v:=ptr (some (b1,2)) 0) rfl) ?_
     refine TA_tk 5 [0,0,0,0,0,0] (dn 37 63) rfl rfl (V_load rfl (.o 2) rfl isAgg3) ?_
     refine TA_all (rs:=[6]) (by kernel_rfl) rfl ?_
     refine ⟨?_,trivial⟩
     refine TO_e (is:=[0,0,0,0,0,0]) (done':=dn 37 127) rfl rfl rfl rfl (by kernel_rfl) (E_c0 (F62_calls Ac_Suites cc_Suites c_Suites p_Suite hcc_Suites r_2 hr_2) call62 ⟨.r 15,trivial⟩) (fun _ _=>rfl) (fun g_2=>?_)
     refine TA_tk 7 [0,0,0,0,0,0] (dn 37 255) rfl rfl (V_move rfl) ?_
     refine TA_re (d:=22) (v:=vb r_2) (v':=vb true) rfl (congrArg vb hg2_8) ?_
     refine TA_tw 8 [0,0,0,0,0,0] (dn 37 511) rfl rfl (V_fieldE rfl underlying57 rfl rfl inf9 rfl (v:=ptr (some (b1,1)) 0) rfl) ?_
     refine TA_tw 9 [0,0,0,0,0,0] (dn 37 1023) rfl rfl (V_load rfl (.o 1) rfl isAgg9) ?_
     refine TA_tw 10 [0,0,0,0,0,0] (dn 37 2047) rfl rfl (V_len_str rfl underlying9) ?_
     refine TA_tw 11 [0,0,0,0,0,0] (dn 37 4095) rfl rfl (V_move rfl) ?_
     refine TA_tw 12 [0,0,0,0,0,0] (dn 37 8191) rfl rfl (V_bin rfl rfl (fun w=>quoI w r_1.2.1 8 (by decide))) ?_
     refine TA_tw 13 [0,0,0,0,0,0] (dn 37 16383) rfl rfl (V_bin rfl rfl (fun w=>eqlI w ((p_Secret).length:Int) (w64 (r_1.2.1.tdiv 8)))) ?_
     refine TA_tk 14 [0,0,0,0,0,0] (dn 37 32767) rfl rfl (V_pick (b:=true) rfl rfl) ?_
     refine TA_tk 15 [0,0,0,0,0,0] (dn 37 65535) rfl rfl (V_move rfl) ?_
     refine TA_re (d:=30) (v:=vb (decide (((p_Secret).length:Int)=(w64 (r_1.2.1.tdiv 8))))) (v':=vb true) rfl (congrArg vb hg2_16) ?_
     refine TA_tw 16 [0,0,0,0,0,0] (dn 37 131071) rfl rfl (V_fieldE rfl underlying57 rfl rfl inf9 rfl (v:=ptr (some (b1,0)) 0) rfl) ?_
     refine TA_tw 17 [0,0,0,0,0,0] (dn 37 262143) rfl rfl (V_load rfl (.o 0) rfl isAgg9) ?_
     refine TA_tw 18 [0,0,0,0,0,0] (dn 37 524287) rfl rfl (V_len_str rfl underlying9) ?_
     refine TA_all (rs:=[19]) (by kernel_rfl) rfl ?_
     refine ⟨?_,trivial⟩
     refine TO_eW (is:=[0,0,0,0,0,0]) (done':=dn 37 1048575) rfl rfl rfl rfl rfl rfl rfl (by kernel_rfl) (E_c0 (F46_calls ((p_Ticket).length:Int) 1 4096 r_3 hr_3) call46 .z) (fun _ _=>rfl) (fun g_3=>?_)
     refine TA_tk 20 [0,0,0,0,0,0] (dn 37 2097151) rfl rfl (V_pick (b:=true) rfl rfl) ?_
     refine TA_tk 21 [0,0,0,0,0,0] (dn 37 4194303) rfl rfl (V_move rfl) ?_
     refine TA_re (d:=36) (v:=vb r_3) (v':=vb true) rfl (congrArg vb hg2_22) ?_
     refine TA_tw 22 [0,0,0,0,0,0] (dn 37 8388607) rfl rfl (V_fieldE rfl underlying57 rfl rfl inf3 rfl (v:=ptr (some (b1,3)) 0) rfl) ?_
     refine TA_tw 23 [0,0,0,0,0,0] (dn 37 16777215) rfl rfl (V_load rfl (.o 3) rfl isAgg3) ?_
     refine TA_all (rs:=[24]) (by kernel_rfl) rfl ?_
     refine ⟨?_,trivial⟩
     refine TO_eW (is:=[0,0,0,0,0,0]) (done':=dn 37 33554431) rfl rfl rfl rfl rfl rfl rfl (by kernel_rfl) (E_c0 (F46_calls p_Add 0 4294967295 r_4 hr_4) call46 .z) (fun _ _=>rfl) (fun g_4=>?_)
     refine TA_tk 25 [0,0,0,0,0,0] (dn 37 67108863) rfl rfl (V_pick (b:=true) rfl rfl) ?_
     refine TA_tk 26 [0,0,0,0,0,0] (dn 37 134217727) rfl rfl (V_move rfl) ?_
     refine TA_re (d:=41) (v:=vb r_4) (v':=vb false) rfl (congrArg vb hg2_27) ?_
     refine TA_ts 27 [0,0,0,0,0,0] (dn 37 268435455) rfl rfl ?_
     refine TA_ts 28 [0,0,0,0,0,0] (dn 37 536870911) rfl rfl ?_
     refine TA_ts 29 [0,0,0,0,0,0] (dn 37 1073741823) rfl rfl ?_
     refine TA_tk 30 [0,0,0,0,0,0] (dn 37 2147483647) rfl rfl (V_pick (b:=false) rfl rfl) ?_
     refine TA_tk 31 [0,0,0,0,0,0] (dn 37 4294967295) rfl rfl (V_move rfl) ?_
     refine TA_ts 32 [0,0,0,0,0,0] (dn 37 8589934591) rfl rfl ?_
     refine TA_ts 33 [0,0,0,0,0,0] (dn 37 17179869183) rfl rfl ?_
     refine TA_ts 34 [0,0,0,0,0,0] (dn 37 34359738367) rfl rfl ?_
     refine TA_tk 35 [0,0,0,0,0,0] (dn 37 68719476735) rfl rfl (V_pick (b:=false) rfl rfl) ?_
     refine TA_tk 36 [0,0,0,0,0,0] (dn 37 137438953471) rfl rfl (V_assign rfl) ?_
     refine TA_done (by kernel_rfl) ?_ 0
     refine TX_next (TC.sub (m':=[(4,_)]) ⟨rfl,trivial⟩ ?_)
     refine TC.pull (is:=[]) (L':=[]) rfl ?_
     refine TC_ret ?_
     obtain rfl:=sj H
     exact TX1
   ·replace H:=ite_f (Bool.eq_false_iff.1 hg2_22) H
    refine TA_begin [⟨some (b1,0),[vs p_Ticket]⟩,⟨some (b1,1),[vs p_Secret]⟩,⟨some (b1,2),[vi p_Suite]⟩,⟨some (b1,3),[vi p_Add]⟩,⟨some (b1,4),[vi p_Got]⟩,⟨some (b1,5),[vi p_Life]⟩] 37 (by kernel_rfl) (N:=37) rfl ?_
    refine TA_tk 0 [0,0,0,0,0,0] (dn 37 1) rfl rfl (V_move rfl) ?_
    refine TA_tk 1 [0,0,0,0,0,0] (dn 37 3) rfl rfl (V_nilCheck rfl) ?_
    refine TA_tk 2 [0,0,0,0,0,0] (dn 37 7) rfl rfl (V_fieldE rfl underlying26 rfl rfl inf22 rfl (v:=ptr (some (bc,obc+1)) 0) rfl) ?_
    refine TA_tk 3 [0,0,0,0,0,0] (dn 37 15) rfl rfl (V_load rfl (.r 1) rfl isAgg22) ?_
    refine TA_tk 4 [0,0,0,0,0,0] (dn 37 31) rfl rfl (V_fieldE rfl underlying57 rfl rfl inf3 rfl (v:=ptr (some (b1,2)) 0) rfl) ?_
    refine TA_tk 5 [0,0,0,0,0,0] (dn 37 63) rfl rfl (V_load rfl (.o 2) rfl isAgg3) ?_
    refine TA_all (rs:=[6]) (by kernel_rfl) rfl ?_
    refine ⟨?_,trivial⟩
    refine TO_e (is:=[0,0,0,0,0,0]) (done':=dn 37 127) rfl rfl rfl rfl (by kernel_rfl) (E_c0 (F62_calls Ac_Suites cc_Suites c_Suites p_Suite hcc_Suites r_2 hr_2) call62 ⟨.r 15,trivial⟩) (fun _ _=>rfl) (fun g_2=>?_)
    refine TA_tk 7 [0,0,0,0,0,0] (dn 37 255) rfl rfl (V_move rfl) ?_
    refine TA_re (d:=22) (v:=vb r_2) (v':=vb true) rfl (congrArg vb hg2_8) ?_
    refine TA_tw 8 [0,0,0,0,0,0] (dn 37 511) rfl rfl (V_fieldE rfl underlying57 rfl rfl inf9 rfl (v:=ptr (some (b1,1)) 0) rfl) ?_
    refine TA_tw 9 [0,0,0,0,0,0] (dn 37 1023) rfl rfl (V_load rfl (.o 1) rfl isAgg9) ?_
    refine TA_tw 10 [0,0,0,0,0,0] (dn 37 2047) rfl rfl (V_len_str rfl underlying9) ?_
    refine TA_tw 11 [0,0,0,0,0,0] (dn 37 4095) rfl rfl (V_move rfl) ?_
    refine TA_tw 12 [0,0,0,0,0,0] (dn 37 8191) rfl rfl (V_bin rfl rfl (fun w=>quoI w r_1.2.1 8 (by decide))) ?_
    refine TA_tw 13 [0,0,0,0,0,0] (dn 37 16383) rfl rfl (V_bin rfl rfl (fun w=>eqlI w ((p_Secret).length:Int) (w64 (r_1.2.1.tdiv 8)))) ?_
    refine TA_tk 14 [0,0,0,0,0,0] (dn 37 32767) rfl rfl (V_pick (b:=true) rfl rfl) ?_
    refine TA_tk 15 [0,0,0,0,0,0] (dn 37 65535) rfl rfl (V_move rfl) ?_
    refine TA_re (d:=30) (v:=vb (decide (((p_Secret).length:Int)=(w64 (r_1.2.1.tdiv 8))))) (v':=vb true) rfl (congrArg vb hg2_16) ?_
    refine TA_tw 16 [0,0,0,0,0,0] (dn 37 131071) rfl rfl (V_fieldE rfl underlying57 rfl rfl inf9 rfl (v:=ptr (some (b1,0)) 0) rfl) ?_
    refine TA_tw 17 [0,0,0,0,0,0] (dn 37 262143) rfl rfl (V_load rfl (.o 0) rfl isAgg9) ?_
    refine TA_tw 18 [0,0,0,0,0,0] (dn 37 524287) rfl rfl (V_len_str rfl underlying9) ?_
    refine TA_all (rs:=[19]) (by kernel_rfl) rfl ?_
    refine ⟨?_,trivial⟩
    refine TO_eW (is:=[0,0,0,0,0,0]) (done':=dn 37 1048575) rfl rfl rfl rfl rfl rfl rfl (by kernel_rfl) (E_c0 (F46_calls ((p_Ticket).length:Int) 1 4096 r_3 hr_3) call46 .z) (fun _ _=>rfl) (fun g_3=>?_)
    refine TA_tk 20 [0,0,0,0,0,0] (dn 37 2097151) rfl rfl (V_pick (b:=true) rfl rfl) ?_
    refine TA_tk 21 [0,0,0,0,0,0] (dn 37 4194303) rfl rfl (V_move rfl) ?_
    refine TA_re (d:=36) (v:=vb r_3) (v':=vb false) rfl (congrArg vb hg2_22) ?_
    refine TA_ts 22 [0,0,0,0,0,0] (dn 37 8388607) rfl rfl ?_
    refine TA_ts 23 [0,0,0,0,0,0] (dn 37 16777215) rfl rfl ?_
    refine TA_ts 24 [0,0,0,0,0,0] (dn 37 33554431) rfl rfl ?_
    refine TA_tk 25 [0,0,0,0,0,0] (dn 37 67108863) rfl rfl (V_pick (b:=false) rfl rfl) ?_
    refine TA_tk 26 [0,0,0,0,0,0] (dn 37 134217727) rfl rfl (V_move rfl) ?_
    refine TA_ts 27 [0,0,0,0,0,0] (dn 37 268435455) rfl rfl ?_
    refine TA_ts 28 [0,0,0,0,0,0] (dn 37 536870911) rfl rfl ?_
    refine TA_ts 29 [0,0,0,0,0,0] (dn 37 1073741823) rfl rfl ?_
    refine TA_tk 30 [0,0,0,0,0,0] (dn 37 2147483647) rfl rfl (V_pick (b:=false) rfl rfl) ?_
    refine TA_tk 31 [0,0,0,0,0,0] (dn 37 4294967295) rfl rfl (V_move rfl) ?_
    refine TA_ts 32 [0,0,0,0,0,0] (dn 37 8589934591) rfl rfl ?_
    refine TA_ts 33 [0,0,0,0,0,0] (dn 37 17179869183) rfl rfl ?_
    refine TA_ts 34 [0,0,0,0,0,0] (dn 37 34359738367) rfl rfl ?_
    refine TA_tk 35 [0,0,0,0,0,0] (dn 37 68719476735) rfl rfl (V_pick (b:=false) rfl rfl) ?_
    refine TA_tk 36 [0,0,0,0,0,0] (dn 37 137438953471) rfl rfl (V_assign rfl) ?_
    refine TA_done (by kernel_rfl) ?_ 0
    refine TX_next (TC.sub (m':=[(4,_)]) ⟨rfl,trivial⟩ ?_)
    refine TC.pull (is:=[]) (L':=[]) rfl ?_
    refine TC_ret ?_
    obtain rfl:=sj H
    exact TX1
  ·replace H:=ite_f (of_decide_eq_false hg2_16) H
   refine TA_begin [⟨some (b1,0),[vs p_Ticket]⟩,⟨some (b1,1),[vs p_Secret]⟩,⟨some (b1,2),[vi p_Suite]⟩,⟨some (b1,3),[vi p_Add]⟩,⟨some (b1,4),[vi p_Got]⟩,⟨some (b1,5),[vi p_Life]⟩] 37 (by kernel_rfl) (N:=37) rfl ?_
   refine TA_tk 0 [0,0,0,0,0,0] (dn 37 1) rfl rfl (V_move rfl) ?_
   refine TA_tk 1 [0,0,0,0,0,0] (dn 37 3) rfl rfl (V_nilCheck rfl) ?_
   refine TA_tk 2 [0,0,0,0,0,0] (dn 37 7) rfl rfl (V_fieldE rfl underlying26 rfl rfl inf22 rfl (v:=ptr (some (bc,obc+1)) 0) rfl) ?_
   refine TA_tk 3 [0,0,0,0,0,0] (dn 37 15) rfl rfl (V_load rfl (.r 1) rfl isAgg22) ?_
   refine TA_tk 4 [0,0,0,0,0,0] (dn 37 31) rfl rfl (V_fieldE rfl underlying57 rfl rfl inf3 rfl (v:=ptr (some (b1,2)) 0) rfl) ?_
   refine TA_tk 5 [0,0,0,0,0,0] (dn 37 63) rfl rfl (V_load rfl (.o 2) rfl isAgg3) ?_
   refine TA_all (rs:=[6]) (by kernel_rfl) rfl ?_
   refine ⟨?_,trivial⟩
   refine TO_e (is:=[0,0,0,0,0,0]) (done':=dn 37 127) rfl rfl rfl rfl (by kernel_rfl) (E_c0 (F62_calls Ac_Suites cc_Suites c_Suites p_Suite hcc_Suites r_2 hr_2) call62 ⟨.r 15,trivial⟩) (fun _ _=>rfl) (fun g_2=>?_)
   refine TA_tk 7 [0,0,0,0,0,0] (dn 37 255) rfl rfl (V_move rfl) ?_
   refine TA_re (d:=22) (v:=vb r_2) (v':=vb true) rfl (congrArg vb hg2_8) ?_
   refine TA_tw 8 [0,0,0,0,0,0] (dn 37 511) rfl rfl (V_fieldE rfl underlying57 rfl rfl inf9 rfl (v:=ptr (some (b1,1)) 0) rfl) ?_
   refine TA_tw 9 [0,0,0,0,0,0] (dn 37 1023) rfl rfl (V_load rfl (.o 1) rfl isAgg9) ?_
   refine TA_tw 10 [0,0,0,0,0,0] (dn 37 2047) rfl rfl (V_len_str rfl underlying9) ?_
   refine TA_tw 11 [0,0,0,0,0,0] (dn 37 4095) rfl rfl (V_move rfl) ?_
   refine TA_tw 12 [0,0,0,0,0,0] (dn 37 8191) rfl rfl (V_bin rfl rfl (fun w=>quoI w r_1.2.1 8 (by decide))) ?_
   refine TA_tw 13 [0,0,0,0,0,0] (dn 37 16383) rfl rfl (V_bin rfl rfl (fun w=>eqlI w ((p_Secret).length:Int) (w64 (r_1.2.1.tdiv 8)))) ?_
   refine TA_tk 14 [0,0,0,0,0,0] (dn 37 32767) rfl rfl (V_pick (b:=true) rfl rfl) ?_
   refine TA_tk 15 [0,0,0,0,0,0] (dn 37 65535) rfl rfl (V_move rfl) ?_
   refine TA_re (d:=30) (v:=vb (decide (((p_Secret).length:Int)=(w64 (r_1.2.1.tdiv 8))))) (v':=vb false) rfl (congrArg vb hg2_16) ?_
   refine TA_ts 16 [0,0,0,0,0,0] (dn 37 131071) rfl rfl ?_
   refine TA_ts 17 [0,0,0,0,0,0] (dn 37 262143) rfl rfl ?_
   refine TA_ts 18 [0,0,0,0,0,0] (dn 37 524287) rfl rfl ?_
   refine TA_ts 19 [0,0,0,0,0,0] (dn 37 1048575) rfl rfl ?_
   refine TA_tk 20 [0,0,0,0,0,0] (dn 37 2097151) rfl rfl (V_pick (b:=false) rfl rfl) ?_
   refine TA_tk 21 [0,0,0,0,0,0] (dn 37 4194303) rfl rfl (V_move rfl) ?_
   refine TA_ts 22 [0,0,0,0,0,0] (dn 37 8388607) rfl rfl ?_
   refine TA_ts 23 [0,0,0,0,0,0] (dn 37 16777215) rfl rfl ?_
   refine TA_ts 24 [0,0,0,0,0,0] (dn 37 33554431) rfl rfl ?_
   refine TA_tk 25 [0,0,0,0,0,0] (dn 37 67108863) rfl rfl (V_pick (b:=false) rfl rfl) ?_
   refine TA_tk 26 [0,0,0,0,0,0] (dn 37 134217727) rfl rfl (V_move rfl) ?_
   refine TA_ts 27 [0,0,0,0,0,0] (dn 37 268435455) rfl rfl ?_
   refine TA_ts 28 [0,0,0,0,0,0] (dn 37 536870911) rfl rfl ?_
   refine TA_ts 29 [0,0,0,0,0,0] (dn 37 1073741823) rfl rfl ?_
   refine TA_tk 30 [0,0,0,0,0,0] (dn 37 2147483647) rfl rfl (V_pick (b:=false) rfl rfl) ?_
   refine TA_tk 31 [0,0,0,0,0,0] (dn 37 4294967295) rfl rfl (V_move rfl) ?_
   refine TA_ts 32 [0,0,0,0,0,0] (dn 37 8589934591) rfl rfl ?_
   refine TA_ts 33 [0,0,0,0,0,0] (dn 37 17179869183) rfl rfl ?_
   refine TA_ts 34 [0,0,0,0,0,0] (dn 37 34359738367) rfl rfl ?_
   refine TA_tk 35 [0,0,0,0,0,0] (dn 37 68719476735) rfl rfl (V_pick (b:=false) rfl rfl) ?_
   refine TA_tk 36 [0,0,0,0,0,0] (dn 37 137438953471) rfl rfl (V_assign rfl) ?_
   refine TA_done (by kernel_rfl) ?_ 0
   refine TX_next (TC.sub (m':=[(4,_)]) ⟨rfl,trivial⟩ ?_)
   refine TC.pull (is:=[]) (L':=[]) rfl ?_
   refine TC_ret ?_
   obtain rfl:=sj H
   exact TX1
 ·replace H:=ite_f (Bool.eq_false_iff.1 hg2_8) H
  refine TA_begin [⟨some (b1,0),[vs p_Ticket]⟩,⟨some (b1,1),[vs p_Secret]⟩,⟨some (b1,2),[vi p_Suite]⟩,⟨some (b1,3),[vi p_Add]⟩,⟨some (b1,4),[vi p_Got]⟩,⟨some (b1,5),[vi p_Life]⟩] 37 (by kernel_rfl) (N:=37) rfl ?_
  refine TA_tk 0 [0,0,0,0,0,0] (dn 37 1) rfl rfl (V_move rfl) ?_
  refine TA_tk 1 [0,0,0,0,0,0] (dn 37 3) rfl rfl (V_nilCheck rfl) ?_
  refine TA_tk 2 [0,0,0,0,0,0] (dn 37 7) rfl rfl (V_fieldE rfl underlying26 rfl rfl inf22 rfl (v:=ptr (some (bc,obc+1)) 0) rfl) ?_
  refine TA_tk 3 [0,0,0,0,0,0] (dn 37 15) rfl rfl (V_load rfl (.r 1) rfl isAgg22) ?_
  refine TA_tk 4 [0,0,0,0,0,0] (dn 37 31) rfl rfl (V_fieldE rfl underlying57 rfl rfl inf3 rfl (v:=ptr (some (b1,2)) 0) rfl) ?_
  refine TA_tk 5 [0,0,0,0,0,0] (dn 37 63) rfl rfl (V_load rfl (.o 2) rfl isAgg3) ?_
  refine TA_all (rs:=[6]) (by kernel_rfl) rfl ?_
  refine ⟨?_,trivial⟩
  refine TO_e (is:=[0,0,0,0,0,0]) (done':=dn 37 127) rfl rfl rfl rfl (by kernel_rfl) (E_c0 (F62_calls Ac_Suites cc_Suites c_Suites p_Suite hcc_Suites r_2 hr_2) call62 ⟨.r 15,trivial⟩) (fun _ _=>rfl) (fun g_2=>?_)
  refine TA_tk 7 [0,0,0,0,0,0] (dn 37 255) rfl rfl (V_move rfl) ?_
  refine TA_re (d:=22) (v:=vb r_2) (v':=vb false) rfl (congrArg vb hg2_8) ?_
  refine TA_ts 8 [0,0,0,0,0,0] (dn 37 511) rfl rfl ?_
  refine TA_ts 9 [0,0,0,0,0,0] (dn 37 1023) rfl rfl ?_
  refine TA_ts 10 [0,0,0,0,0,0] (dn 37 2047) rfl rfl ?_
  refine TA_ts 11 [0,0,0,0,0,0] (dn 37 4095) rfl rfl ?_
  refine TA_ts 12 [0,0,0,0,0,0] (dn 37 8191) rfl rfl ?_
  refine TA_ts 13 [0,0,0,0,0,0] (dn 37 16383) rfl rfl ?_
  refine TA_tk 14 [0,0,0,0,0,0] (dn 37 32767) rfl rfl (V_pick (b:=false) rfl rfl) ?_
  refine TA_tk 15 [0,0,0,0,0,0] (dn 37 65535) rfl rfl (V_move rfl) ?_
  refine TA_ts 16 [0,0,0,0,0,0] (dn 37 131071) rfl rfl ?_
  refine TA_ts 17 [0,0,0,0,0,0] (dn 37 262143) rfl rfl ?_
  refine TA_ts 18 [0,0,0,0,0,0] (dn 37 524287) rfl rfl ?_
  refine TA_ts 19 [0,0,0,0,0,0] (dn 37 1048575) rfl rfl ?_
  refine TA_tk 20 [0,0,0,0,0,0] (dn 37 2097151) rfl rfl (V_pick (b:=false) rfl rfl) ?_
  refine TA_tk 21 [0,0,0,0,0,0] (dn 37 4194303) rfl rfl (V_move rfl) ?_
  refine TA_ts 22 [0,0,0,0,0,0] (dn 37 8388607) rfl rfl ?_
  refine TA_ts 23 [0,0,0,0,0,0] (dn 37 16777215) rfl rfl ?_
  refine TA_ts 24 [0,0,0,0,0,0] (dn 37 33554431) rfl rfl ?_
  refine TA_tk 25 [0,0,0,0,0,0] (dn 37 67108863) rfl rfl (V_pick (b:=false) rfl rfl) ?_
  refine TA_tk 26 [0,0,0,0,0,0] (dn 37 134217727) rfl rfl (V_move rfl) ?_
  refine TA_ts 27 [0,0,0,0,0,0] (dn 37 268435455) rfl rfl ?_
  refine TA_ts 28 [0,0,0,0,0,0] (dn 37 536870911) rfl rfl ?_
  refine TA_ts 29 [0,0,0,0,0,0] (dn 37 1073741823) rfl rfl ?_
  refine TA_tk 30 [0,0,0,0,0,0] (dn 37 2147483647) rfl rfl (V_pick (b:=false) rfl rfl) ?_
  refine TA_tk 31 [0,0,0,0,0,0] (dn 37 4294967295) rfl rfl (V_move rfl) ?_
  refine TA_ts 32 [0,0,0,0,0,0] (dn 37 8589934591) rfl rfl ?_
  refine TA_ts 33 [0,0,0,0,0,0] (dn 37 17179869183) rfl rfl ?_
  refine TA_ts 34 [0,0,0,0,0,0] (dn 37 34359738367) rfl rfl ?_
  refine TA_tk 35 [0,0,0,0,0,0] (dn 37 68719476735) rfl rfl (V_pick (b:=false) rfl rfl) ?_
  refine TA_tk 36 [0,0,0,0,0,0] (dn 37 137438953471) rfl rfl (V_assign rfl) ?_
  refine TA_done (by kernel_rfl) ?_ 0
  refine TX_next (TC.sub (m':=[(4,_)]) ⟨rfl,trivial⟩ ?_)
  refine TC.pull (is:=[]) (L':=[]) rfl ?_
  refine TC_ret ?_
  obtain rfl:=sj H
  exact TX1
end Go.Proofs
end

section
namespace Go.Proofs
open Go Go.Kx
open TryzI Tryz
def hello_client_1 (p_Ticket:Str) (p_Secret:Str) (p_Suite:Int) (p_Add:Int) (p_Got:Int) (p_Life:Int) (cap0_Server:Bool) (cap0_Suites:List (Int)) (cap0_Groups:List (Int)) (cap0_Chain:List (Str)) (cap0_Key:Str) (cap0_Roots:List (Str)) (cap0_Name:Str) (cap0_Tickets:Int) (cap0_Seal:Str) (cap0_Psk:List (Str × Str × Int × Int × Int × Int)) (cap0_Tape:Str) (cap0_Clock:Int) (cap0_Pad:Int) (cap0_Limit:Int) (cap0_Ring:Int):Option (Bool) :=
 (hello_psk cap0_Server cap0_Suites cap0_Groups cap0_Chain cap0_Key cap0_Roots cap0_Name cap0_Tickets cap0_Seal cap0_Psk cap0_Tape cap0_Clock cap0_Pad cap0_Limit cap0_Ring p_Ticket p_Secret p_Suite p_Add p_Got p_Life).bind fun (r_1:Bool)=>(some (!r_1))
set_option maxHeartbeats 4000000 in
set_option maxRecDepth 20000 in
theorem F75_calls (bcap0:Nat) (obcap0:Nat) (bcap02:Nat) (obcap02:Nat) (Acap0_Suites:Adr) (ccap0_Suites:Nat) (Acap0_Groups:Adr) (ccap0_Groups:Nat) (Acap0_Chain:Adr) (ccap0_Chain:Nat) (Acap0_Roots:Adr) (ccap0_Roots:Nat) (Acap0_Psk:Adr) (ccap0_Psk:Nat) (p_Ticket:Str) (p_Secret:Str) (p_Suite:Int) (p_Add:Int) (p_Got:Int) (p_Life:Int) (cap0_Server:Bool) (cap0_Suites:List (Int)) (cap0_Groups:List (Int)) (cap0_Chain:List (Str)) (cap0_Key:Str) (cap0_Roots:List (Str)) (cap0_Name:Str) (cap0_Tickets:Int) (cap0_Seal:Str) (cap0_Psk:List (Str × Str × Int × Int × Int × Int)) (cap0_Tape:Str) (cap0_Clock:Int) (cap0_Pad:Int) (cap0_Limit:Int) (cap0_Ring:Int) (hccap0_Suites:(cap0_Suites).length≤ccap0_Suites) (hccap0_Groups:(cap0_Groups).length≤ccap0_Groups) (hccap0_Chain:(cap0_Chain).length≤ccap0_Chain) (hccap0_Roots:(cap0_Roots).length≤ccap0_Roots) (hccap0_Psk:(cap0_Psk).length≤ccap0_Psk) (r:Bool) (H:hello_client_1 p_Ticket p_Secret p_Suite p_Add p_Got p_Life cap0_Server cap0_Suites cap0_Groups cap0_Chain cap0_Key cap0_Roots cap0_Name cap0_Tickets cap0_Seal cap0_Psk cap0_Tape cap0_Clock cap0_Pad cap0_Limit cap0_Ring=some r) :
  Does Tryz.prog 75 [aG [(1,[vs p_Ticket]),(1,[vs p_Secret]),(1,[vi p_Suite]),(1,[vi p_Add]),(1,[vi p_Got]),(1,[vi p_Life])],ptr (some (bcap0,obcap0)) 0] [] [⟨some (bcap0,obcap0),[ptr (some (bcap02,obcap02)) 0]⟩,⟨some (bcap02,obcap02),[vb cap0_Server]⟩,⟨some (bcap02,obcap02+1),[sl Acap0_Suites ((cap0_Suites).length) ccap0_Suites]⟩,⟨some (bcap02,obcap02+2),[sl Acap0_Groups ((cap0_Groups).length) ccap0_Groups]⟩,⟨some (bcap02,obcap02+3),[sl Acap0_Chain ((cap0_Chain).length) ccap0_Chain]⟩,⟨some (bcap02,obcap02+4),[vs cap0_Key]⟩,⟨some (bcap02,obcap02+5),[sl Acap0_Roots ((cap0_Roots).length) ccap0_Roots]⟩,⟨some (bcap02,obcap02+6),[vs cap0_Name]⟩,⟨some (bcap02,obcap02+7),[vi cap0_Tickets]⟩,⟨some (bcap02,obcap02+8),[vs cap0_Seal]⟩,⟨some (bcap02,obcap02+9),[sl Acap0_Psk ((cap0_Psk).length) ccap0_Psk]⟩,⟨some (bcap02,obcap02+10),[vs cap0_Tape]⟩,⟨some (bcap02,obcap02+11),[vi cap0_Clock]⟩,⟨some (bcap02,obcap02+12),[vi cap0_Pad]⟩,⟨some (bcap02,obcap02+13),[vi cap0_Limit]⟩,⟨some (bcap02,obcap02+14),[vi cap0_Ring]⟩,⟨Acap0_Suites,eI cap0_Suites⟩,⟨Acap0_Groups,eI cap0_Groups⟩,⟨Acap0_Chain,eS cap0_Chain⟩,⟨Acap0_Roots,eS cap0_Roots⟩,⟨Acap0_Psk,eF (fun p:Str × Str × Int × Int × Int × Int=>[vs p.1,vs p.2.1,vi p.2.2.1,vi p.2.2.2.1,vi p.2.2.2.2.1,vi p.2.2.2.2.2]) cap0_Psk⟩] (Γ:=Unit) (fun g=>vb r) (fun g=>[]):=by
 intro w hmem hro hd
 refine calls_of (N:=8) (m0:=[(0,aG [(1,[vs p_Ticket]),(1,[vs p_Secret]),(1,[vi p_Suite]),(1,[vi p_Add]),(1,[vi p_Got]),(1,[vi p_Life])]),(1,ptr (some (bcap0,obcap0)) 0)]) func75 rfl ntmps75 (argM_ok [aG [(1,[vs p_Ticket]),(1,[vs p_Secret]),(1,[vi p_Suite]),(1,[vi p_Add]),(1,[vi p_Got]),(1,[vi p_Life])],ptr (some (bcap0,obcap0)) 0]) rfl hmem hro hd ?_
 unfold hello_client_1 at H
 refine TC_seq (TC_region (TLe (E_boxP [(1,[vs p_Ticket]),(1,[vs p_Secret]),(1,[vi p_Suite]),(1,[vi p_Add]),(1,[vi p_Got]),(1,[vi p_Life])] rfl rfl ⟨rfl,rfl,rfl,rfl,rfl,rfl,trivial⟩) (fun b1=>?_)))
 refine TVa ?_
 refine TL_nil (TX_next (TC_seq (TC_region (TLv (V_load rfl (.r 0) rfl isAgg71) ?_))))
 refine TLv (V_lp (b:=b1) (o:=0) (n:=6) (ps:=[(1,_),(1,_),(1,_),(1,_),(1,_),(1,_)]) ⟨.o 0, .o 1, .o 2, .o 3, .o 4, .o 5,trivial⟩ isAgg57 inf57) ?_
 obtain ⟨r_1,hr_1,H⟩:=bind_elim H
 refine TLe (E_c0 (F76_calls bcap02 obcap02 Acap0_Suites ccap0_Suites Acap0_Groups ccap0_Groups Acap0_Chain ccap0_Chain Acap0_Roots ccap0_Roots Acap0_Psk ccap0_Psk cap0_Server cap0_Suites cap0_Groups cap0_Chain cap0_Key cap0_Roots cap0_Name cap0_Tickets cap0_Seal cap0_Psk cap0_Tape cap0_Clock cap0_Pad cap0_Limit cap0_Ring p_Ticket p_Secret p_Suite p_Add p_Got p_Life hccap0_Suites hccap0_Groups hccap0_Chain hccap0_Roots hccap0_Psk r_1 hr_1) call76 ⟨.r 1, .r 2, .r 3, .r 4, .r 5, .r 6, .r 7, .r 8, .r 9, .r 10, .r 11, .r 12, .r 13, .r 14, .r 15, .r 16, .r 17, .r 18, .r 19, .r 20,trivial⟩) (fun g_1=>?_)
 refine TLv (V_un rfl (fun w=>notB w r_1)) ?_
 refine TVa ?_
 refine TL_nil (TX_next (TC_ret ?_))
 obtain rfl:=sj H
 exact TX1
end Go.Proofs
end

section
namespace Go.Proofs
open Go Go.Kx
open TryzI Tryz
def slices_IndexFunc___api_Psk_api_Psk__fn1_75.b0 (s_:List (Str × Str × Int × Int × Int × Int)) (fc0_Server:Bool) (fc0_Suites:List (Int)) (fc0_Groups:List (Int)) (fc0_Chain:List (Str)) (fc0_Key:Str) (fc0_Roots:List (Str)) (fc0_Name:Str) (fc0_Tickets:Int) (fc0_Seal:Str) (fc0_Psk:List (Str × Str × Int × Int × Int × Int)) (fc0_Tape:Str) (fc0_Clock:Int) (fc0_Pad:Int) (fc0_Limit:Int) (fc0_Ring:Int) (s0:Int):Option ((Int) ⊕ ((Unit) ⊕ (Int))) :=
 if s0<((s_).length:Int) then (if 0≤s0∧s0<((s_).length:Int) then ((hello_client_1 ((lg s_ ((s0).toNat)).1) ((lg s_ ((s0).toNat)).2.1) ((lg s_ ((s0).toNat)).2.2.1) ((lg s_ ((s0).toNat)).2.2.2.1) ((lg s_ ((s0).toNat)).2.2.2.2.1) ((lg s_ ((s0).toNat)).2.2.2.2.2) fc0_Server fc0_Suites fc0_Groups fc0_Chain fc0_Key fc0_Roots fc0_Name fc0_Tickets fc0_Seal fc0_Psk fc0_Tape fc0_Clock fc0_Pad fc0_Limit fc0_Ring).bind fun (r_1:Bool)=>(if r_1=true then (some (.inr (.inr s0))) else (some (.inl (w64 (s0+1)))))) else none) else (some (.inr (.inl ())))
def slices_IndexFunc___api_Psk_api_Psk__fn1_75 (s_:List (Str × Str × Int × Int × Int × Int)) (fc0_Server:Bool) (fc0_Suites:List (Int)) (fc0_Groups:List (Int)) (fc0_Chain:List (Str)) (fc0_Key:Str) (fc0_Roots:List (Str)) (fc0_Name:Str) (fc0_Tickets:Int) (fc0_Seal:Str) (fc0_Psk:List (Str × Str × Int × Int × Int × Int)) (fc0_Tape:Str) (fc0_Clock:Int) (fc0_Pad:Int) (fc0_Limit:Int) (fc0_Ring:Int):Option (Int) :=
 (loop (slices_IndexFunc___api_Psk_api_Psk__fn1_75.b0 s_ fc0_Server fc0_Suites fc0_Groups fc0_Chain fc0_Key fc0_Roots fc0_Name fc0_Tickets fc0_Seal fc0_Psk fc0_Tape fc0_Clock fc0_Pad fc0_Limit fc0_Ring) BIG 0).bind fun (t_1:(Unit) ⊕ (Int))=>(match t_1 with | .inl t_1=>(some (-1)) | .inr rv=>some rv)
set_option maxHeartbeats 4000000 in
set_option maxRecDepth 20000 in
theorem F92_fn1_75_calls (As_:Adr) (cs_:Nat) (bfc0:Nat) (obfc0:Nat) (bfc02:Nat) (obfc02:Nat) (Afc0_Suites:Adr) (cfc0_Suites:Nat) (Afc0_Groups:Adr) (cfc0_Groups:Nat) (Afc0_Chain:Adr) (cfc0_Chain:Nat) (Afc0_Roots:Adr) (cfc0_Roots:Nat) (Afc0_Psk:Adr) (cfc0_Psk:Nat) (s_:List (Str × Str × Int × Int × Int × Int)) (fc0_Server:Bool) (fc0_Suites:List (Int)) (fc0_Groups:List (Int)) (fc0_Chain:List (Str)) (fc0_Key:Str) (fc0_Roots:List (Str)) (fc0_Name:Str) (fc0_Tickets:Int) (fc0_Seal:Str) (fc0_Psk:List (Str × Str × Int × Int × Int × Int)) (fc0_Tape:Str) (fc0_Clock:Int) (fc0_Pad:Int) (fc0_Limit:Int) (fc0_Ring:Int) (hcs_:(s_).length≤cs_) (hcfc0_Suites:(fc0_Suites).length≤cfc0_Suites) (hcfc0_Groups:(fc0_Groups).length≤cfc0_Groups) (hcfc0_Chain:(fc0_Chain).length≤cfc0_Chain) (hcfc0_Roots:(fc0_Roots).length≤cfc0_Roots) (hcfc0_Psk:(fc0_Psk).length≤cfc0_Psk) (r:Int) (H:slices_IndexFunc___api_Psk_api_Psk__fn1_75 s_ fc0_Server fc0_Suites fc0_Groups fc0_Chain fc0_Key fc0_Roots fc0_Name fc0_Tickets fc0_Seal fc0_Psk fc0_Tape fc0_Clock fc0_Pad fc0_Limit fc0_Ring=some r) :
  Does Tryz.prog 92 [sl As_ ((s_).length) cs_,Value.func (.func 75) #[] #[ptr (some (bfc0,obfc0)) 0]] [] [⟨As_,eF (fun p:Str × Str × Int × Int × Int × Int=>[vs p.1,vs p.2.1,vi p.2.2.1,vi p.2.2.2.1,vi p.2.2.2.2.1,vi p.2.2.2.2.2]) s_⟩,⟨some (bfc0,obfc0),[ptr (some (bfc02,obfc02)) 0]⟩,⟨some (bfc02,obfc02),[vb fc0_Server]⟩,⟨some (bfc02,obfc02+1),[sl Afc0_Suites ((fc0_Suites).length) cfc0_Suites]⟩,⟨some (bfc02,obfc02+2),[sl Afc0_Groups ((fc0_Groups).length) cfc0_Groups]⟩,⟨some (bfc02,obfc02+3),[sl Afc0_Chain ((fc0_Chain).length) cfc0_Chain]⟩,⟨some (bfc02,obfc02+4),[vs fc0_Key]⟩,⟨some (bfc02,obfc02+5),[sl Afc0_Roots ((fc0_Roots).length) cfc0_Roots]⟩,⟨some (bfc02,obfc02+6),[vs fc0_Name]⟩,⟨some (bfc02,obfc02+7),[vi fc0_Tickets]⟩,⟨some (bfc02,obfc02+8),[vs fc0_Seal]⟩,⟨some (bfc02,obfc02+9),[sl Afc0_Psk ((fc0_Psk).length) cfc0_Psk]⟩,⟨some (bfc02,obfc02+10),[vs fc0_Tape]⟩,⟨some (bfc02,obfc02+11),[vi fc0_Clock]⟩,⟨some (bfc02,obfc02+12),[vi fc0_Pad]⟩,⟨some (bfc02,obfc02+13),[vi fc0_Limit]⟩,⟨some (bfc02,obfc02+14),[vi fc0_Ring]⟩,⟨Afc0_Suites,eI fc0_Suites⟩,⟨Afc0_Groups,eI fc0_Groups⟩,⟨Afc0_Chain,eS fc0_Chain⟩,⟨Afc0_Roots,eS fc0_Roots⟩,⟨Afc0_Psk,eF (fun p:Str × Str × Int × Int × Int × Int=>[vs p.1,vs p.2.1,vi p.2.2.1,vi p.2.2.2.1,vi p.2.2.2.2.1,vi p.2.2.2.2.2]) fc0_Psk⟩] (Γ:=Unit) (fun g=>vi r) (fun g=>[]):=by
 intro w hmem hro hd
 refine calls_of (N:=19) (m0:=[(0,sl As_ ((s_).length) cs_),(1,Value.func (.func 75) #[] #[ptr (some (bfc0,obfc0)) 0])]) func92 rfl ntmps92 (argM_ok [sl As_ ((s_).length) cs_,Value.func (.func 75) #[] #[ptr (some (bfc0,obfc0)) 0]]) rfl hmem hro hd ?_
 unfold slices_IndexFunc___api_Psk_api_Psk__fn1_75 at H
 refine TC_seq (TC_region (TVa ?_))
 refine TL_nil (TX_next (TC_seq (TC_seq (TC_region (TVm ?_)))))
 refine TLv (V_len_slice rfl underlying24) ?_
 refine TVm ?_
 refine TL_nil (TX_next (TC_block ?_))
 obtain ⟨t_1,Hl,H⟩:=bind_elim H
 refine TC.sub (m':=[(0,_),(1,_),(7,_),(8,_)]) ⟨rfl,rfl,rfl,rfl,trivial⟩ ?_
 refine TC.pull (is:=[]) (L':=[]) rfl ?_
 refine TC_loopR (id:=0) (body:=(slices_IndexFunc___api_Psk_api_Psk__fn1_75.b0 s_ fc0_Server fc0_Suites fc0_Groups fc0_Chain fc0_Key fc0_Roots fc0_Name fc0_Tickets fc0_Seal fc0_Psk fc0_Tape fc0_Clock fc0_Pad fc0_Limit fc0_Ring)) (σ:=Int) (Γ:=Unit) (Γx:=Unit) (fun s0 g0_=>[(0,sl As_ ((s_).length) cs_),(1,Value.func (.func 75) #[] #[ptr (some (bfc0,obfc0)) 0]),(7,vi ((s_).length:Int)),(8,vi s0)]) (fun s0 g0_=>[]) (fun t g=>[]) (fun t g=>[]) r ?_ BIG 0 () t_1 Hl ?_
 ·intro s0 g0_ r1 H K hK hE hR1
  unfold slices_IndexFunc___api_Psk_api_Psk__fn1_75.b0 at H
  refine TC_seq (TC_region (TLv (V_bin rfl rfl (fun w=>lssI w s0 ((s_).length:Int))) ?_))
  refine TL_nil (TX_next (TC_seq (TCd H (fun hc H=>?_) (fun hc H=>?_))))
  ·refine TC_skip (TX_next (TC_seq (TC_block (TC_seq (TC_region (TVm ?_))))))
   refine TVa ?_
   refine TL_nil (TX_next (TC_seq (TC_region (TVm ?_))))
   refine TVm ?_
   refine TVm ?_
   obtain ⟨h1,H⟩:=if_elim H
   refine TLv (V_idxSlS (i:=s0) rfl rfl underlying24 inf57 rfl (.r 0) (eF_ne2 (s:=6) (fun _=>rfl) rfl (toNat_lt h1.1 h1.2)) h1.1 h1.2 (k:=((s0).toNat) * 6) rfl) ?_
   refine TLv (V_loadPart (n:=6) (ds:=[vs ((lg s_ ((s0).toNat)).1),vs ((lg s_ ((s0).toNat)).2.1),vi ((lg s_ ((s0).toNat)).2.2.1),vi ((lg s_ ((s0).toNat)).2.2.2.1),vi ((lg s_ ((s0).toNat)).2.2.2.2.1),vi ((lg s_ ((s0).toNat)).2.2.2.2.2)]) rfl (.r 0) (part_eF (g:=fun p:Str × Str × Int × Int × Int × Int=>[vs p.1,vs p.2.1,vi p.2.2.1,vi p.2.2.2.1,vi p.2.2.2.2.1,vi p.2.2.2.2.2]) (s:=6) (fun _=>rfl) s_ ((s0).toNat) (toNat_lt h1.1 h1.2)) rfl rfl isAgg57 inf57 rfl) ?_
   obtain ⟨r_1,hr_1,H⟩:=bind_elim H
   refine TLe (E_c0V (vs:=[aG [(1,[vs ((lg s_ ((s0).toNat)).1)]),(1,[vs ((lg s_ ((s0).toNat)).2.1)]),(1,[vi ((lg s_ ((s0).toNat)).2.2.1)]),(1,[vi ((lg s_ ((s0).toNat)).2.2.2.1)]),(1,[vi ((lg s_ ((s0).toNat)).2.2.2.2.1)]),(1,[vi ((lg s_ ((s0).toNat)).2.2.2.2.2)])]]) (cap:=[ptr (some (bfc0,obfc0)) 0]) (F75_calls bfc0 obfc0 bfc02 obfc02 Afc0_Suites cfc0_Suites Afc0_Groups cfc0_Groups Afc0_Chain cfc0_Chain Afc0_Roots cfc0_Roots Afc0_Psk cfc0_Psk ((lg s_ ((s0).toNat)).1) ((lg s_ ((s0).toNat)).2.1) ((lg s_ ((s0).toNat)).2.2.1) ((lg s_ ((s0).toNat)).2.2.2.1) ((lg s_ ((s0).toNat)).2.2.2.2.1) ((lg s_ ((s0).toNat)).2.2.2.2.2) fc0_Server fc0_Suites fc0_Groups fc0_Chain fc0_Key fc0_Roots fc0_Name fc0_Tickets fc0_Seal fc0_Psk fc0_Tape fc0_Clock fc0_Pad fc0_Limit fc0_Ring hcfc0_Suites hcfc0_Groups hcfc0_Chain hcfc0_Roots hcfc0_Psk r_1 hr_1) call75 ⟨.r 1, .r 2, .r 3, .r 4, .r 5, .r 6, .r 7, .r 8, .r 9, .r 10, .r 11, .r 12, .r 13, .r 14, .r 15, .r 16, .r 17, .r 18, .r 19, .r 20, .r 21,trivial⟩) (fun g_1=>?_)
   refine TL_nil (TX_next (TCb H (fun hc H=>?_) (fun hc H=>?_)))
   ·refine TC_seq (TC_region (TVm ?_))
    refine TVa ?_
    refine TL_nil (TX_next (TC_ret (TX_block_ret (TX_then_ret (TX_then_ret (TX_block_ret (TX_then_ret ?_)))))))
    have hrv:=(hR1 _ (Option.some.inj H).symm)
    subst hrv
    exact TX1
   ·refine TC_skip (TX_block_normal (TX_next (TC_region (TLv (V_bin rfl rfl (fun w=>addI w s0 1)) ?_))))
    refine TVm ?_
    refine TL_nil ?_
    obtain rfl:=sj H
    exact TXk [] (hK (w64 (s0+1)) rfl ())
  ·refine TC_exit (TX_then_exit (TX_then_exit ?_))
   obtain rfl:=sj H
   exact TXj [] (hE () rfl ())
 ·rcases t_1 with t_1 | rv
  ·intro gx1
   dsimp only at H
   refine TX_block_exit (TX_next (TC_seq (TC_region (TVa ?_))))
   refine TL_nil (TX_next (TC_ret ?_))
   obtain rfl:=sj H
   exact TX1
  ·exact (Option.some.inj H)
end Go.Proofs
end

/-
  Part 10 of the proof of what several laws share.
-/
import Derived.Test.YtkgeoekcnlgfnaaGreatDoorKc1
import Derived.Test.YtkgeoekcnlgfnaaGreatDoorKc2
import Derived.Test.YtkgeoekcnlgfnaaGreatDoorKc3
import Derived.Test.YtkgeoekcnlgfnaaGreatDoorKc4
import Derived.Test.YtkgeoekcnlgfnaaGreatDoorKc5
import Derived.Test.YtkgeoekcnlgfnaaGreatDoorKc6
import Derived.Test.YtkgeoekcnlgfnaaGreatDoorKc7
import Derived.Test.YtkgeoekcnlgfnaaGreatDoorKc8
import Derived.Test.YtkgeoekcnlgfnaaGreatDoorKc9
set_option linter.unusedVariables false
set_option linter.unusedSimpArgs false
section
namespace Go.Proofs
open Go Go.Kx
open TryzI Tryz
def hello_server (c_Server:Bool) (c_Suites:List (Int)) (c_Groups:List (Int)) (c_Chain:List (Str)) (c_Key:Str) (c_Roots:List (Str)) (c_Name:Str) (c_Tickets:Int) (c_Seal:Str) (c_Psk:List (Str × Str × Int × Int × Int × Int)) (c_Tape:Str) (c_Clock:Int) (c_Pad:Int) (c_Limit:Int) (c_Ring:Int):Option (Bool) :=
 (pcurve_Scalar c_Key).bind fun (r_1:Vx 64 4 × Bool)=>((if ((c_Seal).length:Int)=32 then (some true) else (if c_Seal=([]:Str) then (ltt (decide (c_Tickets=0)) fun (sealed1:Bool)=>(some sealed1)) else (some false))).bind fun (j1:Bool)=>(if r_1.2=true then ((hello_certs c_Chain 1).bind fun (r_2:Bool)=>(if r_2=true then ((hello_fits c_Chain).bind fun (r_3:Bool)=>(if r_3=true then (if j1=true then ((hello_in c_Tickets 0 8).bind fun (r_4:Bool)=>(if r_4=true then (if (w64 (((c_Roots).length:Int)+((c_Psk).length:Int)))=0 then (ltt (decide (c_Name=([]:Str))) fun (x1:Bool)=>(some x1)) else (some false)) else (some false))) else (some false)) else (some false))) else (some false))) else (some false)))
set_option maxHeartbeats 4000000 in
set_option maxRecDepth 20000 in
theorem F47_calls (bc:Nat) (obc:Nat) (Ac_Suites:Adr) (cc_Suites:Nat) (Ac_Groups:Adr) (cc_Groups:Nat) (Ac_Chain:Adr) (cc_Chain:Nat) (Ac_Roots:Adr) (cc_Roots:Nat) (Ac_Psk:Adr) (cc_Psk:Nat) (c_Server:Bool) (c_Suites:List (Int)) (c_Groups:List (Int)) (c_Chain:List (Str)) (c_Key:Str) (c_Roots:List (Str)) (c_Name:Str) (c_Tickets:Int) (c_Seal:Str) (c_Psk:List (Str × Str × Int × Int × Int × Int)) (c_Tape:Str) (c_Clock:Int) (c_Pad:Int) (c_Limit:Int) (c_Ring:Int) (hcc_Suites:(c_Suites).length≤cc_Suites) (hcc_Groups:(c_Groups).length≤cc_Groups) (hcc_Chain:(c_Chain).length≤cc_Chain) (hcc_Roots:(c_Roots).length≤cc_Roots) (hcc_Psk:(c_Psk).length≤cc_Psk) (r:Bool) (H:hello_server c_Server c_Suites c_Groups c_Chain c_Key c_Roots c_Name c_Tickets c_Seal c_Psk c_Tape c_Clock c_Pad c_Limit c_Ring=some r) :
  Does Tryz.prog 47 [ptr (some (bc,obc)) 0] [] [⟨some (bc,obc),[vb c_Server]⟩,⟨some (bc,obc+1),[sl Ac_Suites ((c_Suites).length) cc_Suites]⟩,⟨some (bc,obc+2),[sl Ac_Groups ((c_Groups).length) cc_Groups]⟩,⟨some (bc,obc+3),[sl Ac_Chain ((c_Chain).length) cc_Chain]⟩,⟨some (bc,obc+4),[vs c_Key]⟩,⟨some (bc,obc+5),[sl Ac_Roots ((c_Roots).length) cc_Roots]⟩,⟨some (bc,obc+6),[vs c_Name]⟩,⟨some (bc,obc+7),[vi c_Tickets]⟩,⟨some (bc,obc+8),[vs c_Seal]⟩,⟨some (bc,obc+9),[sl Ac_Psk ((c_Psk).length) cc_Psk]⟩,⟨some (bc,obc+10),[vs c_Tape]⟩,⟨some (bc,obc+11),[vi c_Clock]⟩,⟨some (bc,obc+12),[vi c_Pad]⟩,⟨some (bc,obc+13),[vi c_Limit]⟩,⟨some (bc,obc+14),[vi c_Ring]⟩,⟨Ac_Suites,eI c_Suites⟩,⟨Ac_Groups,eI c_Groups⟩,⟨Ac_Chain,eS c_Chain⟩,⟨Ac_Roots,eS c_Roots⟩,⟨Ac_Psk,eF (fun p:Str × Str × Int × Int × Int × Int=>[vs p.1,vs p.2.1,vi p.2.2.1,vi p.2.2.2.1,vi p.2.2.2.2.1,vi p.2.2.2.2.2]) c_Psk⟩] (Γ:=Unit) (fun g=>vb r) (fun g=>[]):=by
 intro w hmem hro hd
 refine calls_of (N:=80) (m0:=[(0,ptr (some (bc,obc)) 0)]) func47 rfl ntmps47 (argM_ok [ptr (some (bc,obc)) 0]) rfl hmem hro hd ?_
 unfold hello_server at H
 refine TC_seq (TC_region (TVa ?_))
 refine TL_nil (TX_next (TC_seq (TC_region (TVm ?_))))
 refine TLv (V_nilCheck rfl) ?_
 refine TLv (V_fieldE rfl underlying26 rfl rfl inf9 rfl (v:=ptr (some (bc,obc+4)) 0) rfl) ?_
 refine TLv (V_load rfl (.r 4) rfl isAgg9) ?_
 obtain ⟨r_1,hr_1,H⟩:=bind_elim H
 refine TLe (E_c0 (F71_calls c_Key r_1 hr_1) call71 .z) (fun g_1=>?_)
 refine TVm ?_
 refine TLv V_ex ?_
 refine TLv V_ex ?_
 refine TLe (E_al64 4 inf117 zer117) (fun b1=>?_)
 refine TLn (E_sv (vs:=e64 r_1.1.toList) 0 inf117) (fun _=>?_)
 refine TVa ?_
 refine TL_nil (TX_next (TC_seq (TC_region (TVm ?_))))
 refine TLv (V_nilCheck rfl) ?_
 refine TLv (V_fieldE rfl underlying26 rfl rfl inf9 rfl (v:=ptr (some (bc,obc+8)) 0) rfl) ?_
 refine TLv (V_load rfl (.r 8) rfl isAgg9) ?_
 refine TLv (V_len_str rfl underlying9) ?_
 refine TLv (V_bin rfl rfl (fun w=>eqlI w ((c_Seal).length:Int) 32)) ?_
 refine TVm ?_
 obtain ⟨j1,Hj,H⟩:=bind_elim H
 refine TL_join (Γ:=Unit) (fun gj1=>[(0,ptr (some (bc,obc)) 0),(4,vb r_1.2),(5,vb j1)]) (fun gj1=>[]) ?_ ?_
 ·intro gj1
  refine TX_next (TC_seq (TC_em r_1.2 (fun hg3_2=>?_) (fun hg3_2=>?_)))
  ·replace H:=ite_t hg3_2 H
   obtain ⟨r_2,hr_2,H⟩:=bind_elim H
   refine TC_em r_2 (fun hg3_9=>?_) (fun hg3_9=>?_)
   ·replace H:=ite_t hg3_9 H
    obtain ⟨r_3,hr_3,H⟩:=bind_elim H
    refine TC_em r_3 (fun hg3_16=>?_) (fun hg3_16=>?_)
    ·replace H:=ite_t hg3_16 H
     refine TC_em j1 (fun hg3_19=>?_) (fun hg3_19=>?_)
     ·replace H:=ite_t hg3_19 H
      obtain ⟨r_4,hr_4,H⟩:=bind_elim H
      refine TC_em r_4 (fun hg3_26=>?_) (fun hg3_26=>?_)
      ·replace H:=ite_t hg3_26 H
       refine TC_em (decide ((w64 (((c_Roots).length:Int)+((c_Psk).length:Int)))=0)) (fun hg3_40=>?_) (fun hg3_40=>?_)
       ·replace H:=ite_t (of_decide_eq_true hg3_40) H
        obtain ⟨x1,hx1,H⟩:=ltt_elim H
        refine TA_begin [] 47 (by kernel_rfl) (N:=47) rfl ?_
        refine TA_tk 0 [] (dn 47 1) rfl rfl (V_move rfl) ?_
        refine TA_tk 1 [] (dn 47 3) rfl rfl (V_move rfl) ?_
        refine TA_re (d:=35) (v:=vb r_1.2) (v':=vb true) rfl (congrArg vb hg3_2) ?_
        refine TA_tw 2 [] (dn 47 7) rfl rfl (V_move rfl) ?_
        refine TA_tw 3 [] (dn 47 15) rfl rfl (V_nilCheck rfl) ?_
        refine TA_tw 4 [] (dn 47 31) rfl rfl (V_fieldE rfl underlying26 rfl rfl inf23 rfl (v:=ptr (some (bc,obc+3)) 0) rfl) ?_
        refine TA_tw 5 [] (dn 47 63) rfl rfl (V_load rfl (.r 3) rfl isAgg23) ?_
        refine TA_all (rs:=[6]) (by kernel_rfl) rfl ?_
        refine ⟨?_,trivial⟩
        refine TO_eW (is:=[]) (done':=dn 47 127) rfl rfl rfl rfl rfl rfl rfl (by kernel_rfl) (E_c0 (F72_calls Ac_Chain cc_Chain c_Chain 1 hcc_Chain r_2 hr_2) call72 ⟨.r 17,trivial⟩) (fun _ _=>rfl) (fun g_2=>?_)
        refine TA_tk 7 [] (dn 47 255) rfl rfl (V_pick (b:=true) rfl rfl) ?_
        refine TA_tk 8 [] (dn 47 511) rfl rfl (V_move rfl) ?_
        refine TA_re (d:=42) (v:=vb r_2) (v':=vb true) rfl (congrArg vb hg3_9) ?_
        refine TA_tw 9 [] (dn 47 1023) rfl rfl (V_move rfl) ?_
        refine TA_tw 10 [] (dn 47 2047) rfl rfl (V_nilCheck rfl) ?_
        refine TA_tw 11 [] (dn 47 4095) rfl rfl (V_fieldE rfl underlying26 rfl rfl inf23 rfl (v:=ptr (some (bc,obc+3)) 0) rfl) ?_
        refine TA_tw 12 [] (dn 47 8191) rfl rfl (V_load rfl (.r 3) rfl isAgg23) ?_
        refine TA_all (rs:=[13]) (by kernel_rfl) rfl ?_
        refine ⟨?_,trivial⟩
        refine TO_eW (is:=[]) (done':=dn 47 16383) rfl rfl rfl rfl rfl rfl rfl (by kernel_rfl) (E_c0 (F73_calls Ac_Chain cc_Chain c_Chain hcc_Chain r_3 hr_3) call73 ⟨.r 17,trivial⟩) (fun _ _=>rfl) (fun g_3=>?_)
        refine TA_tk 14 [] (dn 47 32767) rfl rfl (V_pick (b:=true) rfl rfl) ?_
        refine TA_tk 15 [] (dn 47 65535) rfl rfl (V_move rfl) ?_
        refine TA_re (d:=49) (v:=vb r_3) (v':=vb true) rfl (congrArg vb hg3_16) ?_
        refine TA_tw 16 [] (dn 47 131071) rfl rfl (V_move rfl) ?_
        refine TA_tk 17 [] (dn 47 262143) rfl rfl (V_pick (b:=true) rfl rfl) ?_
        refine TA_tk 18 [] (dn 47 524287) rfl rfl (V_move rfl) ?_
        refine TA_re (d:=52) (v:=vb j1) (v':=vb true) rfl (congrArg vb hg3_19) ?_
        refine TA_tw 19 [] (dn 47 1048575) rfl rfl (V_move rfl) ?_
        refine TA_tw 20 [] (dn 47 2097151) rfl rfl (V_nilCheck rfl) ?_
        refine TA_tw 21 [] (dn 47 4194303) rfl rfl (V_fieldE rfl underlying26 rfl rfl inf3 rfl (v:=ptr (some (bc,obc+7)) 0) rfl) ?_
        refine TA_tw 22 [] (dn 47 8388607) rfl rfl (V_load rfl (.r 7) rfl isAgg3) ?_
        refine TA_all (rs:=[23]) (by kernel_rfl) rfl ?_
        refine ⟨?_,trivial⟩
        refine TO_eW (is:=[]) (done':=dn 47 16777215) rfl rfl rfl rfl rfl rfl rfl (by kernel_rfl) (E_c0 (F46_calls c_Tickets 0 8 r_4 hr_4) call46 .z) (fun _ _=>rfl) (fun g_4=>?_)
        refine TA_tk 24 [] (dn 47 33554431) rfl rfl (V_pick (b:=true) rfl rfl) ?_
        refine TA_tk 25 [] (dn 47 67108863) rfl rfl (V_move rfl) ?_
        refine TA_re (d:=59) (v:=vb r_4) (v':=vb true) rfl (congrArg vb hg3_26) ?_
        refine TA_tw 26 [] (dn 47 134217727) rfl rfl (V_move rfl) ?_
        refine TA_tw 27 [] (dn 47 268435455) rfl rfl (V_nilCheck rfl) ?_
        refine TA_tw 28 [] (dn 47 536870911) rfl rfl (V_fieldE rfl underlying26 rfl rfl inf23 rfl (v:=ptr (some (bc,obc+5)) 0) rfl) ?_
        refine TA_tw 29 [] (dn 47 1073741823) rfl rfl (V_load rfl (.r 5) rfl isAgg23) ?_
        refine TA_tw 30 [] (dn 47 2147483647) rfl rfl (V_len_slice rfl underlying23) ?_
        refine TA_tw 31 [] (dn 47 4294967295) rfl rfl (V_move rfl) ?_
        refine TA_tw 32 [] (dn 47 8589934591) rfl rfl (V_nilCheck rfl) ?_
        refine TA_tw 33 [] (dn 47 17179869183) rfl rfl (V_fieldE rfl underlying26 rfl rfl inf24 rfl (v:=ptr (some (bc,obc+9)) 0) rfl) ?_
        refine TA_tw 34 [] (dn 47 34359738367) rfl rfl (V_load rfl (.r 9) rfl isAgg24) ?_
        refine TA_tw 35 [] (dn 47 68719476735) rfl rfl (V_len_slice rfl underlying24) ?_
        refine TA_tw 36 [] (dn 47 137438953471) rfl rfl (V_bin rfl rfl (fun w=>addI w ((c_Roots).length:Int) ((c_Psk).length:Int))) ?_
        refine TA_tw 37 [] (dn 47 274877906943) rfl rfl (V_bin rfl rfl (fun w=>eqlI w (w64 (((c_Roots).length:Int)+((c_Psk).length:Int))) 0)) ?_
        refine TA_tk 38 [] (dn 47 549755813887) rfl rfl (V_pick (b:=true) rfl rfl) ?_
        refine TA_tk 39 [] (dn 47 1099511627775) rfl rfl (V_move rfl) ?_
        refine TA_re (d:=73) (v:=vb (decide ((w64 (((c_Roots).length:Int)+((c_Psk).length:Int)))=0))) (v':=vb true) rfl (congrArg vb hg3_40) ?_
        refine TA_tw 40 [] (dn 47 2199023255551) rfl rfl (V_move rfl) ?_
        refine TA_tw 41 [] (dn 47 4398046511103) rfl rfl (V_nilCheck rfl) ?_
        refine TA_tw 42 [] (dn 47 8796093022207) rfl rfl (V_fieldE rfl underlying26 rfl rfl inf9 rfl (v:=ptr (some (bc,obc+6)) 0) rfl) ?_
        refine TA_tw 43 [] (dn 47 17592186044415) rfl rfl (V_load rfl (.r 6) rfl isAgg9) ?_
        refine TA_tw 44 [] (dn 47 35184372088831) rfl rfl (V_bin rfl rfl (fun w=>eqlS w c_Name ([]:Str))) ?_
        refine TA_tk 45 [] (dn 47 70368744177663) rfl rfl (V_pick (b:=true) rfl rfl) ?_
        refine TA_tk 46 [] (dn 47 140737488355327) rfl rfl (V_assign rfl) ?_
        refine TA_re (d:=2) (v:=vb (decide (c_Name=([]:Str)))) (v':=vb x1) rfl (congrArg vb hx1) ?_
        refine TA_done (by kernel_rfl) ?_ 0
        refine TX_next (TC.sub (m':=[(2,_)]) ⟨rfl,trivial⟩ ?_)
        refine TC.pull (is:=[]) (L':=[]) rfl ?_
        refine TC_ret ?_
        obtain rfl:=sj H
        exact TX1
       ·replace H:=ite_f (of_decide_eq_false hg3_40) H
        refine TA_begin [] 47 (by kernel_rfl) (N:=47) rfl ?_
        refine TA_tk 0 [] (dn 47 1) rfl rfl (V_move rfl) ?_
        refine TA_tk 1 [] (dn 47 3) rfl rfl (V_move rfl) ?_
        refine TA_re (d:=35) (v:=vb r_1.2) (v':=vb true) rfl (congrArg vb hg3_2) ?_
        refine TA_tw 2 [] (dn 47 7) rfl rfl (V_move rfl) ?_
        refine TA_tw 3 [] (dn 47 15) rfl rfl (V_nilCheck rfl) ?_
        refine TA_tw 4 [] (dn 47 31) rfl rfl (V_fieldE rfl underlying26 rfl rfl inf23 rfl (v:=ptr (some (bc,obc+3)) 0) rfl) ?_
        refine TA_tw 5 [] (dn 47 63) rfl rfl (V_load rfl (.r 3) rfl isAgg23) ?_
        refine TA_all (rs:=[6]) (by kernel_rfl) rfl ?_
        refine ⟨?_,trivial⟩
        refine TO_eW (is:=[]) (done':=dn 47 127) rfl rfl rfl rfl rfl rfl rfl (by kernel_rfl) (E_c0 (F72_calls Ac_Chain cc_Chain c_Chain 1 hcc_Chain r_2 hr_2) call72 ⟨.r 17,trivial⟩) (fun _ _=>rfl) (fun g_2=>?_)
        refine TA_tk 7 [] (dn 47 255) rfl rfl (V_pick (b:=true) rfl rfl) ?_
        refine TA_tk 8 [] (dn 47 511) rfl rfl (V_move rfl) ?_
        refine TA_re (d:=42) (v:=vb r_2) (v':=vb true) rfl (congrArg vb hg3_9) ?_
        refine TA_tw 9 [] (dn 47 1023) rfl rfl (V_move rfl) ?_
        refine TA_tw 10 [] (dn 47 2047) rfl rfl (V_nilCheck rfl) ?_
        refine TA_tw 11 [] (dn 47 4095) rfl rfl (V_fieldE rfl underlying26 rfl rfl inf23 rfl (v:=ptr (some (bc,obc+3)) 0) rfl) ?_
        refine TA_tw 12 [] (dn 47 8191) rfl rfl (V_load rfl (.r 3) rfl isAgg23) ?_
        refine TA_all (rs:=[13]) (by kernel_rfl) rfl ?_
        refine ⟨?_,trivial⟩
        refine TO_eW (is:=[]) (done':=dn 47 16383) rfl rfl rfl rfl rfl rfl rfl (by kernel_rfl) (E_c0 (F73_calls Ac_Chain cc_Chain c_Chain hcc_Chain r_3 hr_3) call73 ⟨.r 17,trivial⟩) (fun _ _=>rfl) (fun g_3=>?_)
        refine TA_tk 14 [] (dn 47 32767) rfl rfl (V_pick (b:=true) rfl rfl) ?_
        refine TA_tk 15 [] (dn 47 65535) rfl rfl (V_move rfl) ?_
        refine TA_re (d:=49) (v:=vb r_3) (v':=vb true) rfl (congrArg vb hg3_16) ?_
        refine TA_tw 16 [] (dn 47 131071) rfl rfl (V_move rfl) ?_
        refine TA_tk 17 [] (dn 47 262143) rfl rfl (V_pick (b:=true) rfl rfl) ?_
        refine TA_tk 18 [] (dn 47 524287) rfl rfl (V_move rfl) ?_
        refine TA_re (d:=52) (v:=vb j1) (v':=vb true) rfl (congrArg vb hg3_19) ?_
        refine TA_tw 19 [] (dn 47 1048575) rfl rfl (V_move rfl) ?_
        refine TA_tw 20 [] (dn 47 2097151) rfl rfl (V_nilCheck rfl) ?_
        refine TA_tw 21 [] (dn 47 4194303) rfl rfl (V_fieldE rfl underlying26 rfl rfl inf3 rfl (v:=ptr (some (bc,obc+7)) 0) rfl) ?_
        refine TA_tw 22 [] (dn 47 8388607) rfl rfl (V_load rfl (.r 7) rfl isAgg3) ?_
        refine TA_all (rs:=[23]) (by kernel_rfl) rfl ?_
        refine ⟨?_,trivial⟩
        refine TO_eW (is:=[]) (done':=dn 47 16777215) rfl rfl rfl rfl rfl rfl rfl (by kernel_rfl) (E_c0 (F46_calls c_Tickets 0 8 r_4 hr_4) call46 .z) (fun _ _=>rfl) (fun g_4=>?_)
        refine TA_tk 24 [] (dn 47 33554431) rfl rfl (V_pick (b:=true) rfl rfl) ?_
        refine TA_tk 25 [] (dn 47 67108863) rfl rfl (V_move rfl) ?_
        refine TA_re (d:=59) (v:=vb r_4) (v':=vb true) rfl (congrArg vb hg3_26) ?_
        refine TA_tw 26 [] (dn 47 134217727) rfl rfl (V_move rfl) ?_
        refine TA_tw 27 [] (dn 47 268435455) rfl rfl (V_nilCheck rfl) ?_
        refine TA_tw 28 [] (dn 47 536870911) rfl rfl (V_fieldE rfl underlying26 rfl rfl inf23 rfl (v:=ptr (some (bc,obc+5)) 0) rfl) ?_
        refine TA_tw 29 [] (dn 47 1073741823) rfl rfl (V_load rfl (.r 5) rfl isAgg23) ?_
        refine TA_tw 30 [] (dn 47 2147483647) rfl rfl (V_len_slice rfl underlying23) ?_
        refine TA_tw 31 [] (dn 47 4294967295) rfl rfl (V_move rfl) ?_
        refine TA_tw 32 [] (dn 47 8589934591) rfl rfl (V_nilCheck rfl) ?_
        refine TA_tw 33 [] (dn 47 17179869183) rfl rfl (V_fieldE rfl underlying26 rfl rfl inf24 rfl (v:=ptr (some (bc,obc+9)) 0) rfl) ?_
        refine TA_tw 34 [] (dn 47 34359738367) rfl rfl (V_load rfl (.r 9) rfl isAgg24) ?_
        refine TA_tw 35 [] (dn 47 68719476735) rfl rfl (V_len_slice rfl underlying24) ?_
        refine TA_tw 36 [] (dn 47 137438953471) rfl rfl (V_bin rfl rfl (fun w=>addI w ((c_Roots).length:Int) ((c_Psk).length:Int))) ?_
        refine TA_tw 37 [] (dn 47 274877906943) rfl rfl (V_bin rfl rfl (fun w=>eqlI w (w64 (((c_Roots).length:Int)+((c_Psk).length:Int))) 0)) ?_
        refine TA_tk 38 [] (dn 47 549755813887) rfl rfl (V_pick (b:=true) rfl rfl) ?_
        refine TA_tk 39 [] (dn 47 1099511627775) rfl rfl (V_move rfl) ?_
        refine TA_re (d:=73) (v:=vb (decide ((w64 (((c_Roots).length:Int)+((c_Psk).length:Int)))=0))) (v':=vb false) rfl (congrArg vb hg3_40) ?_
        refine TA_ts 40 [] (dn 47 2199023255551) rfl rfl ?_
        refine TA_ts 41 [] (dn 47 4398046511103) rfl rfl ?_
        refine TA_ts 42 [] (dn 47 8796093022207) rfl rfl ?_
        refine TA_ts 43 [] (dn 47 17592186044415) rfl rfl ?_
        refine TA_ts 44 [] (dn 47 35184372088831) rfl rfl ?_
        refine TA_tk 45 [] (dn 47 70368744177663) rfl rfl (V_pick (b:=false) rfl rfl) ?_
        refine TA_tk 46 [] (dn 47 140737488355327) rfl rfl (V_assign rfl) ?_
        refine TA_done (by kernel_rfl) ?_ 0
        refine TX_next (TC.sub (m':=[(2,_)]) ⟨rfl,trivial⟩ ?_)
        refine TC.pull (is:=[]) (L':=[]) rfl ?_
        refine TC_ret ?_
        obtain rfl:=sj H
        exact TX1
      ·replace H:=ite_f (Bool.eq_false_iff.1 hg3_26) H
       refine TA_begin [] 47 (by kernel_rfl) (N:=47) rfl ?_
       refine TA_tk 0 [] (dn 47 1) rfl rfl (V_move rfl) ?_
       refine TA_tk 1 [] (dn 47 3) rfl rfl (V_move rfl) ?_
       refine TA_re (d:=35) (v:=vb r_1.2) (v':=vb true) rfl (congrArg vb hg3_2) ?_
       refine TA_tw 2 [] (dn 47 7) rfl rfl (V_move rfl) ?_
       refine TA_tw 3 [] (dn 47 15) rfl rfl (V_nilCheck rfl) ?_
       refine TA_tw 4 [] (dn 47 31) rfl rfl (V_fieldE rfl underlying26 rfl rfl inf23 rfl (v:=ptr (some (bc,obc+3)) 0) rfl) ?_
       refine TA_tw 5 [] (dn 47 63) rfl rfl (V_load rfl (.r 3) rfl isAgg23) ?_
       refine TA_all (rs:=[6]) (by kernel_rfl) rfl ?_
       refine ⟨?_,trivial⟩
       refine TO_eW (is:=[]) (done':=dn 47 127) rfl rfl rfl rfl rfl rfl rfl (by kernel_rfl) (E_c0 (F72_calls Ac_Chain cc_Chain c_Chain 1 hcc_Chain r_2 hr_2) call72 ⟨.r 17,trivial⟩) (fun _ _=>rfl) (fun g_2=>?_)
       refine TA_tk 7 [] (dn 47 255) rfl rfl (V_pick (b:=true) rfl rfl) ?_
       refine TA_tk 8 [] (dn 47 511) rfl rfl (V_move rfl) ?_
       refine TA_re (d:=42) (v:=vb r_2) (v':=vb true) rfl (congrArg vb hg3_9) ?_
       refine TA_tw 9 [] (dn 47 1023) rfl rfl (V_move rfl) ?_
       refine TA_tw 10 [] (dn 47 2047) rfl rfl (V_nilCheck rfl) ?_
       refine TA_tw 11 [] (dn 47 4095) rfl rfl (V_fieldE rfl underlying26 rfl rfl inf23 rfl (v:=ptr (some (bc,obc+3)) 0) rfl) ?_
       refine TA_tw 12 [] (dn 47 8191) rfl rfl (V_load rfl (.r 3) rfl isAgg23) ?_
       refine TA_all (rs:=[13]) (by kernel_rfl) rfl ?_
       refine ⟨?_,trivial⟩
       refine TO_eW (is:=[]) (done':=dn 47 16383) rfl rfl rfl rfl rfl rfl rfl (by kernel_rfl) (E_c0 (F73_calls Ac_Chain cc_Chain c_Chain hcc_Chain r_3 hr_3) call73 ⟨.r 17,trivial⟩) (fun _ _=>rfl) (fun g_3=>?_)
       refine TA_tk 14 [] (dn 47 32767) rfl rfl (V_pick (b:=true) rfl rfl) ?_
       refine TA_tk 15 [] (dn 47 65535) rfl rfl (V_move rfl) ?_
       refine TA_re (d:=49) (v:=vb r_3) (v':=vb true) rfl (congrArg vb hg3_16) ?_
       refine TA_tw 16 [] (dn 47 131071) rfl rfl (V_move rfl) ?_
       refine TA_tk 17 [] (dn 47 262143) rfl rfl (V_pick (b:=true) rfl rfl) ?_
       refine TA_tk 18 [] (dn 47 524287) rfl rfl (V_move rfl) ?_
       refine TA_re (d:=52) (v:=vb j1) (v':=vb true) rfl (congrArg vb hg3_19) ?_
       refine TA_tw 19 [] (dn 47 1048575) rfl rfl (V_move rfl) ?_
       refine TA_tw 20 [] (dn 47 2097151) rfl rfl (V_nilCheck rfl) ?_
       refine TA_tw 21 [] (dn 47 4194303) rfl rfl (V_fieldE rfl underlying26 rfl rfl inf3 rfl (v:=ptr (some (bc,obc+7)) 0) rfl) ?_
       refine TA_tw 22 [] (dn 47 8388607) rfl rfl (V_load rfl (.r 7) rfl isAgg3) ?_
       refine TA_all (rs:=[23]) (by kernel_rfl) rfl ?_
       refine ⟨?_,trivial⟩
       refine TO_eW (is:=[]) (done':=dn 47 16777215) rfl rfl rfl rfl rfl rfl rfl (by kernel_rfl) (E_c0 (F46_calls c_Tickets 0 8 r_4 hr_4) call46 .z) (fun _ _=>rfl) (fun g_4=>?_)
       refine TA_tk 24 [] (dn 47 33554431) rfl rfl (V_pick (b:=true) rfl rfl) ?_
       refine TA_tk 25 [] (dn 47 67108863) rfl rfl (V_move rfl) ?_
       refine TA_re (d:=59) (v:=vb r_4) (v':=vb false) rfl (congrArg vb hg3_26) ?_
       refine TA_ts 26 [] (dn 47 134217727) rfl rfl ?_
       refine TA_ts 27 [] (dn 47 268435455) rfl rfl ?_
       refine TA_ts 28 [] (dn 47 536870911) rfl rfl ?_
       refine TA_ts 29 [] (dn 47 1073741823) rfl rfl ?_
       refine TA_ts 30 [] (dn 47 2147483647) rfl rfl ?_
       refine TA_ts 31 [] (dn 47 4294967295) rfl rfl ?_
       refine TA_ts 32 [] (dn 47 8589934591) rfl rfl ?_
       refine TA_ts 33 [] (dn 47 17179869183) rfl rfl ?_
       refine TA_ts 34 [] (dn 47 34359738367) rfl rfl ?_
       refine TA_ts 35 [] (dn 47 68719476735) rfl rfl ?_
       refine TA_ts 36 [] (dn 47 137438953471) rfl rfl ?_
       refine TA_ts 37 [] (dn 47 274877906943) rfl rfl ?_
       refine TA_tk 38 [] (dn 47 549755813887) rfl rfl (V_pick (b:=false) rfl rfl) ?_
       refine TA_tk 39 [] (dn 47 1099511627775) rfl rfl (V_move rfl) ?_
       refine TA_ts 40 [] (dn 47 2199023255551) rfl rfl ?_
       refine TA_ts 41 [] (dn 47 4398046511103) rfl rfl ?_
       refine TA_ts 42 [] (dn 47 8796093022207) rfl rfl ?_
       refine TA_ts 43 [] (dn 47 17592186044415) rfl rfl ?_
       refine TA_ts 44 [] (dn 47 35184372088831) rfl rfl ?_
       refine TA_tk 45 [] (dn 47 70368744177663) rfl rfl (V_pick (b:=false) rfl rfl) ?_
       refine TA_tk 46 [] (dn 47 140737488355327) rfl rfl (V_assign rfl) ?_
       refine TA_done (by kernel_rfl) ?_ 0
       refine TX_next (TC.sub (m':=[(2,_)]) ⟨rfl,trivial⟩ ?_)
       refine TC.pull (is:=[]) (L':=[]) rfl ?_
       refine TC_ret ?_
       obtain rfl:=sj H
       exact TX1
     ·replace H:=ite_f (Bool.eq_false_iff.1 hg3_19) H
      refine TA_begin [] 47 (by kernel_rfl) (N:=47) rfl ?_
      refine TA_tk 0 [] (dn 47 1) rfl rfl (V_move rfl) ?_
      refine TA_tk 1 [] (dn 47 3) rfl rfl (V_move rfl) ?_
      refine TA_re (d:=35) (v:=vb r_1.2) (v':=vb true) rfl (congrArg vb hg3_2) ?_
      refine TA_tw 2 [] (dn 47 7) rfl rfl (V_move rfl) ?_
      refine TA_tw 3 [] (dn 47 15) rfl rfl (V_nilCheck rfl) ?_
      refine TA_tw 4 [] (dn 47 31) rfl rfl (V_fieldE rfl underlying26 rfl rfl inf23 rfl (v:=ptr (some (bc,obc+3)) 0) rfl) ?_
      refine TA_tw 5 [] (dn 47 63) rfl rfl (V_load rfl (.r 3) rfl isAgg23) ?_
      refine TA_all (rs:=[6]) (by kernel_rfl) rfl ?_
      refine ⟨?_,trivial⟩
      refine TO_eW (is:=[]) (done':=dn 47 127) rfl rfl rfl rfl rfl rfl rfl (by kernel_rfl) (E_c0 (F72_calls Ac_Chain cc_Chain c_Chain 1 hcc_Chain r_2 hr_2) call72 ⟨.r 17,trivial⟩) (fun _ _=>rfl) (fun g_2=>?_)
      refine TA_tk 7 [] (dn 47 255) rfl rfl (V_pick (b:=true) rfl rfl) ?_
      refine TA_tk 8 [] (dn 47 511) rfl rfl (V_move rfl) ?_
      refine TA_re (d:=42) (v:=vb r_2) (v':=vb true) rfl (congrArg vb hg3_9) ?_
      refine TA_tw 9 [] (dn 47 1023) rfl rfl (V_move rfl) ?_
      refine TA_tw 10 [] (dn 47 2047) rfl rfl (V_nilCheck rfl) ?_
      refine TA_tw 11 [] (dn 47 4095) rfl rfl (V_fieldE rfl underlying26 rfl rfl inf23 rfl (v:=ptr (some (bc,obc+3)) 0) rfl) ?_
      refine TA_tw 12 [] (dn 47 8191) rfl rfl (V_load rfl (.r 3) rfl isAgg23) ?_
      refine TA_all (rs:=[13]) (by kernel_rfl) rfl ?_
      refine ⟨?_,trivial⟩
      refine TO_eW (is:=[]) (done':=dn 47 16383) rfl rfl rfl rfl rfl rfl rfl (by kernel_rfl) (E_c0 (F73_calls Ac_Chain cc_Chain c_Chain hcc_Chain r_3 hr_3) call73 ⟨.r 17,trivial⟩) (fun _ _=>rfl) (fun g_3=>?_)
      refine TA_tk 14 [] (dn 47 32767) rfl rfl (V_pick (b:=true) rfl rfl) ?_
      refine TA_tk 15 [] (dn 47 65535) rfl rfl (V_move rfl) ?_
      refine TA_re (d:=49) (v:=vb r_3) (v':=vb true) rfl (congrArg vb hg3_16) ?_
      refine TA_tw 16 [] (dn 47 131071) rfl rfl (V_move rfl) ?_
      refine TA_tk 17 [] (dn 47 262143) rfl rfl (V_pick (b:=true) rfl rfl) ?_
      refine TA_tk 18 [] (dn 47 524287) rfl rfl (V_move rfl) ?_
      refine TA_re (d:=52) (v:=vb j1) (v':=vb false) rfl (congrArg vb hg3_19) ?_
      refine TA_ts 19 [] (dn 47 1048575) rfl rfl ?_
      refine TA_ts 20 [] (dn 47 2097151) rfl rfl ?_
      refine TA_ts 21 [] (dn 47 4194303) rfl rfl ?_
      refine TA_ts 22 [] (dn 47 8388607) rfl rfl ?_
      refine TA_ts 23 [] (dn 47 16777215) rfl rfl ?_
      refine TA_tk 24 [] (dn 47 33554431) rfl rfl (V_pick (b:=false) rfl rfl) ?_
      refine TA_tk 25 [] (dn 47 67108863) rfl rfl (V_move rfl) ?_
      refine TA_ts 26 [] (dn 47 134217727) rfl rfl ?_
      refine TA_ts 27 [] (dn 47 268435455) rfl rfl ?_
      refine TA_ts 28 [] (dn 47 536870911) rfl rfl ?_
      refine TA_ts 29 [] (dn 47 1073741823) rfl rfl ?_
      refine TA_ts 30 [] (dn 47 2147483647) rfl rfl ?_
      refine TA_ts 31 [] (dn 47 4294967295) rfl rfl ?_
      refine TA_ts 32 [] (dn 47 8589934591) rfl rfl ?_
      refine TA_ts 33 [] (dn 47 17179869183) rfl rfl ?_
      refine TA_ts 34 [] (dn 47 34359738367) rfl rfl ?_
      refine TA_ts 35 [] (dn 47 68719476735) rfl rfl ?_
      refine TA_ts 36 [] (dn 47 137438953471) rfl rfl ?_
      refine TA_ts 37 [] (dn 47 274877906943) rfl rfl ?_
      refine TA_tk 38 [] (dn 47 549755813887) rfl rfl (V_pick (b:=false) rfl rfl) ?_
      refine TA_tk 39 [] (dn 47 1099511627775) rfl rfl (V_move rfl) ?_
      refine TA_ts 40 [] (dn 47 2199023255551) rfl rfl ?_
      refine TA_ts 41 [] (dn 47 4398046511103) rfl rfl ?_
      refine TA_ts 42 [] (dn 47 8796093022207) rfl rfl ?_
      refine TA_ts 43 [] (dn 47 17592186044415) rfl rfl ?_
      refine TA_ts 44 [] (dn 47 35184372088831) rfl rfl ?_
      refine TA_tk 45 [] (dn 47 70368744177663) rfl rfl (V_pick (b:=false) rfl rfl) ?_
      refine TA_tk 46 [] (dn 47 140737488355327) rfl rfl (V_assign rfl) ?_
      refine TA_done (by kernel_rfl) ?_ 0
      refine TX_next (TC.sub (m':=[(2,_)]) ⟨rfl,trivial⟩ ?_)
      refine TC.pull (is:=[]) (L':=[]) rfl ?_
      refine TC_ret ?_
      obtain rfl:=sj H
      exact TX1
    ·replace H:=ite_f (Bool.eq_false_iff.1 hg3_16) H
     refine TA_begin [] 47 (by kernel_rfl) (N:=47) rfl ?_
     refine TA_tk 0 [] (dn 47 1) rfl rfl (V_move rfl) ?_
     refine TA_tk 1 [] (dn 47 3) rfl rfl (V_move rfl) ?_
     refine TA_re (d:=35) (v:=vb r_1.2) (v':=vb true) rfl (congrArg vb hg3_2) ?_
     refine TA_tw 2 [] (dn 47 7) rfl rfl (V_move rfl) ?_
     refine TA_tw 3 [] (dn 47 15) rfl rfl (V_nilCheck rfl) ?_
     refine TA_tw 4 [] (dn 47 31) rfl rfl (V_fieldE rfl underlying26 rfl rfl inf23 rfl (v:=ptr (some (bc,obc+3)) 0) rfl) ?_
     refine TA_tw 5 [] (dn 47 63) rfl rfl (V_load rfl (.r 3) rfl isAgg23) ?_
     refine TA_all (rs:=[6]) (by kernel_rfl) rfl ?_
     refine ⟨?_,trivial⟩
     refine TO_eW (is:=[]) (done':=dn 47 127) rfl rfl rfl rfl rfl rfl rfl (by kernel_rfl) (E_c0 (F72_calls Ac_Chain cc_Chain c_Chain 1 hcc_Chain r_2 hr_2) call72 ⟨.r 17,trivial⟩) (fun _ _=>rfl) (fun g_2=>?_)
     refine TA_tk 7 [] (dn 47 255) rfl rfl (V_pick (b:=true) rfl rfl) ?_
     refine TA_tk 8 [] (dn 47 511) rfl rfl (V_move rfl) ?_
     refine TA_re (d:=42) (v:=vb r_2) (v':=vb true) rfl (congrArg vb hg3_9) ?_
     refine TA_tw 9 [] (dn 47 1023) rfl rfl (V_move rfl) ?_
     refine TA_tw 10 [] (dn 47 2047) rfl rfl (V_nilCheck rfl) ?_
     refine TA_tw 11 [] (dn 47 4095) rfl rfl (V_fieldE rfl underlying26 rfl rfl inf23 rfl (v:=ptr (some (bc,obc+3)) 0) rfl) ?_
     refine TA_tw 12 [] (dn 47 8191) rfl rfl (V_load rfl (.r 3) rfl isAgg23) ?_
     refine TA_all (rs:=[13]) (by kernel_rfl) rfl ?_
     refine ⟨?_,trivial⟩
     refine TO_eW (is:=[]) (done':=dn 47 16383) rfl rfl rfl rfl rfl rfl rfl (by kernel_rfl) (E_c0 (F73_calls Ac_Chain cc_Chain c_Chain hcc_Chain r_3 hr_3) call73 ⟨.r 17,trivial⟩) (fun _ _=>rfl) (fun g_3=>?_)
     refine TA_tk 14 [] (dn 47 32767) rfl rfl (V_pick (b:=true) rfl rfl) ?_
     refine TA_tk 15 [] (dn 47 65535) rfl rfl (V_move rfl) ?_
     refine TA_re (d:=49) (v:=vb r_3) (v':=vb false) rfl (congrArg vb hg3_16) ?_
     refine TA_ts 16 [] (dn 47 131071) rfl rfl ?_
     refine TA_tk 17 [] (dn 47 262143) rfl rfl (V_pick (b:=false) rfl rfl) ?_
     refine TA_tk 18 [] (dn 47 524287) rfl rfl (V_move rfl) ?_
     refine TA_ts 19 [] (dn 47 1048575) rfl rfl ?_
     refine TA_ts 20 [] (dn 47 2097151) rfl rfl ?_
     refine TA_ts 21 [] (dn 47 4194303) rfl rfl ?_
     refine TA_ts 22 [] (dn 47 8388607) rfl rfl ?_
     refine TA_ts 23 [] (dn 47 16777215) rfl rfl ?_
     refine TA_tk 24 [] (dn 47 33554431) rfl rfl (V_pick (b:=false) rfl rfl) ?_
     refine TA_tk 25 [] (dn 47 67108863) rfl rfl (V_move rfl) ?_
     refine TA_ts 26 [] (dn 47 134217727) rfl rfl ?_
     refine TA_ts 27 [] (dn 47 268435455) rfl rfl ?_
     refine TA_ts 28 [] (dn 47 536870911) rfl rfl ?_
     refine TA_ts 29 [] (dn 47 1073741823) rfl rfl ?_
     refine TA_ts 30 [] (dn 47 2147483647) rfl rfl ?_
     refine TA_ts 31 [] (dn 47 4294967295) rfl rfl ?_
     refine TA_ts 32 [] (dn 47 8589934591) rfl rfl ?_
     refine TA_ts 33 [] (dn 47 17179869183) rfl rfl ?_
     refine TA_ts 34 [] (dn 47 34359738367) rfl rfl ?_
     refine TA_ts 35 [] (dn 47 68719476735) rfl rfl ?_
     refine TA_ts 36 [] (dn 47 137438953471) rfl rfl ?_
     refine TA_ts 37 [] (dn 47 274877906943) rfl rfl ?_
     refine TA_tk 38 [] (dn 47 549755813887) rfl rfl (V_pick (b:=false) rfl rfl) ?_
     refine TA_tk 39 [] (dn 47 1099511627775) rfl rfl (V_move rfl) ?_
     refine TA_ts 40 [] (dn 47 2199023255551) rfl rfl ?_
     refine TA_ts 41 [] (dn 47 4398046511103) rfl rfl ?_
     refine TA_ts 42 [] (dn 47 8796093022207) rfl rfl ?_
     refine TA_ts 43 [] (dn 47 17592186044415) rfl rfl ?_
     refine TA_ts 44 [] (dn 47 35184372088831) rfl rfl ?_
     refine TA_tk 45 [] (dn 47 70368744177663) rfl rfl (V_pick (b:=false) rfl rfl) ?_
     refine TA_tk 46 [] (dn 47 140737488355327) rfl rfl (V_assign rfl) ?_
     refine TA_done (by kernel_rfl) ?_ 0
     refine TX_next (TC.sub (m':=[(2,_)]) ⟨rfl,trivial⟩ ?_)
     refine TC.pull (is:=[]) (L':=[]) rfl ?_
     refine TC_ret ?_
     obtain rfl:=sj H
     exact TX1
   ·replace H:=ite_f (Bool.eq_false_iff.1 hg3_9) H
    refine TA_begin [] 47 (by kernel_rfl) (N:=47) rfl ?_
    refine TA_tk 0 [] (dn 47 1) rfl rfl (V_move rfl) ?_
    refine TA_tk 1 [] (dn 47 3) rfl rfl (V_move rfl) ?_
    refine TA_re (d:=35) (v:=vb r_1.2) (v':=vb true) rfl (congrArg vb hg3_2) ?_
    refine TA_tw 2 [] (dn 47 7) rfl rfl (V_move rfl) ?_
    refine TA_tw 3 [] (dn 47 15) rfl rfl (V_nilCheck rfl) ?_
    refine TA_tw 4 [] (dn 47 31) rfl rfl (V_fieldE rfl underlying26 rfl rfl inf23 rfl (v:=ptr (some (bc,obc+3)) 0) rfl) ?_
    refine TA_tw 5 [] (dn 47 63) rfl rfl (V_load rfl (.r 3) rfl isAgg23) ?_
    refine TA_all (rs:=[6]) (by kernel_rfl) rfl ?_
    refine ⟨?_,trivial⟩
    refine TO_eW (is:=[]) (done':=dn 47 127) rfl rfl rfl rfl rfl rfl rfl (by kernel_rfl) (E_c0 (F72_calls Ac_Chain cc_Chain c_Chain 1 hcc_Chain r_2 hr_2) call72 ⟨.r 17,trivial⟩) (fun _ _=>rfl) (fun g_2=>?_)
    refine TA_tk 7 [] (dn 47 255) rfl rfl (V_pick (b:=true) rfl rfl) ?_
    refine TA_tk 8 [] (dn 47 511) rfl rfl (V_move rfl) ?_
    refine TA_re (d:=42) (v:=vb r_2) (v':=vb false) rfl (congrArg vb hg3_9) ?_
    refine TA_ts 9 [] (dn 47 1023) rfl rfl ?_
    refine TA_ts 10 [] (dn 47 2047) rfl rfl ?_
    refine TA_ts 11 [] (dn 47 4095) rfl rfl ?_
    refine TA_ts 12 [] (dn 47 8191) rfl rfl ?_
    refine TA_ts 13 [] (dn 47 16383) rfl rfl ?_
    refine TA_tk 14 [] (dn 47 32767) rfl rfl (V_pick (b:=false) rfl rfl) ?_
    refine TA_tk 15 [] (dn 47 65535) rfl rfl (V_move rfl) ?_
    refine TA_ts 16 [] (dn 47 131071) rfl rfl ?_
    refine TA_tk 17 [] (dn 47 262143) rfl rfl (V_pick (b:=false) rfl rfl) ?_
    refine TA_tk 18 [] (dn 47 524287) rfl rfl (V_move rfl) ?_
    refine TA_ts 19 [] (dn 47 1048575) rfl rfl ?_
    refine TA_ts 20 [] (dn 47 2097151) rfl rfl ?_
    refine TA_ts 21 [] (dn 47 4194303) rfl rfl ?_
    refine TA_ts 22 [] (dn 47 8388607) rfl rfl ?_
    refine TA_ts 23 [] (dn 47 16777215) rfl rfl ?_
    refine TA_tk 24 [] (dn 47 33554431) rfl rfl (V_pick (b:=false) rfl rfl) ?_
    refine TA_tk 25 [] (dn 47 67108863) rfl rfl (V_move rfl) ?_
    refine TA_ts 26 [] (dn 47 134217727) rfl rfl ?_
    refine TA_ts 27 [] (dn 47 268435455) rfl rfl ?_
    refine TA_ts 28 [] (dn 47 536870911) rfl rfl ?_
    refine TA_ts 29 [] (dn 47 1073741823) rfl rfl ?_
    refine TA_ts 30 [] (dn 47 2147483647) rfl rfl ?_
    refine TA_ts 31 [] (dn 47 4294967295) rfl rfl ?_
    refine TA_ts 32 [] (dn 47 8589934591) rfl rfl ?_
    refine TA_ts 33 [] (dn 47 17179869183) rfl rfl ?_
    refine TA_ts 34 [] (dn 47 34359738367) rfl rfl ?_
    refine TA_ts 35 [] (dn 47 68719476735) rfl rfl ?_
    refine TA_ts 36 [] (dn 47 137438953471) rfl rfl ?_
    refine TA_ts 37 [] (dn 47 274877906943) rfl rfl ?_
    refine TA_tk 38 [] (dn 47 549755813887) rfl rfl (V_pick (b:=false) rfl rfl) ?_
    refine TA_tk 39 [] (dn 47 1099511627775) rfl rfl (V_move rfl) ?_
    refine TA_ts 40 [] (dn 47 2199023255551) rfl rfl ?_
    refine TA_ts 41 [] (dn 47 4398046511103) rfl rfl ?_
    refine TA_ts 42 [] (dn 47 8796093022207) rfl rfl ?_
    refine TA_ts 43 [] (dn 47 17592186044415) rfl rfl ?_
    refine TA_ts 44 [] (dn 47 35184372088831) rfl rfl ?_
    refine TA_tk 45 [] (dn 47 70368744177663) rfl rfl (V_pick (b:=false) rfl rfl) ?_
    refine TA_tk 46 [] (dn 47 140737488355327) rfl rfl (V_assign rfl) ?_
    refine TA_done (by kernel_rfl) ?_ 0
    refine TX_next (TC.sub (m':=[(2,_)]) ⟨rfl,trivial⟩ ?_)
    refine TC.pull (is:=[]) (L':=[]) rfl ?_
    refine TC_ret ?_
    obtain rfl:=sj H
    exact TX1
  ·replace H:=ite_f (Bool.eq_false_iff.1 hg3_2) H
   refine TA_begin [] 47 (by kernel_rfl) (N:=47) rfl ?_
   refine TA_tk 0 [] (dn 47 1) rfl rfl (V_move rfl) ?_
   refine TA_tk 1 [] (dn 47 3) rfl rfl (V_move rfl) ?_
   refine TA_re (d:=35) (v:=vb r_1.2) (v':=vb false) rfl (congrArg vb hg3_2) ?_
   refine TA_ts 2 [] (dn 47 7) rfl rfl ?_
   refine TA_ts 3 [] (dn 47 15) rfl rfl ?_
   refine TA_ts 4 [] (dn 47 31) rfl rfl ?_
   refine TA_ts 5 [] (dn 47 63) rfl rfl ?_
   refine TA_ts 6 [] (dn 47 127) rfl rfl ?_
   refine TA_tk 7 [] (dn 47 255) rfl rfl (V_pick (b:=false) rfl rfl) ?_
   refine TA_tk 8 [] (dn 47 511) rfl rfl (V_move rfl) ?_
   refine TA_ts 9 [] (dn 47 1023) rfl rfl ?_
   refine TA_ts 10 [] (dn 47 2047) rfl rfl ?_
   refine TA_ts 11 [] (dn 47 4095) rfl rfl ?_
   refine TA_ts 12 [] (dn 47 8191) rfl rfl ?_
   refine TA_ts 13 [] (dn 47 16383) rfl rfl ?_
   refine TA_tk 14 [] (dn 47 32767) rfl rfl (V_pick (b:=false) rfl rfl) ?_
   refine TA_tk 15 [] (dn 47 65535) rfl rfl (V_move rfl) ?_
   refine TA_ts 16 [] (dn 47 131071) rfl rfl ?_
   refine TA_tk 17 [] (dn 47 262143) rfl rfl (V_pick (b:=false) rfl rfl) ?_
   refine TA_tk 18 [] (dn 47 524287) rfl rfl (V_move rfl) ?_
   refine TA_ts 19 [] (dn 47 1048575) rfl rfl ?_
   refine TA_ts 20 [] (dn 47 2097151) rfl rfl ?_
   refine TA_ts 21 [] (dn 47 4194303) rfl rfl ?_
   refine TA_ts 22 [] (dn 47 8388607) rfl rfl ?_
   refine TA_ts 23 [] (dn 47 16777215) rfl rfl ?_
   refine TA_tk 24 [] (dn 47 33554431) rfl rfl (V_pick (b:=false) rfl rfl) ?_
   refine TA_tk 25 [] (dn 47 67108863) rfl rfl (V_move rfl) ?_
   refine TA_ts 26 [] (dn 47 134217727) rfl rfl ?_
   refine TA_ts 27 [] (dn 47 268435455) rfl rfl ?_
   refine TA_ts 28 [] (dn 47 536870911) rfl rfl ?_
   refine TA_ts 29 [] (dn 47 1073741823) rfl rfl ?_
   refine TA_ts 30 [] (dn 47 2147483647) rfl rfl ?_
   refine TA_ts 31 [] (dn 47 4294967295) rfl rfl ?_
   refine TA_ts 32 [] (dn 47 8589934591) rfl rfl ?_
   refine TA_ts 33 [] (dn 47 17179869183) rfl rfl ?_
   refine TA_ts 34 [] (dn 47 34359738367) rfl rfl ?_
   refine TA_ts 35 [] (dn 47 68719476735) rfl rfl ?_
   refine TA_ts 36 [] (dn 47 137438953471) rfl rfl ?_
   refine TA_ts 37 [] (dn 47 274877906943) rfl rfl ?_
   refine TA_tk 38 [] (dn 47 549755813887) rfl rfl (V_pick (b:=false) rfl rfl) ?_
   refine TA_tk 39 [] (dn 47 1099511627775) rfl rfl (V_move rfl) ?_
   refine TA_ts 40 [] (dn 47 2199023255551) rfl rfl ?_
   refine TA_ts 41 [] (dn 47 4398046511103) rfl rfl ?_
   refine TA_ts 42 [] (dn 47 8796093022207) rfl rfl ?_
   refine TA_ts 43 [] (dn 47 17592186044415) rfl rfl ?_
   refine TA_ts 44 [] (dn 47 35184372088831) rfl rfl ?_
   refine TA_tk 45 [] (dn 47 70368744177663) rfl rfl (V_pick (b:=false) rfl rfl) ?_
   refine TA_tk 46 [] (dn 47 140737488355327) rfl rfl (V_assign rfl) ?_
   refine TA_done (by kernel_rfl) ?_ 0
   refine TX_next (TC.sub (m':=[(2,_)]) ⟨rfl,trivial⟩ ?_)
   refine TC.pull (is:=[]) (L':=[]) rfl ?_
   refine TC_ret ?_
   obtain rfl:=sj H
   exact TX1
 ·intro hJ
  replace H:=Hj
  refine TFd (d:=20) H (fun hc H=>?_) (fun hc H=>?_)
  ·refine TLs ?_
   refine TLs ?_
   refine TLs ?_
   refine TLs ?_
   refine TLs ?_
   refine TLs ?_
   refine TL_skipU rfl rfl rfl rfl rfl rfl ?_
   refine TL_skipU rfl rfl rfl rfl rfl rfl ?_
   refine TL_skipU rfl rfl rfl rfl rfl rfl ?_
   refine TL_skipU rfl rfl rfl rfl rfl rfl ?_
   refine TL_skipU rfl rfl rfl rfl rfl rfl ?_
   refine TLs ?_
   refine TVt ?_
   refine TVa ?_
   refine TL_nil ?_
   obtain rfl:=sj H
   exact TXj [] (hJ ())
  ·refine TLw (V_move rfl) ?_
   refine TLw (V_nilCheck rfl) ?_
   refine TLw (V_fieldE rfl underlying26 rfl rfl inf9 rfl (v:=ptr (some (bc,obc+8)) 0) rfl) ?_
   refine TLw (V_load rfl (.r 8) rfl isAgg9) ?_
   refine TLw (V_bin rfl rfl (fun w=>eqlS w c_Seal ([]:Str))) ?_
   refine TLw (V_move rfl) ?_
   refine TFd (d:=26) H (fun hc H=>?_) (fun hc H=>?_)
   ·refine TLw (V_move rfl) ?_
    refine TLw (V_nilCheck rfl) ?_
    refine TLw (V_fieldE rfl underlying26 rfl rfl inf3 rfl (v:=ptr (some (bc,obc+7)) 0) rfl) ?_
    refine TLw (V_load rfl (.r 7) rfl isAgg3) ?_
    refine TLw (V_bin rfl rfl (fun w=>eqlI w c_Tickets 0)) ?_
    refine TLw (V_pick (b:=true) rfl rfl) ?_
    refine TVf ?_
    refine TVa ?_
    obtain ⟨sealed1,hsealed1,H⟩:=ltt_elim H
    refine TLr 5 (congrArg vb hsealed1) ?_
    refine TL_nil ?_
    obtain rfl:=sj H
    exact TXj [] (hJ ())
   ·refine TLs ?_
    refine TLs ?_
    refine TLs ?_
    refine TLs ?_
    refine TLs ?_
    refine TLw (V_pick (b:=false) rfl rfl) ?_
    refine TVf ?_
    refine TVa ?_
    refine TL_nil ?_
    obtain rfl:=sj H
    exact TXj [] (hJ ())
end Go.Proofs
end

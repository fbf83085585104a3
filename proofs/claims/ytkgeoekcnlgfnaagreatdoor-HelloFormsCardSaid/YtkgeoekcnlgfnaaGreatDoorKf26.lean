/-
  Part 26 of the proof of what several laws share.
-/
import Derived.Test.YtkgeoekcnlgfnaaGreatDoorKf1
import Derived.Test.YtkgeoekcnlgfnaaGreatDoorKf2
import Derived.Test.YtkgeoekcnlgfnaaGreatDoorKf3
import Derived.Test.YtkgeoekcnlgfnaaGreatDoorKf4
import Derived.Test.YtkgeoekcnlgfnaaGreatDoorKf5
import Derived.Test.YtkgeoekcnlgfnaaGreatDoorKf6
set_option linter.unusedVariables false
set_option linter.unusedSimpArgs false
section
namespace Go.Proofs
open Go Go.Kx
open TryzI Tryz
def hello_Counts (c_Server:Bool) (c_Suites:List (Int)) (c_Groups:List (Int)) (c_Chain:List (Str)) (c_Key:Str) (c_Roots:List (Str)) (c_Name:Str) (c_Tickets:Int) (c_Seal:Str) (c_Psk:List (Str × Str × Int × Int × Int × Int)) (c_Tape:Str) (c_Clock:Int) (c_Pad:Int) (c_Limit:Int) (c_Ring:Int):Option (Str × Str × Int × Int × Int × Int × Bool) :=
 if ((c_Psk).length:Int)=0 then (some (([]:Str),([]:Str),0,0,0,0,false)) else (if 0≤(0:Int)∧(0:Int)<((c_Psk).length:Int) then (if c_Clock<((lg c_Psk 0).2.2.2.2.1) then (some (([]:Str),([]:Str),0,0,0,0,false)) else (if 0≤(0:Int)∧(0:Int)<((c_Psk).length:Int) then (if 0≤(0:Int)∧(0:Int)<((c_Psk).length:Int) then (if ((lg c_Psk 0).2.2.2.2.2)<(w64 (c_Clock - ((lg c_Psk 0).2.2.2.2.1))) then (some (([]:Str),([]:Str),0,0,0,0,false)) else (if 0≤(0:Int)∧(0:Int)<((c_Psk).length:Int) then (some ((lg c_Psk 0).1,(lg c_Psk 0).2.1,(lg c_Psk 0).2.2.1,(lg c_Psk 0).2.2.2.1,(lg c_Psk 0).2.2.2.2.1,(lg c_Psk 0).2.2.2.2.2,true)) else none)) else none) else none)) else none)
set_option maxHeartbeats 4000000 in
set_option maxRecDepth 20000 in
theorem F40_calls (bc:Nat) (obc:Nat) (Ac_Suites:Adr) (cc_Suites:Nat) (Ac_Groups:Adr) (cc_Groups:Nat) (Ac_Chain:Adr) (cc_Chain:Nat) (Ac_Roots:Adr) (cc_Roots:Nat) (Ac_Psk:Adr) (cc_Psk:Nat) (c_Server:Bool) (c_Suites:List (Int)) (c_Groups:List (Int)) (c_Chain:List (Str)) (c_Key:Str) (c_Roots:List (Str)) (c_Name:Str) (c_Tickets:Int) (c_Seal:Str) (c_Psk:List (Str × Str × Int × Int × Int × Int)) (c_Tape:Str) (c_Clock:Int) (c_Pad:Int) (c_Limit:Int) (c_Ring:Int) (hcc_Suites:(c_Suites).length≤cc_Suites) (hcc_Groups:(c_Groups).length≤cc_Groups) (hcc_Chain:(c_Chain).length≤cc_Chain) (hcc_Roots:(c_Roots).length≤cc_Roots) (hcc_Psk:(c_Psk).length≤cc_Psk) (r:Str × Str × Int × Int × Int × Int × Bool) (H:hello_Counts c_Server c_Suites c_Groups c_Chain c_Key c_Roots c_Name c_Tickets c_Seal c_Psk c_Tape c_Clock c_Pad c_Limit c_Ring=some r) :
  Does Tryz.prog 40 [ptr (some (bc,obc)) 0] [] [⟨some (bc,obc),[vb c_Server]⟩,⟨some (bc,obc+1),[sl Ac_Suites ((c_Suites).length) cc_Suites]⟩,⟨some (bc,obc+2),[sl Ac_Groups ((c_Groups).length) cc_Groups]⟩,⟨some (bc,obc+3),[sl Ac_Chain ((c_Chain).length) cc_Chain]⟩,⟨some (bc,obc+4),[vs c_Key]⟩,⟨some (bc,obc+5),[sl Ac_Roots ((c_Roots).length) cc_Roots]⟩,⟨some (bc,obc+6),[vs c_Name]⟩,⟨some (bc,obc+7),[vi c_Tickets]⟩,⟨some (bc,obc+8),[vs c_Seal]⟩,⟨some (bc,obc+9),[sl Ac_Psk ((c_Psk).length) cc_Psk]⟩,⟨some (bc,obc+10),[vs c_Tape]⟩,⟨some (bc,obc+11),[vi c_Clock]⟩,⟨some (bc,obc+12),[vi c_Pad]⟩,⟨some (bc,obc+13),[vi c_Limit]⟩,⟨some (bc,obc+14),[vi c_Ring]⟩,⟨Ac_Suites,eI c_Suites⟩,⟨Ac_Groups,eI c_Groups⟩,⟨Ac_Chain,eS c_Chain⟩,⟨Ac_Roots,eS c_Roots⟩,⟨Ac_Psk,eF (fun p:Str × Str × Int × Int × Int × Int=>[vs p.1,vs p.2.1,vi p.2.2.1,vi p.2.2.2.1,vi p.2.2.2.2.1,vi p.2.2.2.2.2]) c_Psk⟩] (Γ:=Unit) (fun g=>Value.tuple [aG [(1,[vs r.1]),(1,[vs r.2.1]),(1,[vi r.2.2.1]),(1,[vi r.2.2.2.1]),(1,[vi r.2.2.2.2.1]),(1,[vi r.2.2.2.2.2.1])],vb r.2.2.2.2.2.2].toArray) (fun g=>[]):=by
 intro w hmem hro hd
 refine calls_of (N:=53) (m0:=[(0,ptr (some (bc,obc)) 0)]) func40 rfl ntmps40 (argM_ok [ptr (some (bc,obc)) 0]) rfl hmem hro hd ?_
 unfold hello_Counts at H
 refine TC_seq (TC_region (TLe (E_allocP [(1,[vs ([]:Str)]),(1,[vs ([]:Str)]),(1,[vi 0]),(1,[vi 0]),(1,[vi 0]),(1,[vi 0])] inf57 zer57 ⟨rfl,rfl,rfl,rfl,rfl,rfl,trivial⟩) (fun b1=>?_)))
 refine TVa ?_
 refine TL_nil (TX_next (TC_seq (TC_seq (TC_em (decide (((c_Psk).length:Int)=0)) (fun hg1_7=>?_) (fun hg1_7=>?_)))))
 ·replace H:=ite_t (of_decide_eq_true hg1_7) H
  refine TA_begin [⟨some (b1,0),[vs ([]:Str)]⟩,⟨some (b1,1),[vs ([]:Str)]⟩,⟨some (b1,2),[vi 0]⟩,⟨some (b1,3),[vi 0]⟩,⟨some (b1,4),[vi 0]⟩,⟨some (b1,5),[vi 0]⟩] 42 (by kernel_rfl) (N:=42) rfl ?_
  refine TA_tk 0 [0,0,0,0,0,0] (dn 42 1) rfl rfl (V_move rfl) ?_
  refine TA_tk 1 [0,0,0,0,0,0] (dn 42 3) rfl rfl (V_nilCheck rfl) ?_
  refine TA_tk 2 [0,0,0,0,0,0] (dn 42 7) rfl rfl (V_fieldE rfl underlying26 rfl rfl inf24 rfl (v:=ptr (some (bc,obc+9)) 0) rfl) ?_
  refine TA_tk 3 [0,0,0,0,0,0] (dn 42 15) rfl rfl (V_load rfl (.r 9) rfl isAgg24) ?_
  refine TA_tk 4 [0,0,0,0,0,0] (dn 42 31) rfl rfl (V_len_slice rfl underlying24) ?_
  refine TA_tk 5 [0,0,0,0,0,0] (dn 42 63) rfl rfl (V_bin rfl rfl (fun w=>eqlI w ((c_Psk).length:Int) 0)) ?_
  refine TA_tk 6 [0,0,0,0,0,0] (dn 42 127) rfl rfl (V_move rfl) ?_
  refine TA_re (d:=10) (v:=vb (decide (((c_Psk).length:Int)=0))) (v':=vb true) rfl (congrArg vb hg1_7) ?_
  refine TA_ts 7 [0,0,0,0,0,0] (dn 42 255) rfl rfl ?_
  refine TA_ts 8 [0,0,0,0,0,0] (dn 42 511) rfl rfl ?_
  refine TA_ts 9 [0,0,0,0,0,0] (dn 42 1023) rfl rfl ?_
  refine TA_ts 10 [0,0,0,0,0,0] (dn 42 2047) rfl rfl ?_
  refine TA_ts 11 [0,0,0,0,0,0] (dn 42 4095) rfl rfl ?_
  refine TA_ts 12 [0,0,0,0,0,0] (dn 42 8191) rfl rfl ?_
  refine TA_ts 13 [0,0,0,0,0,0] (dn 42 16383) rfl rfl ?_
  refine TA_ts 14 [0,0,0,0,0,0] (dn 42 32767) rfl rfl ?_
  refine TA_ts 15 [0,0,0,0,0,0] (dn 42 65535) rfl rfl ?_
  refine TA_ts 16 [0,0,0,0,0,0] (dn 42 131071) rfl rfl ?_
  refine TA_ts 17 [0,0,0,0,0,0] (dn 42 262143) rfl rfl ?_
  refine TA_ts 18 [0,0,0,0,0,0] (dn 42 524287) rfl rfl ?_
  refine TA_tk 19 [0,0,0,0,0,0] (dn 42 1048575) rfl rfl (V_pick (b:=true) rfl rfl) ?_
  refine TA_tk 20 [0,0,0,0,0,0] (dn 42 2097151) rfl rfl (V_move rfl) ?_
  refine TA_ts 21 [0,0,0,0,0,0] (dn 42 4194303) rfl rfl ?_
  refine TA_ts 22 [0,0,0,0,0,0] (dn 42 8388607) rfl rfl ?_
  refine TA_ts 23 [0,0,0,0,0,0] (dn 42 16777215) rfl rfl ?_
  refine TA_ts 24 [0,0,0,0,0,0] (dn 42 33554431) rfl rfl ?_
  refine TA_ts 25 [0,0,0,0,0,0] (dn 42 67108863) rfl rfl ?_
  refine TA_ts 26 [0,0,0,0,0,0] (dn 42 134217727) rfl rfl ?_
  refine TA_ts 27 [0,0,0,0,0,0] (dn 42 268435455) rfl rfl ?_
  refine TA_ts 28 [0,0,0,0,0,0] (dn 42 536870911) rfl rfl ?_
  refine TA_ts 29 [0,0,0,0,0,0] (dn 42 1073741823) rfl rfl ?_
  refine TA_ts 30 [0,0,0,0,0,0] (dn 42 2147483647) rfl rfl ?_
  refine TA_ts 31 [0,0,0,0,0,0] (dn 42 4294967295) rfl rfl ?_
  refine TA_ts 32 [0,0,0,0,0,0] (dn 42 8589934591) rfl rfl ?_
  refine TA_ts 33 [0,0,0,0,0,0] (dn 42 17179869183) rfl rfl ?_
  refine TA_ts 34 [0,0,0,0,0,0] (dn 42 34359738367) rfl rfl ?_
  refine TA_ts 35 [0,0,0,0,0,0] (dn 42 68719476735) rfl rfl ?_
  refine TA_ts 36 [0,0,0,0,0,0] (dn 42 137438953471) rfl rfl ?_
  refine TA_ts 37 [0,0,0,0,0,0] (dn 42 274877906943) rfl rfl ?_
  refine TA_ts 38 [0,0,0,0,0,0] (dn 42 549755813887) rfl rfl ?_
  refine TA_ts 39 [0,0,0,0,0,0] (dn 42 1099511627775) rfl rfl ?_
  refine TA_ts 40 [0,0,0,0,0,0] (dn 42 2199023255551) rfl rfl ?_
  refine TA_tk 41 [0,0,0,0,0,0] (dn 42 4398046511103) rfl rfl (V_pick (b:=true) rfl rfl) ?_
  refine TA_done (by kernel_rfl) ?_ 0
  refine TX_next (TC.sub (m':=[(0,_),(2,_),(45,_)]) ⟨rfl,rfl,rfl,trivial⟩ ?_)
  refine TC.pull (is:=[0,0,0,0,0,0]) (L':=[_,_,_,_,_,_]) rfl ?_
  refine TC_cond_t rfl ?_
  refine TC_seq (TC_region (TLv (V_buildStruct (pv:=[]) (pl:=[(0,1),(1,1),(2,1),(3,1),(4,1),(5,1)]) rfl rfl underlying57 inf57 places57 zer57 (cs:=flat [(1,[vs ([]:Str)]),(1,[vs ([]:Str)]),(1,[vi 0]),(1,[vi 0]),(1,[vi 0]),(1,[vi 0])]) (by kernel_rfl)) ?_))
  refine TLn (E_sp (b:=b1) (o:=0) [0,0,0,0,0,0] [(1,[vs ([]:Str)]),(1,[vs ([]:Str)]),(1,[vi 0]),(1,[vi 0]),(1,[vi 0]),(1,[vi 0])] [(1,[vs ([]:Str)]),(1,[vs ([]:Str)]),(1,[vi 0]),(1,[vi 0]),(1,[vi 0]),(1,[vi 0])] rfl inf57 ⟨rfl,rfl,rfl,rfl,rfl,rfl,trivial⟩ ⟨rfl,rfl,rfl,rfl,rfl,rfl,trivial⟩ ⟨(OneC.cons rfl OneC.nil),(OneC.cons rfl OneC.nil),(OneC.cons rfl OneC.nil),(OneC.cons rfl OneC.nil),(OneC.cons rfl OneC.nil),(OneC.cons rfl OneC.nil),trivial⟩) (fun _=>?_)
  refine TVa ?_
  refine TL_nil (TX_next (TC_ret (TX_then_ret ?_)))
  obtain rfl:=sj H
  exact TXr (vs:=[_,_]) rfl ⟨(Res_agg (n:=6) (cs:=flat [(1,[vs ([]:Str)]),(1,[vs ([]:Str)]),(1,[vi 0]),(1,[vi 0]),(1,[vi 0]),(1,[vi 0])]) rfl (by simp) (SrcEnts (b:=b1) [(1,[vs ([]:Str)]),(1,[vs ([]:Str)]),(1,[vi 0]),(1,[vi 0]),(1,[vi 0]),(1,[vi 0])] 0 ⟨rfl,rfl,rfl,rfl,rfl,rfl,trivial⟩ (AllSrc.all (M:=ents b1 0 [(1,[vs ([]:Str)]),(1,[vs ([]:Str)]),(1,[vi 0]),(1,[vi 0]),(1,[vi 0]),(1,[vi 0])]) ⟨Src.own (j:=0) rfl,Src.own (j:=1) rfl,Src.own (j:=2) rfl,Src.own (j:=3) rfl,Src.own (j:=4) rfl,Src.own (j:=5) rfl,trivial⟩)) isAgg57 inf57 rfl (by simp [flat])),rfl,trivial⟩
 ·replace H:=ite_f (of_decide_eq_false hg1_7) H
  obtain ⟨h1,H⟩:=if_elim H
  refine TC_em (decide (c_Clock<((lg c_Psk 0).2.2.2.2.1))) (fun hg1_21=>?_) (fun hg1_21=>?_)
  ·replace H:=ite_t (of_decide_eq_true hg1_21) H
   refine TA_begin [⟨some (b1,0),[vs ([]:Str)]⟩,⟨some (b1,1),[vs ([]:Str)]⟩,⟨some (b1,2),[vi 0]⟩,⟨some (b1,3),[vi 0]⟩,⟨some (b1,4),[vi 0]⟩,⟨some (b1,5),[vi 0]⟩] 42 (by kernel_rfl) (N:=42) rfl ?_
   refine TA_tk 0 [0,0,0,0,0,0] (dn 42 1) rfl rfl (V_move rfl) ?_
   refine TA_tk 1 [0,0,0,0,0,0] (dn 42 3) rfl rfl (V_nilCheck rfl) ?_
   refine TA_tk 2 [0,0,0,0,0,0] (dn 42 7) rfl rfl (V_fieldE rfl underlying26 rfl rfl inf24 rfl (v:=ptr (some (bc,obc+9)) 0) rfl) ?_
   refine TA_tk 3 [0,0,0,0,0,0] (dn 42 15) rfl rfl (V_load rfl (.r 9) rfl isAgg24) ?_
   refine TA_tk 4 [0,0,0,0,0,0] (dn 42 31) rfl rfl (V_len_slice rfl underlying24) ?_
   refine TA_tk 5 [0,0,0,0,0,0] (dn 42 63) rfl rfl (V_bin rfl rfl (fun w=>eqlI w ((c_Psk).length:Int) 0)) ?_
   refine TA_tk 6 [0,0,0,0,0,0] (dn 42 127) rfl rfl (V_move rfl) ?_
   refine TA_re (d:=10) (v:=vb (decide (((c_Psk).length:Int)=0))) (v':=vb false) rfl (congrArg vb hg1_7) ?_
   refine TA_tw 7 [0,0,0,0,0,0] (dn 42 255) rfl rfl (V_move rfl) ?_
   refine TA_tw 8 [0,0,0,0,0,0] (dn 42 511) rfl rfl (V_nilCheck rfl) ?_
   refine TA_tw 9 [0,0,0,0,0,0] (dn 42 1023) rfl rfl (V_fieldE rfl underlying26 rfl rfl inf24 rfl (v:=ptr (some (bc,obc+9)) 0) rfl) ?_
   refine TA_tw 10 [0,0,0,0,0,0] (dn 42 2047) rfl rfl (V_load rfl (.r 9) rfl isAgg24) ?_
   refine TA_tw 11 [0,0,0,0,0,0] (dn 42 4095) rfl rfl (V_idxSlS (i:=0) rfl rfl underlying24 inf57 rfl (.r 19) (eF_ne2 (s:=6) (fun _=>rfl) rfl (toNat_lt h1.1 h1.2)) h1.1 h1.2 (k:=0 * 6) rfl) ?_
   refine TA_tw 12 [0,0,0,0,0,0] (dn 42 8191) rfl rfl (V_field rfl underlying57 rfl (k:=4) rfl inf3 rfl) ?_
   refine TA_tw 13 [0,0,0,0,0,0] (dn 42 16383) rfl rfl (V_load rfl (.r 19) ((get_eF (g:=fun p:Str × Str × Int × Int × Int × Int=>[vs p.1,vs p.2.1,vi p.2.2.1,vi p.2.2.2.1,vi p.2.2.2.2.1,vi p.2.2.2.2.2]) (s:=6) (fun _=>rfl) c_Psk 0 4 (toNat_lt h1.1 h1.2) (by decide:4<6)).trans rfl) isAgg3) ?_
   refine TA_tw 14 [0,0,0,0,0,0] (dn 42 32767) rfl rfl (V_move rfl) ?_
   refine TA_tw 15 [0,0,0,0,0,0] (dn 42 65535) rfl rfl (V_nilCheck rfl) ?_
   refine TA_tw 16 [0,0,0,0,0,0] (dn 42 131071) rfl rfl (V_fieldE rfl underlying26 rfl rfl inf3 rfl (v:=ptr (some (bc,obc+11)) 0) rfl) ?_
   refine TA_tw 17 [0,0,0,0,0,0] (dn 42 262143) rfl rfl (V_load rfl (.r 11) rfl isAgg3) ?_
   refine TA_tw 18 [0,0,0,0,0,0] (dn 42 524287) rfl rfl (V_bin rfl rfl (fun w=>gtrI w ((lg c_Psk 0).2.2.2.2.1) c_Clock)) ?_
   refine TA_tk 19 [0,0,0,0,0,0] (dn 42 1048575) rfl rfl (V_pick (b:=false) rfl rfl) ?_
   refine TA_tk 20 [0,0,0,0,0,0] (dn 42 2097151) rfl rfl (V_move rfl) ?_
   refine TA_re (d:=24) (v:=vb (decide (c_Clock<((lg c_Psk 0).2.2.2.2.1)))) (v':=vb true) rfl (congrArg vb hg1_21) ?_
   refine TA_ts 21 [0,0,0,0,0,0] (dn 42 4194303) rfl rfl ?_
   refine TA_ts 22 [0,0,0,0,0,0] (dn 42 8388607) rfl rfl ?_
   refine TA_ts 23 [0,0,0,0,0,0] (dn 42 16777215) rfl rfl ?_
   refine TA_ts 24 [0,0,0,0,0,0] (dn 42 33554431) rfl rfl ?_
   refine TA_ts 25 [0,0,0,0,0,0] (dn 42 67108863) rfl rfl ?_
   refine TA_ts 26 [0,0,0,0,0,0] (dn 42 134217727) rfl rfl ?_
   refine TA_ts 27 [0,0,0,0,0,0] (dn 42 268435455) rfl rfl ?_
   refine TA_ts 28 [0,0,0,0,0,0] (dn 42 536870911) rfl rfl ?_
   refine TA_ts 29 [0,0,0,0,0,0] (dn 42 1073741823) rfl rfl ?_
   refine TA_ts 30 [0,0,0,0,0,0] (dn 42 2147483647) rfl rfl ?_
   refine TA_ts 31 [0,0,0,0,0,0] (dn 42 4294967295) rfl rfl ?_
   refine TA_ts 32 [0,0,0,0,0,0] (dn 42 8589934591) rfl rfl ?_
   refine TA_ts 33 [0,0,0,0,0,0] (dn 42 17179869183) rfl rfl ?_
   refine TA_ts 34 [0,0,0,0,0,0] (dn 42 34359738367) rfl rfl ?_
   refine TA_ts 35 [0,0,0,0,0,0] (dn 42 68719476735) rfl rfl ?_
   refine TA_ts 36 [0,0,0,0,0,0] (dn 42 137438953471) rfl rfl ?_
   refine TA_ts 37 [0,0,0,0,0,0] (dn 42 274877906943) rfl rfl ?_
   refine TA_ts 38 [0,0,0,0,0,0] (dn 42 549755813887) rfl rfl ?_
   refine TA_ts 39 [0,0,0,0,0,0] (dn 42 1099511627775) rfl rfl ?_
   refine TA_ts 40 [0,0,0,0,0,0] (dn 42 2199023255551) rfl rfl ?_
   refine TA_tk 41 [0,0,0,0,0,0] (dn 42 4398046511103) rfl rfl (V_pick (b:=true) rfl rfl) ?_
   refine TA_done (by kernel_rfl) ?_ 0
   refine TX_next (TC.sub (m':=[(0,_),(2,_),(45,_)]) ⟨rfl,rfl,rfl,trivial⟩ ?_)
   refine TC.pull (is:=[0,0,0,0,0,0]) (L':=[_,_,_,_,_,_]) rfl ?_
   refine TC_cond_t rfl ?_
   refine TC_seq (TC_region (TLv (V_buildStruct (pv:=[]) (pl:=[(0,1),(1,1),(2,1),(3,1),(4,1),(5,1)]) rfl rfl underlying57 inf57 places57 zer57 (cs:=flat [(1,[vs ([]:Str)]),(1,[vs ([]:Str)]),(1,[vi 0]),(1,[vi 0]),(1,[vi 0]),(1,[vi 0])]) (by kernel_rfl)) ?_))
   refine TLn (E_sp (b:=b1) (o:=0) [0,0,0,0,0,0] [(1,[vs ([]:Str)]),(1,[vs ([]:Str)]),(1,[vi 0]),(1,[vi 0]),(1,[vi 0]),(1,[vi 0])] [(1,[vs ([]:Str)]),(1,[vs ([]:Str)]),(1,[vi 0]),(1,[vi 0]),(1,[vi 0]),(1,[vi 0])] rfl inf57 ⟨rfl,rfl,rfl,rfl,rfl,rfl,trivial⟩ ⟨rfl,rfl,rfl,rfl,rfl,rfl,trivial⟩ ⟨(OneC.cons rfl OneC.nil),(OneC.cons rfl OneC.nil),(OneC.cons rfl OneC.nil),(OneC.cons rfl OneC.nil),(OneC.cons rfl OneC.nil),(OneC.cons rfl OneC.nil),trivial⟩) (fun _=>?_)
   refine TVa ?_
   refine TL_nil (TX_next (TC_ret (TX_then_ret ?_)))
   obtain rfl:=sj H
   exact TXr (vs:=[_,_]) rfl ⟨(Res_agg (n:=6) (cs:=flat [(1,[vs ([]:Str)]),(1,[vs ([]:Str)]),(1,[vi 0]),(1,[vi 0]),(1,[vi 0]),(1,[vi 0])]) rfl (by simp) (SrcEnts (b:=b1) [(1,[vs ([]:Str)]),(1,[vs ([]:Str)]),(1,[vi 0]),(1,[vi 0]),(1,[vi 0]),(1,[vi 0])] 0 ⟨rfl,rfl,rfl,rfl,rfl,rfl,trivial⟩ (AllSrc.all (M:=ents b1 0 [(1,[vs ([]:Str)]),(1,[vs ([]:Str)]),(1,[vi 0]),(1,[vi 0]),(1,[vi 0]),(1,[vi 0])]) ⟨Src.own (j:=0) rfl,Src.own (j:=1) rfl,Src.own (j:=2) rfl,Src.own (j:=3) rfl,Src.own (j:=4) rfl,Src.own (j:=5) rfl,trivial⟩)) isAgg57 inf57 rfl (by simp [flat])),rfl,trivial⟩
  ·replace H:=ite_f (of_decide_eq_false hg1_21) H
   obtain ⟨h2,H⟩:=if_elim H
   obtain ⟨h3,H⟩:=if_elim H
   refine TA_begin [⟨some (b1,0),[vs ([]:Str)]⟩,⟨some (b1,1),[vs ([]:Str)]⟩,⟨some (b1,2),[vi 0]⟩,⟨some (b1,3),[vi 0]⟩,⟨some (b1,4),[vi 0]⟩,⟨some (b1,5),[vi 0]⟩] 42 (by kernel_rfl) (N:=42) rfl ?_
   refine TA_tk 0 [0,0,0,0,0,0] (dn 42 1) rfl rfl (V_move rfl) ?_
   refine TA_tk 1 [0,0,0,0,0,0] (dn 42 3) rfl rfl (V_nilCheck rfl) ?_
   refine TA_tk 2 [0,0,0,0,0,0] (dn 42 7) rfl rfl (V_fieldE rfl underlying26 rfl rfl inf24 rfl (v:=ptr (some (bc,obc+9)) 0) rfl) ?_
   refine TA_tk 3 [0,0,0,0,0,0] (dn 42 15) rfl rfl (V_load rfl (.r 9) rfl isAgg24) ?_
   refine TA_tk 4 [0,0,0,0,0,0] (dn 42 31) rfl rfl (V_len_slice rfl underlying24) ?_
   refine TA_tk 5 [0,0,0,0,0,0] (dn 42 63) rfl rfl (V_bin rfl rfl (fun w=>eqlI w ((c_Psk).length:Int) 0)) ?_
   refine TA_tk 6 [0,0,0,0,0,0] (dn 42 127) rfl rfl (V_move rfl) ?_
   refine TA_re (d:=10) (v:=vb (decide (((c_Psk).length:Int)=0))) (v':=vb false) rfl (congrArg vb hg1_7) ?_
   refine TA_tw 7 [0,0,0,0,0,0] (dn 42 255) rfl rfl (V_move rfl) ?_
   refine TA_tw 8 [0,0,0,0,0,0] (dn 42 511) rfl rfl (V_nilCheck rfl) ?_
   refine TA_tw 9 [0,0,0,0,0,0] (dn 42 1023) rfl rfl (V_fieldE rfl underlying26 rfl rfl inf24 rfl (v:=ptr (some (bc,obc+9)) 0) rfl) ?_
   refine TA_tw 10 [0,0,0,0,0,0] (dn 42 2047) rfl rfl (V_load rfl (.r 9) rfl isAgg24) ?_
   refine TA_tw 11 [0,0,0,0,0,0] (dn 42 4095) rfl rfl (V_idxSlS (i:=0) rfl rfl underlying24 inf57 rfl (.r 19) (eF_ne2 (s:=6) (fun _=>rfl) rfl (toNat_lt h1.1 h1.2)) h1.1 h1.2 (k:=0 * 6) rfl) ?_
   refine TA_tw 12 [0,0,0,0,0,0] (dn 42 8191) rfl rfl (V_field rfl underlying57 rfl (k:=4) rfl inf3 rfl) ?_
   refine TA_tw 13 [0,0,0,0,0,0] (dn 42 16383) rfl rfl (V_load rfl (.r 19) ((get_eF (g:=fun p:Str × Str × Int × Int × Int × Int=>[vs p.1,vs p.2.1,vi p.2.2.1,vi p.2.2.2.1,vi p.2.2.2.2.1,vi p.2.2.2.2.2]) (s:=6) (fun _=>rfl) c_Psk 0 4 (toNat_lt h1.1 h1.2) (by decide:4<6)).trans rfl) isAgg3) ?_
   refine TA_tw 14 [0,0,0,0,0,0] (dn 42 32767) rfl rfl (V_move rfl) ?_
   refine TA_tw 15 [0,0,0,0,0,0] (dn 42 65535) rfl rfl (V_nilCheck rfl) ?_
   refine TA_tw 16 [0,0,0,0,0,0] (dn 42 131071) rfl rfl (V_fieldE rfl underlying26 rfl rfl inf3 rfl (v:=ptr (some (bc,obc+11)) 0) rfl) ?_
   refine TA_tw 17 [0,0,0,0,0,0] (dn 42 262143) rfl rfl (V_load rfl (.r 11) rfl isAgg3) ?_
   refine TA_tw 18 [0,0,0,0,0,0] (dn 42 524287) rfl rfl (V_bin rfl rfl (fun w=>gtrI w ((lg c_Psk 0).2.2.2.2.1) c_Clock)) ?_
   refine TA_tk 19 [0,0,0,0,0,0] (dn 42 1048575) rfl rfl (V_pick (b:=false) rfl rfl) ?_
   refine TA_tk 20 [0,0,0,0,0,0] (dn 42 2097151) rfl rfl (V_move rfl) ?_
   refine TA_re (d:=24) (v:=vb (decide (c_Clock<((lg c_Psk 0).2.2.2.2.1)))) (v':=vb false) rfl (congrArg vb hg1_21) ?_
   refine TA_tw 21 [0,0,0,0,0,0] (dn 42 4194303) rfl rfl (V_move rfl) ?_
   refine TA_tw 22 [0,0,0,0,0,0] (dn 42 8388607) rfl rfl (V_nilCheck rfl) ?_
   refine TA_tw 23 [0,0,0,0,0,0] (dn 42 16777215) rfl rfl (V_fieldE rfl underlying26 rfl rfl inf3 rfl (v:=ptr (some (bc,obc+11)) 0) rfl) ?_
   refine TA_tw 24 [0,0,0,0,0,0] (dn 42 33554431) rfl rfl (V_load rfl (.r 11) rfl isAgg3) ?_
   refine TA_tw 25 [0,0,0,0,0,0] (dn 42 67108863) rfl rfl (V_move rfl) ?_
   refine TA_tw 26 [0,0,0,0,0,0] (dn 42 134217727) rfl rfl (V_nilCheck rfl) ?_
   refine TA_tw 27 [0,0,0,0,0,0] (dn 42 268435455) rfl rfl (V_fieldE rfl underlying26 rfl rfl inf24 rfl (v:=ptr (some (bc,obc+9)) 0) rfl) ?_
   refine TA_tw 28 [0,0,0,0,0,0] (dn 42 536870911) rfl rfl (V_load rfl (.r 9) rfl isAgg24) ?_
   refine TA_tw 29 [0,0,0,0,0,0] (dn 42 1073741823) rfl rfl (V_idxSlS (i:=0) rfl rfl underlying24 inf57 rfl (.r 19) (eF_ne2 (s:=6) (fun _=>rfl) rfl (toNat_lt h2.1 h2.2)) h2.1 h2.2 (k:=0 * 6) rfl) ?_
   refine TA_tw 30 [0,0,0,0,0,0] (dn 42 2147483647) rfl rfl (V_field rfl underlying57 rfl (k:=4) rfl inf3 rfl) ?_
   refine TA_tw 31 [0,0,0,0,0,0] (dn 42 4294967295) rfl rfl (V_load rfl (.r 19) ((get_eF (g:=fun p:Str × Str × Int × Int × Int × Int=>[vs p.1,vs p.2.1,vi p.2.2.1,vi p.2.2.2.1,vi p.2.2.2.2.1,vi p.2.2.2.2.2]) (s:=6) (fun _=>rfl) c_Psk 0 4 (toNat_lt h2.1 h2.2) (by decide:4<6)).trans rfl) isAgg3) ?_
   refine TA_tw 32 [0,0,0,0,0,0] (dn 42 8589934591) rfl rfl (V_bin rfl rfl (fun w=>subI w c_Clock ((lg c_Psk 0).2.2.2.2.1))) ?_
   refine TA_tw 33 [0,0,0,0,0,0] (dn 42 17179869183) rfl rfl (V_move rfl) ?_
   refine TA_tw 34 [0,0,0,0,0,0] (dn 42 34359738367) rfl rfl (V_nilCheck rfl) ?_
   refine TA_tw 35 [0,0,0,0,0,0] (dn 42 68719476735) rfl rfl (V_fieldE rfl underlying26 rfl rfl inf24 rfl (v:=ptr (some (bc,obc+9)) 0) rfl) ?_
   refine TA_tw 36 [0,0,0,0,0,0] (dn 42 137438953471) rfl rfl (V_load rfl (.r 9) rfl isAgg24) ?_
   refine TA_tw 37 [0,0,0,0,0,0] (dn 42 274877906943) rfl rfl (V_idxSlS (i:=0) rfl rfl underlying24 inf57 rfl (.r 19) (eF_ne2 (s:=6) (fun _=>rfl) rfl (toNat_lt h3.1 h3.2)) h3.1 h3.2 (k:=0 * 6) rfl) ?_
   refine TA_tw 38 [0,0,0,0,0,0] (dn 42 549755813887) rfl rfl (V_field rfl underlying57 rfl (k:=5) rfl inf3 rfl) ?_
   refine TA_tw 39 [0,0,0,0,0,0] (dn 42 1099511627775) rfl rfl (V_load rfl (.r 19) ((get_eF (g:=fun p:Str × Str × Int × Int × Int × Int=>[vs p.1,vs p.2.1,vi p.2.2.1,vi p.2.2.2.1,vi p.2.2.2.2.1,vi p.2.2.2.2.2]) (s:=6) (fun _=>rfl) c_Psk 0 5 (toNat_lt h3.1 h3.2) (by decide:5<6)).trans rfl) isAgg3) ?_
   refine TA_tw 40 [0,0,0,0,0,0] (dn 42 2199023255551) rfl rfl (V_bin rfl rfl (fun w=>gtrI w (w64 (c_Clock - ((lg c_Psk 0).2.2.2.2.1))) ((lg c_Psk 0).2.2.2.2.2))) ?_
   refine TA_tk 41 [0,0,0,0,0,0] (dn 42 4398046511103) rfl rfl (V_pick (b:=false) rfl rfl) ?_
   refine TA_done (by kernel_rfl) ?_ 0
   refine TX_next (TC.sub (m':=[(0,_),(2,_),(45,_)]) ⟨rfl,rfl,rfl,trivial⟩ ?_)
   refine TC.pull (is:=[0,0,0,0,0,0]) (L':=[_,_,_,_,_,_]) rfl ?_
   refine TCd H (fun hc H=>?_) (fun hc H=>?_)
   ·refine TC_seq (TC_region (TLv (V_buildStruct (pv:=[]) (pl:=[(0,1),(1,1),(2,1),(3,1),(4,1),(5,1)]) rfl rfl underlying57 inf57 places57 zer57 (cs:=flat [(1,[vs ([]:Str)]),(1,[vs ([]:Str)]),(1,[vi 0]),(1,[vi 0]),(1,[vi 0]),(1,[vi 0])]) (by kernel_rfl)) ?_))
    refine TLn (E_sp (b:=b1) (o:=0) [0,0,0,0,0,0] [(1,[vs ([]:Str)]),(1,[vs ([]:Str)]),(1,[vi 0]),(1,[vi 0]),(1,[vi 0]),(1,[vi 0])] [(1,[vs ([]:Str)]),(1,[vs ([]:Str)]),(1,[vi 0]),(1,[vi 0]),(1,[vi 0]),(1,[vi 0])] rfl inf57 ⟨rfl,rfl,rfl,rfl,rfl,rfl,trivial⟩ ⟨rfl,rfl,rfl,rfl,rfl,rfl,trivial⟩ ⟨(OneC.cons rfl OneC.nil),(OneC.cons rfl OneC.nil),(OneC.cons rfl OneC.nil),(OneC.cons rfl OneC.nil),(OneC.cons rfl OneC.nil),(OneC.cons rfl OneC.nil),trivial⟩) (fun _=>?_)
    refine TVa ?_
    refine TL_nil (TX_next (TC_ret (TX_then_ret ?_)))
    obtain rfl:=sj H
    exact TXr (vs:=[_,_]) rfl ⟨(Res_agg (n:=6) (cs:=flat [(1,[vs ([]:Str)]),(1,[vs ([]:Str)]),(1,[vi 0]),(1,[vi 0]),(1,[vi 0]),(1,[vi 0])]) rfl (by simp) (SrcEnts (b:=b1) [(1,[vs ([]:Str)]),(1,[vs ([]:Str)]),(1,[vi 0]),(1,[vi 0]),(1,[vi 0]),(1,[vi 0])] 0 ⟨rfl,rfl,rfl,rfl,rfl,rfl,trivial⟩ (AllSrc.all (M:=ents b1 0 [(1,[vs ([]:Str)]),(1,[vs ([]:Str)]),(1,[vi 0]),(1,[vi 0]),(1,[vi 0]),(1,[vi 0])]) ⟨Src.own (j:=0) rfl,Src.own (j:=1) rfl,Src.own (j:=2) rfl,Src.own (j:=3) rfl,Src.own (j:=4) rfl,Src.own (j:=5) rfl,trivial⟩)) isAgg57 inf57 rfl (by simp [flat])),rfl,trivial⟩
   ·refine TC_skip (TX_next (TC_seq (TC_region (TVm ?_))))
    refine TLv (V_nilCheck rfl) ?_
    refine TLv (V_fieldE rfl underlying26 rfl rfl inf24 rfl (v:=ptr (some (bc,obc+9)) 0) rfl) ?_
    refine TLv (V_load rfl (.r 9) rfl isAgg24) ?_
    obtain ⟨h4,H⟩:=if_elim H
    refine TLv (V_idxSlS (i:=0) rfl rfl underlying24 inf57 rfl (.r 19) (eF_ne2 (s:=6) (fun _=>rfl) rfl (toNat_lt h4.1 h4.2)) h4.1 h4.2 (k:=0 * 6) rfl) ?_
    refine TLv (V_loadPart (n:=6) (ds:=[vs ((lg c_Psk 0).1),vs ((lg c_Psk 0).2.1),vi ((lg c_Psk 0).2.2.1),vi ((lg c_Psk 0).2.2.2.1),vi ((lg c_Psk 0).2.2.2.2.1),vi ((lg c_Psk 0).2.2.2.2.2)]) rfl (.r 19) (part_eF (g:=fun p:Str × Str × Int × Int × Int × Int=>[vs p.1,vs p.2.1,vi p.2.2.1,vi p.2.2.2.1,vi p.2.2.2.2.1,vi p.2.2.2.2.2]) (s:=6) (fun _=>rfl) c_Psk 0 (toNat_lt h4.1 h4.2)) rfl rfl isAgg57 inf57 rfl) ?_
    refine TLn (E_sp (b:=b1) (o:=0) [0,0,0,0,0,0] [(1,[vs ([]:Str)]),(1,[vs ([]:Str)]),(1,[vi 0]),(1,[vi 0]),(1,[vi 0]),(1,[vi 0])] [(1,[vs ((lg c_Psk 0).1)]),(1,[vs ((lg c_Psk 0).2.1)]),(1,[vi ((lg c_Psk 0).2.2.1)]),(1,[vi ((lg c_Psk 0).2.2.2.1)]),(1,[vi ((lg c_Psk 0).2.2.2.2.1)]),(1,[vi ((lg c_Psk 0).2.2.2.2.2)])] rfl inf57 ⟨rfl,rfl,rfl,rfl,rfl,rfl,trivial⟩ ⟨rfl,rfl,rfl,rfl,rfl,rfl,trivial⟩ ⟨(OneC.cons rfl OneC.nil),(OneC.cons rfl OneC.nil),(OneC.cons rfl OneC.nil),(OneC.cons rfl OneC.nil),(OneC.cons rfl OneC.nil),(OneC.cons rfl OneC.nil),trivial⟩) (fun _=>?_)
    refine TVa ?_
    refine TL_nil (TX_next (TC_ret ?_))
    obtain rfl:=sj H
    exact TXr (vs:=[_,_]) rfl ⟨(Res_agg (n:=6) (cs:=flat [(1,[vs ((lg c_Psk 0).1)]),(1,[vs ((lg c_Psk 0).2.1)]),(1,[vi ((lg c_Psk 0).2.2.1)]),(1,[vi ((lg c_Psk 0).2.2.2.1)]),(1,[vi ((lg c_Psk 0).2.2.2.2.1)]),(1,[vi ((lg c_Psk 0).2.2.2.2.2)])]) rfl (by simp) (SrcEnts (b:=b1) [(1,[vs ((lg c_Psk 0).1)]),(1,[vs ((lg c_Psk 0).2.1)]),(1,[vi ((lg c_Psk 0).2.2.1)]),(1,[vi ((lg c_Psk 0).2.2.2.1)]),(1,[vi ((lg c_Psk 0).2.2.2.2.1)]),(1,[vi ((lg c_Psk 0).2.2.2.2.2)])] 0 ⟨rfl,rfl,rfl,rfl,rfl,rfl,trivial⟩ (AllSrc.all (M:=ents b1 0 [(1,[vs ((lg c_Psk 0).1)]),(1,[vs ((lg c_Psk 0).2.1)]),(1,[vi ((lg c_Psk 0).2.2.1)]),(1,[vi ((lg c_Psk 0).2.2.2.1)]),(1,[vi ((lg c_Psk 0).2.2.2.2.1)]),(1,[vi ((lg c_Psk 0).2.2.2.2.2)])]) ⟨Src.own (j:=0) rfl,Src.own (j:=1) rfl,Src.own (j:=2) rfl,Src.own (j:=3) rfl,Src.own (j:=4) rfl,Src.own (j:=5) rfl,trivial⟩)) isAgg57 inf57 rfl (by simp [flat])),rfl,trivial⟩
end Go.Proofs
end

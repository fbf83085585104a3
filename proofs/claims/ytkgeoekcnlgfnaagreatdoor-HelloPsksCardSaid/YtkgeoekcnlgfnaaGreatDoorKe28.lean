/-
  Part 28 of the proof of what several laws share.
-/
import Derived.Test.YtkgeoekcnlgfnaaGreatDoorKe1
import Derived.Test.YtkgeoekcnlgfnaaGreatDoorKe2
import Derived.Test.YtkgeoekcnlgfnaaGreatDoorKe3
import Derived.Test.YtkgeoekcnlgfnaaGreatDoorKe4
import Derived.Test.YtkgeoekcnlgfnaaGreatDoorKe5
import Derived.Test.YtkgeoekcnlgfnaaGreatDoorKe6
import Derived.Test.YtkgeoekcnlgfnaaGreatDoorKe27
set_option linter.unusedVariables false
set_option linter.unusedSimpArgs false
section
namespace Go.Proofs
open Go Go.Kx
open Vector (replicate)
open TryzI Tryz
def halberdref4_cipher.k1:Str:=([99#8,124#8,119#8,123#8,242#8,107#8,111#8,197#8,48#8,1#8,103#8,43#8,254#8,215#8,171#8,118#8,202#8,130#8,201#8,125#8,250#8,89#8,71#8,240#8,173#8,212#8,162#8,175#8,156#8,164#8,114#8,192#8,183#8,253#8,147#8,38#8,54#8,63#8,247#8,204#8,52#8,165#8,229#8,241#8,113#8,216#8,49#8,21#8,4#8,199#8,35#8,195#8,24#8,150#8,5#8,154#8,7#8,18#8,128#8,226#8,235#8,39#8,178#8,117#8,9#8,131#8,44#8,26#8,27#8,110#8,90#8,160#8,82#8,59#8,214#8,179#8,41#8,227#8,47#8,132#8,83#8,209#8,0#8,237#8,32#8,252#8,177#8,91#8,106#8,203#8,190#8,57#8,74#8,76#8,88#8,207#8,208#8,239#8,170#8,251#8,67#8,77#8,51#8,133#8,69#8,249#8,2#8,127#8,80#8,60#8,159#8,168#8,81#8,163#8,64#8,143#8,146#8,157#8,56#8,245#8,188#8,182#8,218#8,33#8,16#8,255#8,243#8,210#8,205#8,12#8,19#8,236#8,95#8,151#8,68#8,23#8,196#8,167#8,126#8,61#8,100#8,93#8,25#8,115#8,96#8,129#8,79#8,220#8,34#8,42#8,144#8,136#8,70#8,238#8,184#8,20#8,222#8,94#8,11#8,219#8,224#8,50#8,58#8,10#8,73#8,6#8,36#8,92#8,194#8,211#8,172#8,98#8,145#8,149#8,228#8,121#8,231#8,200#8,55#8,109#8,141#8,213#8,78#8,169#8,108#8,86#8,244#8,234#8,101#8,122#8,174#8,8#8,186#8,120#8,37#8,46#8,28#8,166#8,180#8,198#8,232#8,221#8,116#8,31#8,75#8,189#8,139#8,138#8,112#8,62#8,181#8,102#8,72#8,3#8,246#8,14#8,97#8,53#8,87#8,185#8,134#8,193#8,29#8,158#8,225#8,248#8,152#8,17#8,105#8,217#8,142#8,148#8,155#8,30#8,135#8,233#8,206#8,85#8,40#8,223#8,140#8,161#8,137#8,13#8,191#8,230#8,66#8,104#8,65#8,153#8,45#8,15#8,176#8,84#8,187#8,22#8]:Str)
def halberdref4_cipher.b0 (w_:List (Vx 8 4)) (s_:Str) (s0:Int × Vx 8 16):Option ((Int × Vx 8 16) ⊕ (Vx 8 16)) :=
 if s0.1<16 then (if 0≤s0.1∧s0.1<((s_).length:Int) then (if 0≤w64 (s0.1.tdiv 4)∧w64 (s0.1.tdiv 4)<((w_).length:Int) then (if 0≤s0.1.tmod 4∧s0.1.tmod 4<(4:Int) then (if 0≤s0.1∧s0.1<(16:Int) then (ltt (vp s0.2 ((s0.1).toNat) ((sg s_ s0.1) ^^^ (vg (lg w_ ((w64 (s0.1.tdiv 4)).toNat)) ((s0.1.tmod 4).toNat)))) fun (m_1:Vx 8 16)=>(ltt (w64 (s0.1+1)) fun (i1:Int)=>(some (.inl (i1,m_1))))) else none) else none) else none) else none) else (some (.inr s0.2))
def halberdref4_cipher.b2 (s1:Int × Vx 8 16) (s2:Int × Vx 8 16):Option ((Int × Vx 8 16) ⊕ (Vx 8 16)) :=
 if s2.1<16 then (if 0≤(w64 (s2.1+(w64 (4 * (s2.1.tmod 4))))).tmod 16∧(w64 (s2.1+(w64 (4 * (s2.1.tmod 4))))).tmod 16<(16:Int) then (if 0≤((vg s1.2 (((w64 (s2.1+(w64 (4 * (s2.1.tmod 4))))).tmod 16).toNat)).toNat:Int)∧((vg s1.2 (((w64 (s2.1+(w64 (4 * (s2.1.tmod 4))))).tmod 16).toNat)).toNat:Int)<((halberdref4_cipher.k1).length:Int) then (if 0≤s2.1∧s2.1<(16:Int) then (ltt (vp s2.2 ((s2.1).toNat) (sg halberdref4_cipher.k1 ((vg s1.2 (((w64 (s2.1+(w64 (4 * (s2.1.tmod 4))))).tmod 16).toNat)).toNat:Int))) fun (m_2:Vx 8 16)=>(ltt (w64 (s2.1+1)) fun (i2:Int)=>(some (.inl (i2,m_2))))) else none) else none) else none) else (some (.inr s2.2))
def halberdref4_cipher.b3 (w_:List (Vx 8 4)) (s1:Int × Vx 8 16) (j1:Vx 8 16) (s3:Int × Vx 8 16):Option ((Int × Vx 8 16) ⊕ (Vx 8 16)) :=
 if s3.1<16 then (if 0≤s3.1∧s3.1<(16:Int) then (if 0≤w64 ((w64 (4 * s1.1))+(w64 (s3.1.tdiv 4)))∧w64 ((w64 (4 * s1.1))+(w64 (s3.1.tdiv 4)))<((w_).length:Int) then (if 0≤s3.1.tmod 4∧s3.1.tmod 4<(4:Int) then (if 0≤s3.1∧s3.1<(16:Int) then (ltt (vp s3.2 ((s3.1).toNat) ((vg j1 ((s3.1).toNat)) ^^^ (vg (lg w_ ((w64 ((w64 (4 * s1.1))+(w64 (s3.1.tdiv 4)))).toNat)) ((s3.1.tmod 4).toNat)))) fun (m_3:Vx 8 16)=>(ltt (w64 (s3.1+1)) fun (i3:Int)=>(some (.inl (i3,m_3))))) else none) else none) else none) else none) else (some (.inr s3.2))
def halberdref4_cipher.b5 (s4:Int × Vx 8 16) (all1:BitVec 8) (s5:Int × Vx 8 16):Option ((Int × Vx 8 16) ⊕ (Vx 8 16)) :=
 if s5.1<3 then (if 0≤w64 (s4.1+s5.1)∧w64 (s4.1+s5.1)<(16:Int) then (if 0≤w64 (s4.1+s5.1)∧w64 (s4.1+s5.1)<(16:Int) then (if 0≤w64 ((w64 (s4.1+s5.1))+1)∧w64 ((w64 (s4.1+s5.1))+1)<(16:Int) then ((halberdref4_double ((vg s5.2 ((w64 (s4.1+s5.1)).toNat)) ^^^ (vg s5.2 ((w64 ((w64 (s4.1+s5.1))+1)).toNat)))).bind fun (r_2:BitVec 8)=>(if 0≤w64 (s4.1+s5.1)∧w64 (s4.1+s5.1)<(16:Int) then (ltt (vp s5.2 ((w64 (s4.1+s5.1)).toNat) (((vg s5.2 ((w64 (s4.1+s5.1)).toNat)) ^^^ all1) ^^^ r_2)) fun (m_4:Vx 8 16)=>(ltt (w64 (s5.1+1)) fun (i4:Int)=>(some (.inl (i4,m_4))))) else none)) else none) else none) else none) else (some (.inr s5.2))
def halberdref4_cipher.b4  (s4:Int × Vx 8 16):Option ((Int × Vx 8 16) ⊕ (Vx 8 16)) :=
 if s4.1<16 then (if 0≤s4.1∧s4.1<(16:Int) then (if 0≤w64 (s4.1+1)∧w64 (s4.1+1)<(16:Int) then (if 0≤w64 (s4.1+2)∧w64 (s4.1+2)<(16:Int) then (if 0≤w64 (s4.1+3)∧w64 (s4.1+3)<(16:Int) then (ltt ((((vg s4.2 ((s4.1).toNat)) ^^^ (vg s4.2 ((w64 (s4.1+1)).toNat))) ^^^ (vg s4.2 ((w64 (s4.1+2)).toNat))) ^^^ (vg s4.2 ((w64 (s4.1+3)).toNat))) fun (all1:BitVec 8)=>(if 0≤s4.1∧s4.1<(16:Int) then (ltt (vg s4.2 ((s4.1).toNat)) fun (first1:BitVec 8)=>((loop (halberdref4_cipher.b5 s4 all1) BIG (0,s4.2)).bind fun (t_6:Vx 8 16)=>(if 0≤w64 (s4.1+3)∧w64 (s4.1+3)<(16:Int) then (if 0≤w64 (s4.1+3)∧w64 (s4.1+3)<(16:Int) then ((halberdref4_double ((vg t_6 ((w64 (s4.1+3)).toNat)) ^^^ first1)).bind fun (r_3:BitVec 8)=>(if 0≤w64 (s4.1+3)∧w64 (s4.1+3)<(16:Int) then (ltt (vp t_6 ((w64 (s4.1+3)).toNat) (((vg t_6 ((w64 (s4.1+3)).toNat)) ^^^ all1) ^^^ r_3)) fun (m_5:Vx 8 16)=>(ltt (w64 (s4.1+4)) fun (c1:Int)=>(some (.inl (c1,m_5))))) else none)) else none) else none))) else none)) else none) else none) else none) else none) else (some (.inr s4.2))
def halberdref4_cipher.b1 (w_:List (Vx 8 4)) (rounds1:Int) (s1:Int × Vx 8 16):Option ((Int × Vx 8 16) ⊕ (Vx 8 16)) :=
 if s1.1≤rounds1 then ((loop (halberdref4_cipher.b2 s1) BIG (0,replicate 16 0#8)).bind fun (t_3:Vx 8 16)=>((if s1.1<rounds1 then ((loop (halberdref4_cipher.b4) BIG (0,t_3)).bind fun (t_5:Vx 8 16)=>(some t_5)) else (some t_3)).bind fun (j1:Vx 8 16)=>((loop (halberdref4_cipher.b3 w_ s1 j1) BIG (0,s1.2)).bind fun (t_4:Vx 8 16)=>(ltt (w64 (s1.1+1)) fun (r_1:Int)=>(some (.inl (r_1,t_4))))))) else (some (.inr s1.2))
def halberdref4_cipher (w_:List (Vx 8 4)) (s_:Str):Option (Str) :=
 (loop (halberdref4_cipher.b0 w_ s_) BIG (0,replicate 16 0#8)).bind fun (t_1:Vx 8 16)=>(ltt (w64 ((w64 (((w_).length:Int).tdiv 4)) - 1)) fun (rounds1:Int)=>((loop (halberdref4_cipher.b1 w_ rounds1) BIG (1,t_1)).bind fun (t_2:Vx 8 16)=>(some t_2.toList)))
set_option maxHeartbeats 4000000 in
set_option maxRecDepth 20000 in
theorem F99_calls (Aw_:Adr) (cw_:Nat) (w_:List (Vx 8 4)) (s_:Str) (hcw_:(w_).length≤cw_) (r:Str) (H:halberdref4_cipher w_ s_=some r) :
  Does Tryz.prog 99 [sl Aw_ ((w_).length) cw_,vs s_] [] [⟨Aw_,eF (fun V:Vx 8 4=>e8 V.toList) w_⟩] (Γ:=Unit) (fun g=>vs r) (fun g=>[]):=by
 intro w hmem hro hd
 refine calls_of (N:=155) (m0:=[(0,sl Aw_ ((w_).length) cw_),(1,vs s_)]) func99 rfl ntmps99 (argM_ok [sl Aw_ ((w_).length) cw_,vs s_]) rfl hmem hro hd ?_
 unfold halberdref4_cipher at H
 refine TC_seq (TC_region (TVa ?_))
 refine TL_nil (TX_next (TC_seq (TC_region (TLe (E_allocP [(16,e8 ((replicate 16 0#8).toList))] inf171 zer171 ⟨(lenV (f:=v8) (replicate 16 0#8)),trivial⟩) (fun b1=>?_)))))
 refine TL_nil (TX_next (TC_seq (TC_seq (TC_region (TVa ?_)))))
 refine TL_nil (TX_next (TC_block ?_))
 obtain ⟨t_1,Hl,H⟩:=bind_elim H
 refine TC.sub (m':=[(0,_),(1,_),(5,_),(6,_)]) ⟨rfl,rfl,rfl,rfl,trivial⟩ ?_
 refine TC.pull (is:=[0]) (L':=[_]) rfl ?_
 refine TC_loopL (id:=0) (body:=(halberdref4_cipher.b0 w_ s_)) (σ:=Int × Vx 8 16) (Γ:=Unit) (Γx:=Unit) (fun s0 g0_=>[(0,sl Aw_ ((w_).length) cw_),(1,vs s_),(5,ptr (some (b1,0)) 0),(6,vi s0.1)]) (fun s0 g0_=>[⟨some (b1,0),e8 s0.2.toList⟩]) (fun t g=>[(0,sl Aw_ ((w_).length) cw_),(5,ptr (some (b1,0)) 0)]) (fun t g=>[⟨some (b1,0),e8 t.toList⟩]) ?_ BIG (0,replicate 16 0#8) () t_1 Hl ?_
 ·intro s0 g0_ r1 H K hK hE
  unfold halberdref4_cipher.b0 at H
  refine TC_seq (TC_seq (TC_region (TVm ?_)))
  refine TLv (V_bin rfl rfl (fun w=>lssI w s0.1 16)) ?_
  refine TL_nil (TX_next (TCd H (fun hc H=>?_) (fun hc H=>?_)))
  ·refine TC_skip (TX_next (TC_seq (TC_block ?_)))
   obtain ⟨h1,H⟩:=if_elim H
   obtain ⟨h2,H⟩:=if_elim H
   obtain ⟨h3,H⟩:=if_elim H
   obtain ⟨h4,H⟩:=if_elim H
   obtain ⟨m_1,hm_1,H⟩:=ltt_elim H
   refine TA_begin [] 15 (by kernel_rfl) (N:=15) rfl ?_
   refine TA_mix (is:=[]) (done':=dn 15 16383) [itV 0 20 (vi s0.1) [],itV 1 21 (vs s_) [],itV 2 22 (vi s0.1) [],itV 3 23 (v8 (sg s_ s0.1)) [1,2],itV 4 24 (sl Aw_ ((w_).length) cw_) [],itV 5 25 (vi s0.1) [],itV 6 26 (vi (w64 (s0.1.tdiv 4))) [5],itV 7 27 (vi s0.1) [],itV 8 28 (vi (s0.1.tmod 4)) [7],itV 9 29 (ptr Aw_ (((w64 (s0.1.tdiv 4)).toNat) * 4)) [4,6],itV 10 30 (ptr Aw_ (((w64 (s0.1.tdiv 4)).toNat) * 4+(s0.1.tmod 4).toNat)) [8,9],itV 11 31 (v8 (vg (lg w_ ((w64 (s0.1.tdiv 4)).toNat)) ((s0.1.tmod 4).toNat))) [10],itV 12 32 (v8 ((sg s_ s0.1) ^^^ (vg (lg w_ ((w64 (s0.1.tdiv 4)).toNat)) ((s0.1.tmod 4).toNat)))) [11,3],itV 13 33 (ptr (some (b1,0)) ((s0.1).toNat)) [0]] [] 1 (by kernel_rfl) (QP.block (QP.then (QP.then (QP.block (QP.then QP.body))))) (by kernel_rfl) rfl (.v rfl (V_move rfl) (.v rfl (V_move rfl) (.v rfl (V_move rfl) (.v rfl (V_idxStr rfl rfl (i:=s0.1) underlying9 h1.1 h1.2) (.v rfl (V_move rfl) (.v rfl (V_move rfl) (.v rfl (V_bin rfl rfl (fun w=>quoI w s0.1 4 (by decide))) (.v rfl (V_move rfl) (.v rfl (V_bin rfl rfl (fun w=>remI w s0.1 4 (by decide))) (.v rfl (V_idxSlS (i:=w64 (s0.1.tdiv 4)) rfl rfl underlying127 inf147 rfl (.r 0) (eF_ne2 (s:=4) (fun _=>by simp) rfl (toNat_lt h2.1 h2.2)) h2.1 h2.2 (k:=((w64 (s0.1.tdiv 4)).toNat) * 4) rfl) (.v rfl (V_idxArr (i:=s0.1.tmod 4) rfl rfl underlying147 inf5 rfl h3.1 h3.2 (k:=((w64 (s0.1.tdiv 4)).toNat) * 4+(s0.1.tmod 4).toNat) (k1 _ _)) (.v rfl (V_load rfl (.r 0) ((get_eF (g:=fun V:Vx 8 4=>e8 V.toList) (s:=4) (fun _=>by simp) w_ ((w64 (s0.1.tdiv 4)).toNat) ((s0.1.tmod 4).toNat) (toNat_lt h2.1 h2.2) (toNat_lt h3.1 h3.2)).trans (get_vec (toNat_lt h3.1 h3.2))) isAgg5) (.v rfl (V_bin rfl rfl (fun w=>xor8 w (sg s_ s0.1) (vg (lg w_ ((w64 (s0.1.tdiv 4)).toNat)) ((s0.1.tmod 4).toNat)))) (.v rfl (V_idxArr (i:=s0.1) rfl rfl underlying171 inf5 rfl h4.1 h4.2 (k:=(s0.1).toNat) (k01 _)) .nil)))))))))))))) .nil (by kernel_rfl) rfl (fun γ=>?_)
   refine TA_cut [(33,ptr (some (b1,0)) ((s0.1).toNat)),(32,v8 ((sg s_ s0.1) ^^^ (vg (lg w_ ((w64 (s0.1.tdiv 4)).toNat)) ((s0.1.tmod 4).toNat)))),(0,sl Aw_ ((w_).length) cw_),(1,vs s_),(5,ptr (some (b1,0)) 0),(6,vi s0.1)] [⟨some (b1,0),e8 s0.2.toList⟩] ⟨rfl,rfl,rfl,rfl,rfl,rfl,trivial⟩ rfl ?_
   refine TA_all (rs:=[14]) (by kernel_rfl) rfl ?_
   refine ⟨?_,trivial⟩
   refine TO_n (is:=[]) (done':=dn 15 32767) rfl rfl rfl (by kernel_rfl) (E_store (j:=0) rfl rfl inf5 rfl rfl rfl (by simpa using (toNat_lt h4.1 h4.2)) (cs':=e8 ((vp s0.2 ((s0.1).toNat) ((sg s_ s0.1) ^^^ (vg (lg w_ ((w64 (s0.1.tdiv 4)).toNat)) ((s0.1.tmod 4).toNat)))).toList)) set_vec) (fun _ _=>rfl) (fun _=>?_)
   refine TA_reE (j:=0) (A:=some (b1,0)) (cs:=e8 ((vp s0.2 ((s0.1).toNat) ((sg s_ s0.1) ^^^ (vg (lg w_ ((w64 (s0.1.tdiv 4)).toNat)) ((s0.1.tmod 4).toNat)))).toList)) (cs':=e8 m_1.toList) rfl (congrArg (fun z:Vx 8 16=>e8 (Vector.toList z)) hm_1) ?_
   refine TA_done (by kernel_rfl) ?_ 0
   refine TX_block_normal (TX_next (TC_region (TVm ?_)))
   refine TLv (V_bin rfl rfl (fun w=>addI w s0.1 1)) ?_
   refine TVa ?_
   obtain ⟨i1,hi1,H⟩:=ltt_elim H
   refine TLr 6 (congrArg vi hi1) ?_
   refine TL_nil ?_
   obtain rfl:=sj H
   exact TXk [0] (hK (i1,m_1) rfl ())
  ·refine TC_exit (TX_then_exit (TX_then_exit ?_))
   obtain rfl:=sj H
   exact TXj [0] (hE s0.2 rfl ())
 ·intro g
  refine TX_block_exit (TX_next (TC_seq (TC_region (TVm ?_))))
  refine TLv (V_len_slice rfl underlying127) ?_
  refine TLv (V_bin rfl rfl (fun w=>quoI w ((w_).length:Int) 4 (by decide))) ?_
  refine TLv (V_bin rfl rfl (fun w=>subI w (w64 (((w_).length:Int).tdiv 4)) 1)) ?_
  refine TVa ?_
  obtain ⟨rounds1,hrounds1,H⟩:=ltt_elim H
  refine TLr 7 (congrArg vi hrounds1) ?_
  refine TL_nil (TX_next (TC_seq (TC_seq (TC_region (TVa ?_)))))
  refine TL_nil (TX_next (TC_block ?_))
  obtain ⟨t_2,Hl,H⟩:=bind_elim H
  refine TC.sub (m':=[(0,_),(5,_),(7,_),(8,_)]) ⟨rfl,rfl,rfl,rfl,trivial⟩ ?_
  refine TC.pull (is:=[0]) (L':=[_]) rfl ?_
  refine TC_loopL (id:=2) (body:=(halberdref4_cipher.b1 w_ rounds1)) (σ:=Int × Vx 8 16) (Γ:=Unit) (Γx:=Unit) (fun s1 g1_=>[(0,sl Aw_ ((w_).length) cw_),(5,ptr (some (b1,0)) 0),(7,vi rounds1),(8,vi s1.1)]) (fun s1 g1_=>[⟨some (b1,0),e8 s1.2.toList⟩]) (fun t g=>[(5,ptr (some (b1,0)) 0)]) (fun t g=>[⟨some (b1,0),e8 t.toList⟩]) ?_ BIG (1,t_1) () t_2 Hl ?_
  ·intro s1 g1_ r1 H K hK hE
   unfold halberdref4_cipher.b1 at H
   refine TC_seq (TC_seq (TC_region (TVm ?_)))
   refine TVm ?_
   refine TLv (V_bin rfl rfl (fun w=>leqI w s1.1 rounds1)) ?_
   refine TL_nil (TX_next (TCd H (fun hc H=>?_) (fun hc H=>?_)))
   ·refine TC_skip (TX_next (TC_seq (TC_block (TC_seq (TC_region (TLe (E_allocP [(16,e8 ((replicate 16 0#8).toList))] inf171 zer171 ⟨(lenV (f:=v8) (replicate 16 0#8)),trivial⟩) (fun b2=>?_)))))))
    refine TL_nil (TX_next (TC_seq (TC_seq (TC_region (TVa ?_)))))
    refine TL_nil (TX_next (TC_block ?_))
    obtain ⟨t_3,Hl,H⟩:=bind_elim H
    refine TC.sub (m':=[(0,_),(5,_),(7,_),(8,_),(9,_),(10,_)]) ⟨rfl,rfl,rfl,rfl,rfl,rfl,trivial⟩ ?_
    refine TC.pull (is:=[1,0]) (L':=[_,_]) rfl ?_
    refine TC_loopL (id:=4) (body:=(halberdref4_cipher.b2 s1)) (σ:=Int × Vx 8 16) (Γ:=Unit) (Γx:=Unit) (fun s2 g2_=>[(0,sl Aw_ ((w_).length) cw_),(5,ptr (some (b1,0)) 0),(7,vi rounds1),(8,vi s1.1),(9,ptr (some (b2,0)) 0),(10,vi s2.1)]) (fun s2 g2_=>[⟨some (b1,0),e8 s1.2.toList⟩,⟨some (b2,0),e8 s2.2.toList⟩]) (fun t g=>[(0,sl Aw_ ((w_).length) cw_),(5,ptr (some (b1,0)) 0),(7,vi rounds1),(8,vi s1.1),(9,ptr (some (b2,0)) 0)]) (fun t g=>[⟨some (b1,0),e8 s1.2.toList⟩,⟨some (b2,0),e8 t.toList⟩]) ?_ BIG (0,replicate 16 0#8) () t_3 Hl ?_
    ·intro s2 g2_ r1 H K hK hE
     unfold halberdref4_cipher.b2 at H
     refine TC_seq (TC_seq (TC_region (TVm ?_)))
     refine TLv (V_bin rfl rfl (fun w=>lssI w s2.1 16)) ?_
     refine TL_nil (TX_next (TCd H (fun hc H=>?_) (fun hc H=>?_)))
     ·refine TC_skip (TX_next (TC_seq (TC_block (TC_region (TVm ?_)))))
      refine TVm ?_
      refine TVm ?_
      refine TLv (V_bin rfl rfl (fun w=>remI w s2.1 4 (by decide))) ?_
      refine TLv (V_bin rfl rfl (fun w=>mulI w 4 (s2.1.tmod 4))) ?_
      refine TLv (V_bin rfl rfl (fun w=>addI w s2.1 (w64 (4 * (s2.1.tmod 4))))) ?_
      refine TLv (V_bin rfl rfl (fun w=>remI w (w64 (s2.1+(w64 (4 * (s2.1.tmod 4))))) 16 (by decide))) ?_
      obtain ⟨h5,H⟩:=if_elim H
      refine TLv (V_idxArr (i:=(w64 (s2.1+(w64 (4 * (s2.1.tmod 4))))).tmod 16) rfl rfl underlying171 inf5 rfl h5.1 h5.2 (k:=((w64 (s2.1+(w64 (4 * (s2.1.tmod 4))))).tmod 16).toNat) (k01 _)) ?_
      refine TLv (V_load rfl (.o 0) (get_vec (f:=v8) (V:=s1.2) (toNat_lt h5.1 h5.2)) isAgg5) ?_
      obtain ⟨h6,H⟩:=if_elim H
      refine TLv (V_idxStr rfl rfl (i:=((vg s1.2 (((w64 (s2.1+(w64 (4 * (s2.1.tmod 4))))).tmod 16).toNat)).toNat:Int)) underlying9 h6.1 h6.2) ?_
      obtain ⟨h7,H⟩:=if_elim H
      refine TLv (V_idxArr (i:=s2.1) rfl rfl underlying171 inf5 rfl h7.1 h7.2 (k:=(s2.1).toNat) (k01 _)) ?_
      refine TLn (E_store (j:=1) rfl rfl inf5 rfl rfl rfl (by simpa using (toNat_lt h7.1 h7.2)) (cs':=e8 ((vp s2.2 ((s2.1).toNat) (sg halberdref4_cipher.k1 ((vg s1.2 (((w64 (s2.1+(w64 (4 * (s2.1.tmod 4))))).tmod 16).toNat)).toNat:Int))).toList)) set_vec) (fun _=>?_)
      obtain ⟨m_2,hm_2,H⟩:=ltt_elim H
      refine TL_reE (j:=1) (A:=some (b2,0)) (cs:=e8 ((vp s2.2 ((s2.1).toNat) (sg halberdref4_cipher.k1 ((vg s1.2 (((w64 (s2.1+(w64 (4 * (s2.1.tmod 4))))).tmod 16).toNat)).toNat:Int))).toList)) (cs':=e8 m_2.toList) rfl (congrArg (fun z:Vx 8 16=>e8 (Vector.toList z)) hm_2) ?_
      refine TL_nil (TX_block_normal (TX_next (TC_region (TVm ?_))))
      refine TLv (V_bin rfl rfl (fun w=>addI w s2.1 1)) ?_
      refine TVa ?_
      obtain ⟨i2,hi2,H⟩:=ltt_elim H
      refine TLr 10 (congrArg vi hi2) ?_
      refine TL_nil ?_
      obtain rfl:=sj H
      exact TXk [0,0] (hK (i2,m_2) rfl ())
     ·refine TC_exit (TX_then_exit (TX_then_exit ?_))
      obtain rfl:=sj H
      exact TXj [0,0] (hE s2.2 rfl ())
    ·intro g
     refine TX_block_exit (TX_next (TC_seq (TC_seq (TC_region (TVm ?_)))))
     refine TVm ?_
     refine TLv (V_bin rfl rfl (fun w=>lssI w s1.1 rounds1)) ?_
     refine TL_nil (TX_next ?_)
     obtain ⟨j1,Hj,H⟩:=bind_elim H
     refine TC_join (Γ:=Unit) (fun gj1=>[(0,sl Aw_ ((w_).length) cw_),(5,ptr (some (b1,0)) 0),(7,vi rounds1),(8,vi s1.1),(9,ptr (some (b2,0)) 0)]) (fun gj1=>[⟨some (b1,0),e8 s1.2.toList⟩,⟨some (b2,0),e8 j1.toList⟩]) ?_ ?_
     ·intro gj1
      refine TX_next (TC_seq (TC_region (TVa ?_)))
      refine TL_nil (TX_next (TC_block ?_))
      obtain ⟨t_4,Hl,H⟩:=bind_elim H
      refine TC.sub (m':=[(0,_),(5,_),(7,_),(8,_),(9,_),(15,_)]) ⟨rfl,rfl,rfl,rfl,rfl,rfl,trivial⟩ ?_
      refine TC.pull (is:=[0,0]) (L':=[_,_]) rfl ?_
      refine TC_loopL (id:=10) (body:=(halberdref4_cipher.b3 w_ s1 j1)) (σ:=Int × Vx 8 16) (Γ:=Unit) (Γx:=Unit) (fun s3 g3_=>[(0,sl Aw_ ((w_).length) cw_),(5,ptr (some (b1,0)) 0),(7,vi rounds1),(8,vi s1.1),(9,ptr (some (b2,0)) 0),(15,vi s3.1)]) (fun s3 g3_=>[⟨some (b1,0),e8 s3.2.toList⟩,⟨some (b2,0),e8 j1.toList⟩]) (fun t g=>[(0,sl Aw_ ((w_).length) cw_),(5,ptr (some (b1,0)) 0),(7,vi rounds1),(8,vi s1.1)]) (fun t g=>[⟨some (b1,0),e8 t.toList⟩]) ?_ BIG (0,s1.2) () t_4 Hl ?_
      ·intro s3 g3_ r1 H K hK hE
       unfold halberdref4_cipher.b3 at H
       refine TC_seq (TC_seq (TC_region (TVm ?_)))
       refine TLv (V_bin rfl rfl (fun w=>lssI w s3.1 16)) ?_
       refine TL_nil (TX_next (TCd H (fun hc H=>?_) (fun hc H=>?_)))
       ·refine TC_skip (TX_next (TC_seq (TC_block ?_)))
        obtain ⟨h8,H⟩:=if_elim H
        obtain ⟨h9,H⟩:=if_elim H
        obtain ⟨h10,H⟩:=if_elim H
        obtain ⟨h11,H⟩:=if_elim H
        obtain ⟨m_3,hm_3,H⟩:=ltt_elim H
        refine TA_begin [] 18 (by kernel_rfl) (N:=18) rfl ?_
        refine TA_mix (is:=[]) (done':=dn 18 131071) [itV 0 136 (vi s3.1) [],itV 1 137 (vi s3.1) [],itV 2 138 (ptr (some (b2,0)) ((s3.1).toNat)) [1],itV 3 139 (v8 (vg j1 ((s3.1).toNat))) [2],itV 4 140 (sl Aw_ ((w_).length) cw_) [],itV 5 141 (vi s1.1) [],itV 6 142 (vi (w64 (4 * s1.1))) [5],itV 7 143 (vi s3.1) [],itV 8 144 (vi (w64 (s3.1.tdiv 4))) [7],itV 9 145 (vi (w64 ((w64 (4 * s1.1))+(w64 (s3.1.tdiv 4))))) [8,6],itV 10 146 (vi s3.1) [],itV 11 147 (vi (s3.1.tmod 4)) [10],itV 12 148 (ptr Aw_ (((w64 ((w64 (4 * s1.1))+(w64 (s3.1.tdiv 4)))).toNat) * 4)) [9,4],itV 13 149 (ptr Aw_ (((w64 ((w64 (4 * s1.1))+(w64 (s3.1.tdiv 4)))).toNat) * 4+(s3.1.tmod 4).toNat)) [11,12],itV 14 150 (v8 (vg (lg w_ ((w64 ((w64 (4 * s1.1))+(w64 (s3.1.tdiv 4)))).toNat)) ((s3.1.tmod 4).toNat))) [13],itV 15 151 (v8 ((vg j1 ((s3.1).toNat)) ^^^ (vg (lg w_ ((w64 ((w64 (4 * s1.1))+(w64 (s3.1.tdiv 4)))).toNat)) ((s3.1.tmod 4).toNat)))) [3,14],itV 16 152 (ptr (some (b1,0)) ((s3.1).toNat)) [0]] [] 1 (by kernel_rfl) (QP.block (QP.then (QP.then (QP.block (QP.block (QP.then (QP.then (QP.block (QP.then QP.body))))))))) (by kernel_rfl) rfl (.v rfl (V_move rfl) (.v rfl (V_move rfl) (.v rfl (V_idxArr (i:=s3.1) rfl rfl underlying171 inf5 rfl h8.1 h8.2 (k:=(s3.1).toNat) (k01 _)) (.v rfl (V_load rfl (.o 1) (get_vec (f:=v8) (V:=j1) (toNat_lt h8.1 h8.2)) isAgg5) (.v rfl (V_move rfl) (.v rfl (V_move rfl) (.v rfl (V_bin rfl rfl (fun w=>mulI w 4 s1.1)) (.v rfl (V_move rfl) (.v rfl (V_bin rfl rfl (fun w=>quoI w s3.1 4 (by decide))) (.v rfl (V_bin rfl rfl (fun w=>addI w (w64 (4 * s1.1)) (w64 (s3.1.tdiv 4)))) (.v rfl (V_move rfl) (.v rfl (V_bin rfl rfl (fun w=>remI w s3.1 4 (by decide))) (.v rfl (V_idxSlS (i:=w64 ((w64 (4 * s1.1))+(w64 (s3.1.tdiv 4)))) rfl rfl underlying127 inf147 rfl (.r 0) (eF_ne2 (s:=4) (fun _=>by simp) rfl (toNat_lt h9.1 h9.2)) h9.1 h9.2 (k:=((w64 ((w64 (4 * s1.1))+(w64 (s3.1.tdiv 4)))).toNat) * 4) rfl) (.v rfl (V_idxArr (i:=s3.1.tmod 4) rfl rfl underlying147 inf5 rfl h10.1 h10.2 (k:=((w64 ((w64 (4 * s1.1))+(w64 (s3.1.tdiv 4)))).toNat) * 4+(s3.1.tmod 4).toNat) (k1 _ _)) (.v rfl (V_load rfl (.r 0) ((get_eF (g:=fun V:Vx 8 4=>e8 V.toList) (s:=4) (fun _=>by simp) w_ ((w64 ((w64 (4 * s1.1))+(w64 (s3.1.tdiv 4)))).toNat) ((s3.1.tmod 4).toNat) (toNat_lt h9.1 h9.2) (toNat_lt h10.1 h10.2)).trans (get_vec (toNat_lt h10.1 h10.2))) isAgg5) (.v rfl (V_bin rfl rfl (fun w=>xor8 w (vg j1 ((s3.1).toNat)) (vg (lg w_ ((w64 ((w64 (4 * s1.1))+(w64 (s3.1.tdiv 4)))).toNat)) ((s3.1.tmod 4).toNat)))) (.v rfl (V_idxArr (i:=s3.1) rfl rfl underlying171 inf5 rfl h11.1 h11.2 (k:=(s3.1).toNat) (k01 _)) .nil))))))))))))))))) .nil (by kernel_rfl) rfl (fun γ=>?_)
        refine TA_cut [(152,ptr (some (b1,0)) ((s3.1).toNat)),(151,v8 ((vg j1 ((s3.1).toNat)) ^^^ (vg (lg w_ ((w64 ((w64 (4 * s1.1))+(w64 (s3.1.tdiv 4)))).toNat)) ((s3.1.tmod 4).toNat)))),(0,sl Aw_ ((w_).length) cw_),(5,ptr (some (b1,0)) 0),(7,vi rounds1),(8,vi s1.1),(9,ptr (some (b2,0)) 0),(15,vi s3.1)] [⟨some (b1,0),e8 s3.2.toList⟩,⟨some (b2,0),e8 j1.toList⟩] ⟨rfl,rfl,rfl,rfl,rfl,rfl,rfl,rfl,trivial⟩ rfl ?_
        refine TA_all (rs:=[17]) (by kernel_rfl) rfl ?_
        refine ⟨?_,trivial⟩
        refine TO_n (is:=[]) (done':=dn 18 262143) rfl rfl rfl (by kernel_rfl) (E_store (j:=0) rfl rfl inf5 rfl rfl rfl (by simpa using (toNat_lt h11.1 h11.2)) (cs':=e8 ((vp s3.2 ((s3.1).toNat) ((vg j1 ((s3.1).toNat)) ^^^ (vg (lg w_ ((w64 ((w64 (4 * s1.1))+(w64 (s3.1.tdiv 4)))).toNat)) ((s3.1.tmod 4).toNat)))).toList)) set_vec) (fun _ _=>rfl) (fun _=>?_)
        refine TA_reE (j:=0) (A:=some (b1,0)) (cs:=e8 ((vp s3.2 ((s3.1).toNat) ((vg j1 ((s3.1).toNat)) ^^^ (vg (lg w_ ((w64 ((w64 (4 * s1.1))+(w64 (s3.1.tdiv 4)))).toNat)) ((s3.1.tmod 4).toNat)))).toList)) (cs':=e8 m_3.toList) rfl (congrArg (fun z:Vx 8 16=>e8 (Vector.toList z)) hm_3) ?_
        refine TA_done (by kernel_rfl) ?_ 0
        refine TX_block_normal (TX_next (TC_region (TVm ?_)))
        refine TLv (V_bin rfl rfl (fun w=>addI w s3.1 1)) ?_
        refine TVa ?_
        obtain ⟨i3,hi3,H⟩:=ltt_elim H
        refine TLr 15 (congrArg vi hi3) ?_
        refine TL_nil ?_
        obtain rfl:=sj H
        exact TXk [0,0] (hK (i3,m_3) rfl ())
       ·refine TC_exit (TX_then_exit (TX_then_exit ?_))
        obtain rfl:=sj H
        exact TXj [0] (hE s3.2 rfl ())
      ·intro g
       refine TX_block_exit (TX_block_normal (TX_next (TC_region (TVm ?_))))
       refine TLv (V_bin rfl rfl (fun w=>addI w s1.1 1)) ?_
       refine TVa ?_
       obtain ⟨r_1,hr_1,H⟩:=ltt_elim H
       refine TLr 8 (congrArg vi hr_1) ?_
       refine TL_nil ?_
       obtain rfl:=sj H
       exact TXk [0] (hK (r_1,t_4) rfl ())
     ·intro hJ
      replace H:=Hj
      refine TCd H (fun hc H=>?_) (fun hc H=>?_)
      ·refine TC_seq (TC_region (TVa ?_))
       refine TL_nil (TX_next (TC_block ?_))
       obtain ⟨t_5,Hl,H⟩:=bind_elim H
       refine TC.sub (m':=[(0,_),(5,_),(7,_),(8,_),(9,_),(11,_)]) ⟨rfl,rfl,rfl,rfl,rfl,rfl,trivial⟩ ?_
       refine TC.pull (is:=[0,0]) (L':=[_,_]) rfl ?_
       refine TC_loopL (id:=6) (body:=(halberdref4_cipher.b4)) (σ:=Int × Vx 8 16) (Γ:=Unit) (Γx:=Unit) (fun s4 g4_=>[(0,sl Aw_ ((w_).length) cw_),(5,ptr (some (b1,0)) 0),(7,vi rounds1),(8,vi s1.1),(9,ptr (some (b2,0)) 0),(11,vi s4.1)]) (fun s4 g4_=>[⟨some (b1,0),e8 s1.2.toList⟩,⟨some (b2,0),e8 s4.2.toList⟩]) (fun t g=>[(0,sl Aw_ ((w_).length) cw_),(5,ptr (some (b1,0)) 0),(7,vi rounds1),(8,vi s1.1),(9,ptr (some (b2,0)) 0)]) (fun t g=>[⟨some (b1,0),e8 s1.2.toList⟩,⟨some (b2,0),e8 t.toList⟩]) ?_ BIG (0,t_3) () t_5 Hl ?_
       ·intro s4 g4_ r1 H K hK hE
        unfold halberdref4_cipher.b4 at H
        refine TC_seq (TC_seq (TC_region (TVm ?_)))
        refine TLv (V_bin rfl rfl (fun w=>lssI w s4.1 16)) ?_
        refine TL_nil (TX_next (TCd H (fun hc H=>?_) (fun hc H=>?_)))
        ·refine TC_skip (TX_next (TC_seq (TC_block (TC_seq ?_))))
         obtain ⟨h12,H⟩:=if_elim H
         obtain ⟨h13,H⟩:=if_elim H
         obtain ⟨h14,H⟩:=if_elim H
         obtain ⟨h15,H⟩:=if_elim H
         obtain ⟨all1,hall1,H⟩:=ltt_elim H
         refine TA_begin [] 19 (by kernel_rfl) (N:=19) rfl ?_
         refine TA_mix (is:=[]) (done':=dn 19 262143) [itV 0 65 (vi s4.1) [],itV 1 66 (ptr (some (b2,0)) ((s4.1).toNat)) [0],itV 2 67 (v8 (vg s4.2 ((s4.1).toNat))) [1],itV 3 68 (vi s4.1) [],itV 4 69 (vi (w64 (s4.1+1))) [3],itV 5 70 (ptr (some (b2,0)) ((w64 (s4.1+1)).toNat)) [4],itV 6 71 (v8 (vg s4.2 ((w64 (s4.1+1)).toNat))) [5],itV 7 72 (v8 ((vg s4.2 ((s4.1).toNat)) ^^^ (vg s4.2 ((w64 (s4.1+1)).toNat)))) [2,6],itV 8 73 (vi s4.1) [],itV 9 74 (vi (w64 (s4.1+2))) [8],itV 10 75 (ptr (some (b2,0)) ((w64 (s4.1+2)).toNat)) [9],itV 11 76 (v8 (vg s4.2 ((w64 (s4.1+2)).toNat))) [10],itV 12 77 (v8 (((vg s4.2 ((s4.1).toNat)) ^^^ (vg s4.2 ((w64 (s4.1+1)).toNat))) ^^^ (vg s4.2 ((w64 (s4.1+2)).toNat)))) [7,11],itV 13 78 (vi s4.1) [],itV 14 79 (vi (w64 (s4.1+3))) [13],itV 15 80 (ptr (some (b2,0)) ((w64 (s4.1+3)).toNat)) [14],itV 16 81 (v8 (vg s4.2 ((w64 (s4.1+3)).toNat))) [15],itV 17 82 (v8 ((((vg s4.2 ((s4.1).toNat)) ^^^ (vg s4.2 ((w64 (s4.1+1)).toNat))) ^^^ (vg s4.2 ((w64 (s4.1+2)).toNat))) ^^^ (vg s4.2 ((w64 (s4.1+3)).toNat)))) [16,12]] [] 1 (by kernel_rfl) (QP.then (QP.block (QP.then (QP.then (QP.block (QP.then (QP.block (QP.then (QP.then (QP.block (QP.then QP.body))))))))))) (by kernel_rfl) rfl (.v rfl (V_move rfl) (.v rfl (V_idxArr (i:=s4.1) rfl rfl underlying171 inf5 rfl h12.1 h12.2 (k:=(s4.1).toNat) (k01 _)) (.v rfl (V_load rfl (.o 1) (get_vec (f:=v8) (V:=s4.2) (toNat_lt h12.1 h12.2)) isAgg5) (.v rfl (V_move rfl) (.v rfl (V_bin rfl rfl (fun w=>addI w s4.1 1)) (.v rfl (V_idxArr (i:=w64 (s4.1+1)) rfl rfl underlying171 inf5 rfl h13.1 h13.2 (k:=(w64 (s4.1+1)).toNat) (k01 _)) (.v rfl (V_load rfl (.o 1) (get_vec (f:=v8) (V:=s4.2) (toNat_lt h13.1 h13.2)) isAgg5) (.v rfl (V_bin rfl rfl (fun w=>xor8 w (vg s4.2 ((s4.1).toNat)) (vg s4.2 ((w64 (s4.1+1)).toNat)))) (.v rfl (V_move rfl) (.v rfl (V_bin rfl rfl (fun w=>addI w s4.1 2)) (.v rfl (V_idxArr (i:=w64 (s4.1+2)) rfl rfl underlying171 inf5 rfl h14.1 h14.2 (k:=(w64 (s4.1+2)).toNat) (k01 _)) (.v rfl (V_load rfl (.o 1) (get_vec (f:=v8) (V:=s4.2) (toNat_lt h14.1 h14.2)) isAgg5) (.v rfl (V_bin rfl rfl (fun w=>xor8 w ((vg s4.2 ((s4.1).toNat)) ^^^ (vg s4.2 ((w64 (s4.1+1)).toNat))) (vg s4.2 ((w64 (s4.1+2)).toNat)))) (.v rfl (V_move rfl) (.v rfl (V_bin rfl rfl (fun w=>addI w s4.1 3)) (.v rfl (V_idxArr (i:=w64 (s4.1+3)) rfl rfl underlying171 inf5 rfl h15.1 h15.2 (k:=(w64 (s4.1+3)).toNat) (k01 _)) (.v rfl (V_load rfl (.o 1) (get_vec (f:=v8) (V:=s4.2) (toNat_lt h15.1 h15.2)) isAgg5) (.v rfl (V_bin rfl rfl (fun w=>xor8 w (((vg s4.2 ((s4.1).toNat)) ^^^ (vg s4.2 ((w64 (s4.1+1)).toNat))) ^^^ (vg s4.2 ((w64 (s4.1+2)).toNat))) (vg s4.2 ((w64 (s4.1+3)).toNat)))) .nil)))))))))))))))))) .nil (by kernel_rfl) rfl (fun γ=>?_)
         refine TA_cut [(82,v8 ((((vg s4.2 ((s4.1).toNat)) ^^^ (vg s4.2 ((w64 (s4.1+1)).toNat))) ^^^ (vg s4.2 ((w64 (s4.1+2)).toNat))) ^^^ (vg s4.2 ((w64 (s4.1+3)).toNat)))),(0,sl Aw_ ((w_).length) cw_),(5,ptr (some (b1,0)) 0),(7,vi rounds1),(8,vi s1.1),(9,ptr (some (b2,0)) 0),(11,vi s4.1)] [⟨some (b1,0),e8 s1.2.toList⟩,⟨some (b2,0),e8 s4.2.toList⟩] ⟨rfl,rfl,rfl,rfl,rfl,rfl,rfl,trivial⟩ rfl ?_
         refine TA_all (rs:=[18]) (by kernel_rfl) rfl ?_
         refine ⟨?_,trivial⟩
         refine TO_v (is:=[]) (done':=dn 19 524287) rfl rfl rfl rfl (by kernel_rfl) (V_assign rfl) (fun _=>rfl) ?_
         refine TA_re (d:=12) (v:=v8 ((((vg s4.2 ((s4.1).toNat)) ^^^ (vg s4.2 ((w64 (s4.1+1)).toNat))) ^^^ (vg s4.2 ((w64 (s4.1+2)).toNat))) ^^^ (vg s4.2 ((w64 (s4.1+3)).toNat)))) (v':=v8 all1) rfl (congrArg v8 hall1) ?_
         refine TA_done (by kernel_rfl) ?_ 0
         refine TX_next (TC_seq (TC_region (TVm ?_)))
         obtain ⟨h16,H⟩:=if_elim H
         refine TLv (V_idxArr (i:=s4.1) rfl rfl underlying171 inf5 rfl h16.1 h16.2 (k:=(s4.1).toNat) (k01 _)) ?_
         refine TLv (V_load rfl (.o 1) (get_vec (f:=v8) (V:=s4.2) (toNat_lt h16.1 h16.2)) isAgg5) ?_
         refine TVa ?_
         obtain ⟨first1,hfirst1,H⟩:=ltt_elim H
         refine TLr 13 (congrArg v8 hfirst1) ?_
         refine TL_nil (TX_next (TC_seq (TC_seq (TC_region (TVa ?_)))))
         refine TL_nil (TX_next (TC_block ?_))
         obtain ⟨t_6,Hl,H⟩:=bind_elim H
         refine TC.sub (m':=[(0,_),(5,_),(7,_),(8,_),(9,_),(11,_),(12,_),(13,_),(14,_)]) ⟨rfl,rfl,rfl,rfl,rfl,rfl,rfl,rfl,rfl,trivial⟩ ?_
         refine TC.pull (is:=[0,0]) (L':=[_,_]) rfl ?_
         refine TC_loopL (id:=8) (body:=(halberdref4_cipher.b5 s4 all1)) (σ:=Int × Vx 8 16) (Γ:=Unit) (Γx:=Unit) (fun s5 g5_=>[(0,sl Aw_ ((w_).length) cw_),(5,ptr (some (b1,0)) 0),(7,vi rounds1),(8,vi s1.1),(9,ptr (some (b2,0)) 0),(11,vi s4.1),(12,v8 all1),(13,v8 first1),(14,vi s5.1)]) (fun s5 g5_=>[⟨some (b1,0),e8 s1.2.toList⟩,⟨some (b2,0),e8 s5.2.toList⟩]) (fun t g=>[(0,sl Aw_ ((w_).length) cw_),(5,ptr (some (b1,0)) 0),(7,vi rounds1),(8,vi s1.1),(9,ptr (some (b2,0)) 0),(11,vi s4.1),(12,v8 all1),(13,v8 first1)]) (fun t g=>[⟨some (b1,0),e8 s1.2.toList⟩,⟨some (b2,0),e8 t.toList⟩]) ?_ BIG (0,s4.2) () t_6 Hl ?_
         ·intro s5 g5_ r1 H K hK hE
          unfold halberdref4_cipher.b5 at H
          refine TC_seq (TC_seq (TC_region (TVm ?_)))
          refine TLv (V_bin rfl rfl (fun w=>lssI w s5.1 3)) ?_
          refine TL_nil (TX_next (TCd H (fun hc H=>?_) (fun hc H=>?_)))
          ·refine TC_skip (TX_next (TC_seq (TC_block ?_)))
           obtain ⟨h17,H⟩:=if_elim H
           obtain ⟨h18,H⟩:=if_elim H
           obtain ⟨h19,H⟩:=if_elim H
           obtain ⟨r_2,hr_2,H⟩:=bind_elim H
           obtain ⟨h20,H⟩:=if_elim H
           obtain ⟨m_4,hm_4,H⟩:=ltt_elim H
           refine TA_begin [] 26 (by kernel_rfl) (N:=26) rfl ?_
           refine TA_mix (is:=[]) (done':=dn 26 33554431) [itV 0 90 (vi s4.1) [],itV 1 91 (vi s5.1) [],itV 2 92 (vi (w64 (s4.1+s5.1))) [0,1],itV 3 93 (vi s4.1) [],itV 4 94 (vi s5.1) [],itV 5 95 (vi (w64 (s4.1+s5.1))) [3,4],itV 6 96 (ptr (some (b2,0)) ((w64 (s4.1+s5.1)).toNat)) [5],itV 7 97 (v8 (vg s5.2 ((w64 (s4.1+s5.1)).toNat))) [6],itV 8 98 (v8 all1) [],itV 9 99 (v8 ((vg s5.2 ((w64 (s4.1+s5.1)).toNat)) ^^^ all1)) [7,8],itV 10 100 (vi s4.1) [],itV 11 101 (vi s5.1) [],itV 12 102 (vi (w64 (s4.1+s5.1))) [10,11],itV 13 103 (ptr (some (b2,0)) ((w64 (s4.1+s5.1)).toNat)) [12],itV 14 104 (v8 (vg s5.2 ((w64 (s4.1+s5.1)).toNat))) [13],itV 15 105 (vi s4.1) [],itV 16 106 (vi s5.1) [],itV 17 107 (vi (w64 (s4.1+s5.1))) [15,16],itV 18 108 (vi (w64 ((w64 (s4.1+s5.1))+1))) [17],itV 19 109 (ptr (some (b2,0)) ((w64 ((w64 (s4.1+s5.1))+1)).toNat)) [18],itV 20 110 (v8 (vg s5.2 ((w64 ((w64 (s4.1+s5.1))+1)).toNat))) [19],itV 21 111 (v8 ((vg s5.2 ((w64 (s4.1+s5.1)).toNat)) ^^^ (vg s5.2 ((w64 ((w64 (s4.1+s5.1))+1)).toNat)))) [14,20],itV 22 112 (v8 r_2) [21],itV 23 113 (v8 (((vg s5.2 ((w64 (s4.1+s5.1)).toNat)) ^^^ all1) ^^^ r_2)) [22,9],itV 24 114 (ptr (some (b2,0)) ((w64 (s4.1+s5.1)).toNat)) [2]] [] 1 (by kernel_rfl) (QP.block (QP.then (QP.then (QP.block (QP.then (QP.block (QP.then (QP.then (QP.block (QP.then (QP.block (QP.then (QP.then (QP.block (QP.then QP.body))))))))))))))) (by kernel_rfl) rfl (.v rfl (V_move rfl) (.v rfl (V_move rfl) (.v rfl (V_bin rfl rfl (fun w=>addI w s4.1 s5.1)) (.v rfl (V_move rfl) (.v rfl (V_move rfl) (.v rfl (V_bin rfl rfl (fun w=>addI w s4.1 s5.1)) (.v rfl (V_idxArr (i:=w64 (s4.1+s5.1)) rfl rfl underlying171 inf5 rfl h17.1 h17.2 (k:=(w64 (s4.1+s5.1)).toNat) (k01 _)) (.v rfl (V_load rfl (.o 1) (get_vec (f:=v8) (V:=s5.2) (toNat_lt h17.1 h17.2)) isAgg5) (.v rfl (V_move rfl) (.v rfl (V_bin rfl rfl (fun w=>xor8 w (vg s5.2 ((w64 (s4.1+s5.1)).toNat)) all1)) (.v rfl (V_move rfl) (.v rfl (V_move rfl) (.v rfl (V_bin rfl rfl (fun w=>addI w s4.1 s5.1)) (.v rfl (V_idxArr (i:=w64 (s4.1+s5.1)) rfl rfl underlying171 inf5 rfl h18.1 h18.2 (k:=(w64 (s4.1+s5.1)).toNat) (k01 _)) (.v rfl (V_load rfl (.o 1) (get_vec (f:=v8) (V:=s5.2) (toNat_lt h18.1 h18.2)) isAgg5) (.v rfl (V_move rfl) (.v rfl (V_move rfl) (.v rfl (V_bin rfl rfl (fun w=>addI w s4.1 s5.1)) (.v rfl (V_bin rfl rfl (fun w=>addI w (w64 (s4.1+s5.1)) 1)) (.v rfl (V_idxArr (i:=w64 ((w64 (s4.1+s5.1))+1)) rfl rfl underlying171 inf5 rfl h19.1 h19.2 (k:=(w64 ((w64 (s4.1+s5.1))+1)).toNat) (k01 _)) (.v rfl (V_load rfl (.o 1) (get_vec (f:=v8) (V:=s5.2) (toNat_lt h19.1 h19.2)) isAgg5) (.v rfl (V_bin rfl rfl (fun w=>xor8 w (vg s5.2 ((w64 (s4.1+s5.1)).toNat)) (vg s5.2 ((w64 ((w64 (s4.1+s5.1))+1)).toNat)))) (.e rfl (E_cu (F98_calls ((vg s5.2 ((w64 (s4.1+s5.1)).toNat)) ^^^ (vg s5.2 ((w64 ((w64 (s4.1+s5.1))+1)).toNat))) r_2 hr_2) call98 .z) (.v rfl (V_bin rfl rfl (fun w=>xor8 w ((vg s5.2 ((w64 (s4.1+s5.1)).toNat)) ^^^ all1) r_2)) (.v rfl (V_idxArr (i:=w64 (s4.1+s5.1)) rfl rfl underlying171 inf5 rfl h20.1 h20.2 (k:=(w64 (s4.1+s5.1)).toNat) (k01 _)) .nil))))))))))))))))))))))))) .nil (by kernel_rfl) rfl (fun γ=>?_)
           refine TA_cut [(114,ptr (some (b2,0)) ((w64 (s4.1+s5.1)).toNat)),(113,v8 (((vg s5.2 ((w64 (s4.1+s5.1)).toNat)) ^^^ all1) ^^^ r_2)),(0,sl Aw_ ((w_).length) cw_),(5,ptr (some (b1,0)) 0),(7,vi rounds1),(8,vi s1.1),(9,ptr (some (b2,0)) 0),(11,vi s4.1),(12,v8 all1),(13,v8 first1),(14,vi s5.1)] [⟨some (b1,0),e8 s1.2.toList⟩,⟨some (b2,0),e8 s5.2.toList⟩] ⟨rfl,rfl,rfl,rfl,rfl,rfl,rfl,rfl,rfl,rfl,rfl,trivial⟩ rfl ?_
           refine TA_all (rs:=[25]) (by kernel_rfl) rfl ?_
           refine ⟨?_,trivial⟩
           refine TO_n (is:=[]) (done':=dn 26 67108863) rfl rfl rfl (by kernel_rfl) (E_store (j:=1) rfl rfl inf5 rfl rfl rfl (by simpa using (toNat_lt h20.1 h20.2)) (cs':=e8 ((vp s5.2 ((w64 (s4.1+s5.1)).toNat) (((vg s5.2 ((w64 (s4.1+s5.1)).toNat)) ^^^ all1) ^^^ r_2)).toList)) set_vec) (fun _ _=>rfl) (fun _=>?_)
           refine TA_reE (j:=1) (A:=some (b2,0)) (cs:=e8 ((vp s5.2 ((w64 (s4.1+s5.1)).toNat) (((vg s5.2 ((w64 (s4.1+s5.1)).toNat)) ^^^ all1) ^^^ r_2)).toList)) (cs':=e8 m_4.toList) rfl (congrArg (fun z:Vx 8 16=>e8 (Vector.toList z)) hm_4) ?_
           refine TA_done (by kernel_rfl) ?_ 0
           refine TX_block_normal (TX_next (TC_region (TVm ?_)))
           refine TLv (V_bin rfl rfl (fun w=>addI w s5.1 1)) ?_
           refine TVa ?_
           obtain ⟨i4,hi4,H⟩:=ltt_elim H
           refine TLr 14 (congrArg vi hi4) ?_
           refine TL_nil ?_
           obtain rfl:=sj H
           exact TXk [0,0] (hK (i4,m_4) rfl ())
          ·refine TC_exit (TX_then_exit (TX_then_exit ?_))
           obtain rfl:=sj H
           exact TXj [0,0] (hE s5.2 rfl ())
         ·intro g
          refine TX_block_exit (TX_next ?_)
          obtain ⟨h21,H⟩:=if_elim H
          obtain ⟨h22,H⟩:=if_elim H
          obtain ⟨r_3,hr_3,H⟩:=bind_elim H
          obtain ⟨h23,H⟩:=if_elim H
          obtain ⟨m_5,hm_5,H⟩:=ltt_elim H
          refine TA_begin [] 18 (by kernel_rfl) (N:=18) rfl ?_
          refine TA_mix (is:=[]) (done':=dn 18 131071) [itV 0 115 (vi s4.1) [],itV 1 116 (vi (w64 (s4.1+3))) [0],itV 2 117 (vi s4.1) [],itV 3 118 (vi (w64 (s4.1+3))) [2],itV 4 119 (ptr (some (b2,0)) ((w64 (s4.1+3)).toNat)) [3],itV 5 120 (v8 (vg t_6 ((w64 (s4.1+3)).toNat))) [4],itV 6 121 (v8 all1) [],itV 7 122 (v8 ((vg t_6 ((w64 (s4.1+3)).toNat)) ^^^ all1)) [5,6],itV 8 123 (vi s4.1) [],itV 9 124 (vi (w64 (s4.1+3))) [8],itV 10 125 (ptr (some (b2,0)) ((w64 (s4.1+3)).toNat)) [9],itV 11 126 (v8 (vg t_6 ((w64 (s4.1+3)).toNat))) [10],itV 12 127 (v8 first1) [],itV 13 128 (v8 ((vg t_6 ((w64 (s4.1+3)).toNat)) ^^^ first1)) [11,12],itV 14 129 (v8 r_3) [13],itV 15 130 (v8 (((vg t_6 ((w64 (s4.1+3)).toNat)) ^^^ all1) ^^^ r_3)) [14,7],itV 16 131 (ptr (some (b2,0)) ((w64 (s4.1+3)).toNat)) [1]] [] 1 (by kernel_rfl) (QP.block (QP.then (QP.then (QP.block (QP.then (QP.block (QP.then (QP.then (QP.block (QP.then QP.body)))))))))) (by kernel_rfl) rfl (.v rfl (V_move rfl) (.v rfl (V_bin rfl rfl (fun w=>addI w s4.1 3)) (.v rfl (V_move rfl) (.v rfl (V_bin rfl rfl (fun w=>addI w s4.1 3)) (.v rfl (V_idxArr (i:=w64 (s4.1+3)) rfl rfl underlying171 inf5 rfl h21.1 h21.2 (k:=(w64 (s4.1+3)).toNat) (k01 _)) (.v rfl (V_load rfl (.o 1) (get_vec (f:=v8) (V:=t_6) (toNat_lt h21.1 h21.2)) isAgg5) (.v rfl (V_move rfl) (.v rfl (V_bin rfl rfl (fun w=>xor8 w (vg t_6 ((w64 (s4.1+3)).toNat)) all1)) (.v rfl (V_move rfl) (.v rfl (V_bin rfl rfl (fun w=>addI w s4.1 3)) (.v rfl (V_idxArr (i:=w64 (s4.1+3)) rfl rfl underlying171 inf5 rfl h22.1 h22.2 (k:=(w64 (s4.1+3)).toNat) (k01 _)) (.v rfl (V_load rfl (.o 1) (get_vec (f:=v8) (V:=t_6) (toNat_lt h22.1 h22.2)) isAgg5) (.v rfl (V_move rfl) (.v rfl (V_bin rfl rfl (fun w=>xor8 w (vg t_6 ((w64 (s4.1+3)).toNat)) first1)) (.e rfl (E_cu (F98_calls ((vg t_6 ((w64 (s4.1+3)).toNat)) ^^^ first1) r_3 hr_3) call98 .z) (.v rfl (V_bin rfl rfl (fun w=>xor8 w ((vg t_6 ((w64 (s4.1+3)).toNat)) ^^^ all1) r_3)) (.v rfl (V_idxArr (i:=w64 (s4.1+3)) rfl rfl underlying171 inf5 rfl h23.1 h23.2 (k:=(w64 (s4.1+3)).toNat) (k01 _)) .nil))))))))))))))))) .nil (by kernel_rfl) rfl (fun γ=>?_)
          refine TA_cut [(131,ptr (some (b2,0)) ((w64 (s4.1+3)).toNat)),(130,v8 (((vg t_6 ((w64 (s4.1+3)).toNat)) ^^^ all1) ^^^ r_3)),(0,sl Aw_ ((w_).length) cw_),(5,ptr (some (b1,0)) 0),(7,vi rounds1),(8,vi s1.1),(9,ptr (some (b2,0)) 0),(11,vi s4.1)] [⟨some (b1,0),e8 s1.2.toList⟩,⟨some (b2,0),e8 t_6.toList⟩] ⟨rfl,rfl,rfl,rfl,rfl,rfl,rfl,rfl,trivial⟩ rfl ?_
          refine TA_all (rs:=[17]) (by kernel_rfl) rfl ?_
          refine ⟨?_,trivial⟩
          refine TO_n (is:=[]) (done':=dn 18 262143) rfl rfl rfl (by kernel_rfl) (E_store (j:=1) rfl rfl inf5 rfl rfl rfl (by simpa using (toNat_lt h23.1 h23.2)) (cs':=e8 ((vp t_6 ((w64 (s4.1+3)).toNat) (((vg t_6 ((w64 (s4.1+3)).toNat)) ^^^ all1) ^^^ r_3)).toList)) set_vec) (fun _ _=>rfl) (fun _=>?_)
          refine TA_reE (j:=1) (A:=some (b2,0)) (cs:=e8 ((vp t_6 ((w64 (s4.1+3)).toNat) (((vg t_6 ((w64 (s4.1+3)).toNat)) ^^^ all1) ^^^ r_3)).toList)) (cs':=e8 m_5.toList) rfl (congrArg (fun z:Vx 8 16=>e8 (Vector.toList z)) hm_5) ?_
          refine TA_done (by kernel_rfl) ?_ 0
          refine TX_block_normal (TX_next (TC_region (TVm ?_)))
          refine TLv (V_bin rfl rfl (fun w=>addI w s4.1 4)) ?_
          refine TVa ?_
          obtain ⟨c1,hc1,H⟩:=ltt_elim H
          refine TLr 11 (congrArg vi hc1) ?_
          refine TL_nil ?_
          obtain rfl:=sj H
          exact TXk [0,0] (hK (c1,m_5) rfl ())
        ·refine TC_exit (TX_then_exit (TX_then_exit ?_))
         obtain rfl:=sj H
         exact TXj [0,0] (hE s4.2 rfl ())
       ·intro g
        refine TX_block_exit ?_
        obtain rfl:=sj H
        exact TXj [0,0] (hJ ())
      ·refine TC_skip ?_
       obtain rfl:=sj H
       exact TXj [0,0] (hJ ())
   ·refine TC_exit (TX_then_exit (TX_then_exit ?_))
    obtain rfl:=sj H
    exact TXj [0] (hE s1.2 rfl ())
  ·intro g
   refine TX_block_exit (TX_next (TC_seq (TC_region (TLv (V_sliceArr0 rfl (by simp) underlying171 inf5 rfl) ?_))))
   refine TLv (V_b2s rfl underlying86 underlying5 underlying9 (.o 0) (by simp)) ?_
   refine TVa ?_
   refine TL_nil (TX_next (TC_ret ?_))
   obtain rfl:=sj H
   exact TX1
end Go.Proofs
end

section
namespace Go.Proofs
open Go Go.Kx
open TryzI Tryz
def halberdref4_filled (s_:Str):Option (Str) :=
 if 0≤(w64 (16 - (((s_).length:Int).tmod 16))).tmod 16∧(w64 (16 - (((s_).length:Int).tmod 16))).tmod 16≤17592186044416 then (if (List.replicate (((w64 (16 - (((s_).length:Int).tmod 16))).tmod 16).toNat) 0#8).length=((w64 (16 - (((s_).length:Int).tmod 16))).tmod 16).toNat then (if (s_).length+(List.replicate (((w64 (16 - (((s_).length:Int).tmod 16))).tmod 16).toNat) 0#8).length≤4611686018427387904 then (ltt (s_++(List.replicate (((w64 (16 - (((s_).length:Int).tmod 16))).tmod 16).toNat) 0#8)) fun (x1:Str)=>(some x1)) else none) else none) else none
set_option maxHeartbeats 4000000 in
set_option maxRecDepth 20000 in
theorem F101_calls (s_:Str) (r:Str) (H:halberdref4_filled s_=some r) :
  Does Tryz.prog 101 [vs s_] [] [] (Γ:=Unit) (fun g=>vs r) (fun g=>[]):=by
 intro w hmem hro hd
 refine calls_of (N:=12) (m0:=[(0,vs s_)]) func101 rfl ntmps101 (argM_ok [vs s_]) rfl hmem hro hd ?_
 unfold halberdref4_filled at H
 refine TC_seq (TC_region (TVa ?_))
 refine TL_nil (TX_next (TC_seq (TC_region (TVm ?_))))
 refine TVm ?_
 refine TLv (V_len_str rfl underlying9) ?_
 refine TLv (V_bin rfl rfl (fun w=>remI w ((s_).length:Int) 16 (by decide))) ?_
 refine TLv (V_bin rfl rfl (fun w=>subI w 16 (((s_).length:Int).tmod 16))) ?_
 refine TLv (V_bin rfl rfl (fun w=>remI w (w64 (16 - (((s_).length:Int).tmod 16))) 16 (by decide))) ?_
 obtain ⟨h1,H⟩:=if_elim H
 refine TLe (E_mk1 rfl rfl underlying86 inf5 (z:=v8 0#8) rfl rfl rfl (B:=1) rfl h1.1 (Int.le_refl _) (mk_b 1 rfl h1) (mk_c h1) (n':=((w64 (16 - (((s_).length:Int).tmod 16))).tmod 16).toNat) (c':=((w64 (16 - (((s_).length:Int).tmod 16))).tmod 16).toNat) rfl rfl (cs:=e8 (List.replicate (((w64 (16 - (((s_).length:Int).tmod 16))).tmod 16).toNat) 0#8)) (rep_map (f:=v8))) (fun b1=>?_)
 obtain ⟨h2,H⟩:=if_elim H
 refine TLv (V_b2s rfl underlying86 underlying5 underlying9 (.o 0) h2) ?_
 obtain ⟨h3,H⟩:=if_elim H
 refine TLv (V_bin rfl rfl (fun w=>addS w s_ (List.replicate (((w64 (16 - (((s_).length:Int).tmod 16))).tmod 16).toNat) 0#8) h3)) ?_
 refine TVa ?_
 obtain ⟨x1,hx1,H⟩:=ltt_elim H
 refine TLr 2 (congrArg vs hx1) ?_
 refine TL_nil (TX_next (TC_ret ?_))
 obtain rfl:=sj H
 exact TX1
end Go.Proofs
end

section
namespace Go.Proofs
open Go Go.Kx
open TryzI Tryz
def halberdref4_halves.b0 (s_:Str) (s0:BitVec 64 × BitVec 64 × Int):Option ((BitVec 64 × BitVec 64 × Int) ⊕ (BitVec 64 × BitVec 64)) :=
 if s0.2.2<8 then (if 0≤s0.2.2∧s0.2.2<((s_).length:Int) then (ltt ((s0.1 <<< 8) ||| ((sg s_ s0.2.2).setWidth 64)) fun (a_1:BitVec 64)=>(if 0≤w64 (8+s0.2.2)∧w64 (8+s0.2.2)<((s_).length:Int) then (ltt ((s0.2.1 <<< 8) ||| ((sg s_ (w64 (8+s0.2.2))).setWidth 64)) fun (b1:BitVec 64)=>(ltt (w64 (s0.2.2+1)) fun (i1:Int)=>(some (.inl (a_1,b1,i1))))) else none)) else none) else (some (.inr (s0.1,s0.2.1)))
def halberdref4_halves (s_:Str):Option (BitVec 64 × BitVec 64) :=
 (loop (halberdref4_halves.b0 s_) BIG (0#64,0#64,0)).bind fun (t_1:BitVec 64 × BitVec 64)=>(some (t_1.1,t_1.2))
set_option maxHeartbeats 4000000 in
set_option maxRecDepth 20000 in
theorem F116_calls (s_:Str) (r:BitVec 64 × BitVec 64) (H:halberdref4_halves s_=some r) :
  Does Tryz.prog 116 [vs s_] [] [] (Γ:=Unit) (fun g=>Value.tuple [v64 r.1,v64 r.2].toArray) (fun g=>[]):=by
 intro w hmem hro hd
 refine calls_of (N:=28) (m0:=[(0,vs s_)]) func116 rfl ntmps116 (argM_ok [vs s_]) rfl hmem hro hd ?_
 unfold halberdref4_halves at H
 refine TC_seq (TC_region (TVa ?_))
 refine TVa ?_
 refine TL_nil (TX_next (TC_seq (TC_region (TVa ?_))))
 refine TVa ?_
 refine TL_nil (TX_next (TC_seq (TC_seq (TC_region (TVa ?_)))))
 refine TL_nil (TX_next (TC_block ?_))
 obtain ⟨t_1,Hl,H⟩:=bind_elim H
 refine TC.sub (m':=[(0,_),(4,_),(5,_),(6,_)]) ⟨rfl,rfl,rfl,rfl,trivial⟩ ?_
 refine TC.pull (is:=[]) (L':=[]) rfl ?_
 refine TC_loopL (id:=0) (body:=(halberdref4_halves.b0 s_)) (σ:=BitVec 64 × BitVec 64 × Int) (Γ:=Unit) (Γx:=Unit) (fun s0 g0_=>[(0,vs s_),(4,v64 s0.1),(5,v64 s0.2.1),(6,vi s0.2.2)]) (fun s0 g0_=>[]) (fun t g=>[(4,v64 t.1),(5,v64 t.2)]) (fun t g=>[]) ?_ BIG (0#64,0#64,0) () t_1 Hl ?_
 ·intro s0 g0_ r1 H K hK hE
  unfold halberdref4_halves.b0 at H
  refine TC_seq (TC_seq (TC_region (TVm ?_)))
  refine TLv (V_bin rfl rfl (fun w=>lssI w s0.2.2 8)) ?_
  refine TL_nil (TX_next (TCd H (fun hc H=>?_) (fun hc H=>?_)))
  ·refine TC_skip (TX_next (TC_seq (TC_block (TC_seq (TC_region (TVm ?_))))))
   refine TLv (V_bin rfl rfl (fun w=>shl64 w s0.1 .u64 8 (by decide))) ?_
   refine TVm ?_
   refine TVm ?_
   obtain ⟨h1,H⟩:=if_elim H
   refine TLv (V_idxStr rfl rfl (i:=s0.2.2) underlying9 h1.1 h1.2) ?_
   refine TLv (V_conv rfl (fun w=>cv8to64 w _ _ underlying115 (und5) (sg s_ s0.2.2))) ?_
   refine TLv (V_bin rfl rfl (fun w=>or64 w (s0.1 <<< 8) ((sg s_ s0.2.2).setWidth 64))) ?_
   refine TVa ?_
   obtain ⟨a_1,ha_1,H⟩:=ltt_elim H
   refine TLr 4 (congrArg v64 ha_1) ?_
   refine TL_nil (TX_next (TC_region (TVm ?_)))
   refine TLv (V_bin rfl rfl (fun w=>shl64 w s0.2.1 .u64 8 (by decide))) ?_
   refine TVm ?_
   refine TVm ?_
   refine TLv (V_bin rfl rfl (fun w=>addI w 8 s0.2.2)) ?_
   obtain ⟨h2,H⟩:=if_elim H
   refine TLv (V_idxStr rfl rfl (i:=w64 (8+s0.2.2)) underlying9 h2.1 h2.2) ?_
   refine TLv (V_conv rfl (fun w=>cv8to64 w _ _ underlying115 (und5) (sg s_ (w64 (8+s0.2.2))))) ?_
   refine TLv (V_bin rfl rfl (fun w=>or64 w (s0.2.1 <<< 8) ((sg s_ (w64 (8+s0.2.2))).setWidth 64))) ?_
   refine TVa ?_
   obtain ⟨b1,hb1,H⟩:=ltt_elim H
   refine TLr 5 (congrArg v64 hb1) ?_
   refine TL_nil (TX_block_normal (TX_next (TC_region (TVm ?_))))
   refine TLv (V_bin rfl rfl (fun w=>addI w s0.2.2 1)) ?_
   refine TVa ?_
   obtain ⟨i1,hi1,H⟩:=ltt_elim H
   refine TLr 6 (congrArg vi hi1) ?_
   refine TL_nil ?_
   obtain rfl:=sj H
   exact TXk [] (hK (a_1,b1,i1) rfl ())
  ·refine TC_exit (TX_then_exit (TX_then_exit ?_))
   obtain rfl:=sj H
   exact TXj [] (hE (s0.1,s0.2.1) rfl ())
 ·intro g
  refine TX_block_exit (TX_next (TC_seq (TC_region (TVm ?_))))
  refine TVm ?_
  refine TVa ?_
  refine TVa ?_
  refine TL_nil (TX_next (TC_ret ?_))
  obtain rfl:=sj H
  exact TX2
end Go.Proofs
end

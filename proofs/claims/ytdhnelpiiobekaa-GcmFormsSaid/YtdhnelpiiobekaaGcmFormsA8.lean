/-
  Part 8 of the proof of GcmForms.
-/
import Derived.SizedLaws
import Derived.ChangeSlices
import Derived.SliceStrings
import Derived.WideShapes
import Derived.ChangeShapes
import Derived.Test.YtdhnelpiiobekaaGcmFormsA1
import Derived.Test.YtdhnelpiiobekaaGcmFormsA2
import Derived.Test.YtdhnelpiiobekaaGcmFormsA3
import Derived.Test.YtdhnelpiiobekaaGcmFormsA4
import Derived.Test.YtdhnelpiiobekaaGcmFormsA5
import Derived.Test.YtdhnelpiiobekaaGcmFormsA6
import Derived.Test.YtdhnelpiiobekaaGcmFormsA7
set_option linter.unusedVariables false
set_option linter.unusedSimpArgs false
section
namespace Go.Proofs
open Go Go.Kx
open TryI Try
def halberdlaw5_GcmForms (key:Int) (nonce:Int) (blocks:Int) (more:Int):Option (Bool) :=
 (halberdlaw5_awake).bind fun (r_1:Bool)=>(if (!r_1)=true then (some false) else (ltt (iop (· &&& ·) key 63) fun (k_1:Int)=>(ltt (iop (· &&& ·) nonce 15) fun (m_1:Int)=>((if k_1=16 then (ltt (decide (m_1=12)) fun (fine1:Bool)=>(some fine1)) else (if k_1=32 then (ltt (decide (m_1=12)) fun (fine2:Bool)=>(some fine2)) else (some false))).bind fun (j1:Bool)=>(if 0≤k_1∧k_1≤17592186044416 then (if (List.replicate ((k_1).toNat) 0#8).length=(k_1).toNat then (if 0≤m_1∧m_1≤17592186044416 then (if (List.replicate ((m_1).toNat) 0#8).length=(m_1).toNat then ((gcm_Seal (List.replicate ((k_1).toNat) 0#8) (List.replicate ((m_1).toNat) 0#8) ([]:Str) ([97#8]:Str)).bind fun (r_2:Str × Int)=>(if 0≤k_1∧k_1≤17592186044416 then (if (List.replicate ((k_1).toNat) 0#8).length=(k_1).toNat then (if 0≤m_1∧m_1≤17592186044416 then (if (List.replicate ((m_1).toNat) 0#8).length=(m_1).toNat then (if 0≤iop (· &&& ·) more 15∧iop (· &&& ·) more 15≤17592186044416 then (if (List.replicate ((iop (· &&& ·) more 15).toNat) 0#8).length=(iop (· &&& ·) more 15).toNat then ((gcm_Open (List.replicate ((k_1).toNat) 0#8) (List.replicate ((m_1).toNat) 0#8) ([]:Str) (List.replicate ((iop (· &&& ·) more 15).toNat) 0#8)).bind fun (r_3:Str × Int)=>(ltt (iop (· &&& ·) blocks 127) fun (b6:Int)=>(if 0≤w64 (14+(iop (· &&& ·) more 3))∧w64 (14+(iop (· &&& ·) more 3))≤17592186044416 then (if (List.replicate ((w64 (14+(iop (· &&& ·) more 3))).toNat) 0#8).length=(w64 (14+(iop (· &&& ·) more 3))).toNat then (if 0≤b6∧b6≤17592186044416 then (if (List.replicate ((b6).toNat) 0#8).length=(b6).toNat then ((gcm_Hash (List.replicate ((w64 (14+(iop (· &&& ·) more 3))).toNat) 0#8) (List.replicate ((b6).toNat) 0#8)).bind fun (r_4:Str × Int)=>((if (iop (· &&& ·) more 3)=2 then (ltt (decide ((b6.tmod 16)=0)) fun (ok1:Bool)=>(some ok1)) else (some false)).bind fun (j2:Bool)=>(if (List.replicate 16 0#8).length=16 then (ltt (List.replicate 16 0#8) fun (z1:Str)=>(if 12≤(z1).length then (ltt (65537) fun (big1:Nat)=>(if (List.replicate big1 0#8).length=big1 then ((gcm_Seal z1 (sub z1 0 12) (List.replicate big1 0#8) ([]:Str)).bind fun (r_5:Str × Int)=>(if 12≤(z1).length then (ltt (65537) fun (big2:Nat)=>(if (List.replicate big2 0#8).length=big2 then ((gcm_Seal z1 (sub z1 0 12) ([]:Str) (List.replicate big2 0#8)).bind fun (r_6:Str × Int)=>((if j1=true then (some 501) else (some 500)).bind fun (j3:Int)=>((halberdlaw0_Num r_2.2).bind fun (r_7:Int)=>(if ((decide (r_7=0)) == j1)=true then ((halberdlaw0_Num r_3.2).bind fun (r_8:Int)=>(if r_8=j3 then ((halberdlaw0_Num r_4.2).bind fun (r_9:Int)=>(if ((decide (r_9=0)) == j2)=true then (if (!j2)=true then ((halberdlaw0_Num r_5.2).bind fun (r_10:Int)=>(if r_10=500 then ((halberdlaw0_Num r_6.2).bind fun (r_11:Int)=>(ltt (decide (r_11=500)) fun (x1:Bool)=>(some x1))) else (some false))) else (if r_4.1=z1 then ((halberdlaw0_Num r_5.2).bind fun (r_12:Int)=>(if r_12=500 then ((halberdlaw0_Num r_6.2).bind fun (r_13:Int)=>(ltt (decide (r_13=500)) fun (x2:Bool)=>(some x2))) else (some false))) else (some false))) else (some false))) else (some false))) else (some false))))) else none)) else none)) else none)) else none)) else none))) else none) else none) else none) else none))) else none) else none) else none) else none) else none) else none)) else none) else none) else none) else none)))))
set_option maxHeartbeats 4000000 in
set_option maxRecDepth 20000 in
theorem F5_calls (key:Int) (nonce:Int) (blocks:Int) (more:Int) (r:Bool) (H:halberdlaw5_GcmForms key nonce blocks more=some r) :
  Does Try.prog 5 [vi key,vi nonce,vi blocks,vi more] [] [] (Γ:=Unit) (fun g=>vb r) (fun g=>[]):=by
 intro w hmem hro hd
 refine calls_of (N:=146) (m0:=[(0,vi key),(1,vi nonce),(2,vi blocks),(3,vi more)]) func5 rfl ntmps5 (argM_ok [vi key,vi nonce,vi blocks,vi more]) rfl hmem hro hd ?_
 unfold halberdlaw5_GcmForms at H
 refine TC_seq (TC_region (TVa ?_))
 refine TL_nil (TX_next (TC_seq (TC_seq (TC_region ?_))))
 obtain ⟨r_1,hr_1,H⟩:=bind_elim H
 refine TLe (E_c0 (F16_calls r_1 hr_1) call16 .z) (fun g_1=>?_)
 refine TLv (V_un rfl (fun w=>notB w r_1)) ?_
 refine TL_nil (TX_next (TCb H (fun hc H=>?_) (fun hc H=>?_)))
 ·refine TC_seq (TC_region (TVa ?_))
  refine TL_nil (TX_next (TC_ret (TX_then_ret ?_)))
  obtain rfl:=sj H
  exact TX1
 ·refine TC_skip (TX_next (TC_seq (TC_region (TVm ?_))))
  refine TLv (V_bin rfl rfl (fun w=>andI w key 63)) ?_
  refine TVm ?_
  refine TLv (V_bin rfl rfl (fun w=>andI w nonce 15)) ?_
  refine TVa ?_
  obtain ⟨k_1,hk_1,H⟩:=ltt_elim H
  refine TLr 9 (congrArg vi hk_1) ?_
  refine TVa ?_
  obtain ⟨m_1,hm_1,H⟩:=ltt_elim H
  refine TLr 10 (congrArg vi hm_1) ?_
  refine TL_nil (TX_next (TC_seq (TC_region (TVm ?_))))
  refine TLv (V_bin rfl rfl (fun w=>eqlI w k_1 16)) ?_
  refine TVm ?_
  obtain ⟨j1,Hj,H⟩:=bind_elim H
  refine TL_join (Γ:=Unit) (fun gj1=>[(2,vi blocks),(3,vi more),(9,vi k_1),(10,vi m_1),(11,vb j1)]) (fun gj1=>[]) ?_ ?_
  ·intro gj1
   refine TX_next (TC_seq ?_)
   obtain ⟨h1,H⟩:=if_elim H
   obtain ⟨h2,H⟩:=if_elim H
   obtain ⟨h3,H⟩:=if_elim H
   obtain ⟨h4,H⟩:=if_elim H
   obtain ⟨r_2,hr_2,H⟩:=bind_elim H
   refine TA_begin [] 12 (by kernel_rfl) (N:=12) rfl ?_
   refine TA_mix (is:=[]) (done':=dn 12 4095) [itV 0 43 (vi k_1) [],⟨1,44,fun b1=>sl (some (b1,0)) ((k_1).toNat) ((k_1).toNat),fun b1=>[⟨some (b1,0),e8 (List.replicate ((k_1).toNat) 0#8)⟩],[0],none⟩,⟨2,45,fun _=>vs (List.replicate ((k_1).toNat) 0#8),fun _=>[],[1],some 1⟩,itV 3 46 (vi m_1) [],⟨4,47,fun b2=>sl (some (b2,0)) ((m_1).toNat) ((m_1).toNat),fun b2=>[⟨some (b2,0),e8 (List.replicate ((m_1).toNat) 0#8)⟩],[3],none⟩,⟨5,48,fun _=>vs (List.replicate ((m_1).toNat) 0#8),fun _=>[],[4],some 4⟩,itV 6 49 (Value.tuple [vs r_2.1,vi r_2.2].toArray) [5,2],itV 7 42 (Value.tuple [vs r_2.1,vi r_2.2].toArray) [6],itV 8 50 (vs r_2.1) [7],itV 9 51 (vi r_2.2) [7],itV 10 12 (vs r_2.1) [8],itV 11 13 (vi r_2.2) [9]] [] 0 (by kernel_rfl) (QP.then QP.body) (by kernel_rfl) rfl (.v rfl (V_move rfl) (.c rfl (fun _ _=>(E_mk1 rfl rfl underlying33 inf5 (z:=v8 0#8) rfl rfl rfl (B:=1) rfl h1.1 (Int.le_refl _) (mk_b 1 rfl h1) (mk_c h1) (n':=(k_1).toNat) (c':=(k_1).toNat) rfl rfl (cs:=e8 (List.replicate ((k_1).toNat) 0#8)) (rep_map (f:=v8)))) (.c rfl (fun _ _=>OpE_v (V_b2s rfl underlying33 underlying5 underlying9 (.o 0) h2)) (.v rfl (V_move rfl) (.c rfl (fun _ _=>(E_mk1 rfl rfl underlying33 inf5 (z:=v8 0#8) rfl rfl rfl (B:=1) rfl h3.1 (Int.le_refl _) (mk_b 1 rfl h3) (mk_c h3) (n':=(m_1).toNat) (c':=(m_1).toNat) rfl rfl (cs:=e8 (List.replicate ((m_1).toNat) 0#8)) (rep_map (f:=v8)))) (.c rfl (fun _ _=>OpE_v (V_b2s rfl underlying33 underlying5 underlying9 (.o 0) h4)) (.e rfl (E_cu (F10_calls (List.replicate ((k_1).toNat) 0#8) (List.replicate ((m_1).toNat) 0#8) ([]:Str) ([97#8]:Str) r_2 hr_2) call10 .z) (.v rfl (V_move rfl) (.v rfl V_ex (.v rfl V_ex (.v rfl (V_assign rfl) (.v rfl (V_assign rfl) .nil)))))))))))) .nil (by kernel_rfl) rfl (fun γ=>?_)
   refine TA_cut [(13,vi r_2.2),(2,vi blocks),(3,vi more),(9,vi k_1),(10,vi m_1),(11,vb j1)] [⟨some ((γ 4),0),e8 (List.replicate ((m_1).toNat) 0#8)⟩,⟨some ((γ 1),0),e8 (List.replicate ((k_1).toNat) 0#8)⟩] ⟨rfl,rfl,rfl,rfl,rfl,rfl,trivial⟩ rfl ?_
   generalize γ 1=b1
   generalize γ 4=b2
   refine TA_done (by kernel_rfl) ?_ 0
   refine TX_next (TC_seq ?_)
   obtain ⟨h5,H⟩:=if_elim H
   obtain ⟨h6,H⟩:=if_elim H
   obtain ⟨h7,H⟩:=if_elim H
   obtain ⟨h8,H⟩:=if_elim H
   obtain ⟨h9,H⟩:=if_elim H
   obtain ⟨h10,H⟩:=if_elim H
   obtain ⟨r_3,hr_3,H⟩:=bind_elim H
   refine TA_begin [] 16 (by kernel_rfl) (N:=16) rfl ?_
   refine TA_mix (is:=[]) (done':=dn 16 65535) [itV 0 53 (vi k_1) [],⟨1,54,fun b3=>sl (some (b3,0)) ((k_1).toNat) ((k_1).toNat),fun b3=>[⟨some (b3,0),e8 (List.replicate ((k_1).toNat) 0#8)⟩],[0],none⟩,⟨2,55,fun _=>vs (List.replicate ((k_1).toNat) 0#8),fun _=>[],[1],some 1⟩,itV 3 56 (vi m_1) [],⟨4,57,fun b4=>sl (some (b4,0)) ((m_1).toNat) ((m_1).toNat),fun b4=>[⟨some (b4,0),e8 (List.replicate ((m_1).toNat) 0#8)⟩],[3],none⟩,⟨5,58,fun _=>vs (List.replicate ((m_1).toNat) 0#8),fun _=>[],[4],some 4⟩,itV 6 59 (vi more) [],itV 7 60 (vi (iop (· &&& ·) more 15)) [6],⟨8,61,fun b5=>sl (some (b5,0)) ((iop (· &&& ·) more 15).toNat) ((iop (· &&& ·) more 15).toNat),fun b5=>[⟨some (b5,0),e8 (List.replicate ((iop (· &&& ·) more 15).toNat) 0#8)⟩],[7],none⟩,⟨9,62,fun _=>vs (List.replicate ((iop (· &&& ·) more 15).toNat) 0#8),fun _=>[],[8],some 8⟩,itV 10 63 (Value.tuple [vs r_3.1,vi r_3.2].toArray) [5,9,2],itV 11 52 (Value.tuple [vs r_3.1,vi r_3.2].toArray) [10],itV 12 64 (vs r_3.1) [11],itV 13 65 (vi r_3.2) [11],itV 14 14 (vs r_3.1) [12],itV 15 15 (vi r_3.2) [13]] [] 0 (by kernel_rfl) (QP.then QP.body) (by kernel_rfl) rfl (.v rfl (V_move rfl) (.c rfl (fun _ _=>(E_mk1 rfl rfl underlying33 inf5 (z:=v8 0#8) rfl rfl rfl (B:=1) rfl h5.1 (Int.le_refl _) (mk_b 1 rfl h5) (mk_c h5) (n':=(k_1).toNat) (c':=(k_1).toNat) rfl rfl (cs:=e8 (List.replicate ((k_1).toNat) 0#8)) (rep_map (f:=v8)))) (.c rfl (fun _ _=>OpE_v (V_b2s rfl underlying33 underlying5 underlying9 (.o 0) h6)) (.v rfl (V_move rfl) (.c rfl (fun _ _=>(E_mk1 rfl rfl underlying33 inf5 (z:=v8 0#8) rfl rfl rfl (B:=1) rfl h7.1 (Int.le_refl _) (mk_b 1 rfl h7) (mk_c h7) (n':=(m_1).toNat) (c':=(m_1).toNat) rfl rfl (cs:=e8 (List.replicate ((m_1).toNat) 0#8)) (rep_map (f:=v8)))) (.c rfl (fun _ _=>OpE_v (V_b2s rfl underlying33 underlying5 underlying9 (.o 0) h8)) (.v rfl (V_move rfl) (.v rfl (V_bin rfl rfl (fun w=>andI w more 15)) (.c rfl (fun _ _=>(E_mk1 rfl rfl underlying33 inf5 (z:=v8 0#8) rfl rfl rfl (B:=1) rfl h9.1 (Int.le_refl _) (mk_b 1 rfl h9) (mk_c h9) (n':=(iop (· &&& ·) more 15).toNat) (c':=(iop (· &&& ·) more 15).toNat) rfl rfl (cs:=e8 (List.replicate ((iop (· &&& ·) more 15).toNat) 0#8)) (rep_map (f:=v8)))) (.c rfl (fun _ _=>OpE_v (V_b2s rfl underlying33 underlying5 underlying9 (.o 0) h10)) (.e rfl (E_cu (F12_calls (List.replicate ((k_1).toNat) 0#8) (List.replicate ((m_1).toNat) 0#8) ([]:Str) (List.replicate ((iop (· &&& ·) more 15).toNat) 0#8) r_3 hr_3) call12 .z) (.v rfl (V_move rfl) (.v rfl V_ex (.v rfl V_ex (.v rfl (V_assign rfl) (.v rfl (V_assign rfl) .nil)))))))))))))))) .nil (by kernel_rfl) rfl (fun γ=>?_)
   refine TA_cut [(15,vi r_3.2),(13,vi r_2.2),(2,vi blocks),(3,vi more),(11,vb j1)] [⟨some ((γ 8),0),e8 (List.replicate ((iop (· &&& ·) more 15).toNat) 0#8)⟩,⟨some ((γ 4),0),e8 (List.replicate ((m_1).toNat) 0#8)⟩,⟨some ((γ 1),0),e8 (List.replicate ((k_1).toNat) 0#8)⟩,⟨some (b2,0),e8 (List.replicate ((m_1).toNat) 0#8)⟩,⟨some (b1,0),e8 (List.replicate ((k_1).toNat) 0#8)⟩] ⟨rfl,rfl,rfl,rfl,rfl,trivial⟩ rfl ?_
   generalize γ 1=b3
   generalize γ 4=b4
   generalize γ 8=b5
   refine TA_done (by kernel_rfl) ?_ 0
   refine TX_next (TC_seq (TC_region (TVm ?_)))
   refine TLv (V_bin rfl rfl (fun w=>andI w blocks 127)) ?_
   refine TVa ?_
   obtain ⟨b6,hb6,H⟩:=ltt_elim H
   refine TLr 16 (congrArg vi hb6) ?_
   refine TL_nil (TX_next (TC_seq ?_))
   obtain ⟨h11,H⟩:=if_elim H
   obtain ⟨h12,H⟩:=if_elim H
   obtain ⟨h13,H⟩:=if_elim H
   obtain ⟨h14,H⟩:=if_elim H
   obtain ⟨r_4,hr_4,H⟩:=bind_elim H
   refine TA_begin [] 14 (by kernel_rfl) (N:=14) rfl ?_
   refine TA_mix (is:=[]) (done':=dn 14 16383) [itV 0 69 (vi more) [],itV 1 70 (vi (iop (· &&& ·) more 3)) [0],itV 2 71 (vi (w64 (14+(iop (· &&& ·) more 3)))) [1],⟨3,72,fun b7=>sl (some (b7,0)) ((w64 (14+(iop (· &&& ·) more 3))).toNat) ((w64 (14+(iop (· &&& ·) more 3))).toNat),fun b7=>[⟨some (b7,0),e8 (List.replicate ((w64 (14+(iop (· &&& ·) more 3))).toNat) 0#8)⟩],[2],none⟩,⟨4,73,fun _=>vs (List.replicate ((w64 (14+(iop (· &&& ·) more 3))).toNat) 0#8),fun _=>[],[3],some 3⟩,itV 5 74 (vi b6) [],⟨6,75,fun b8=>sl (some (b8,0)) ((b6).toNat) ((b6).toNat),fun b8=>[⟨some (b8,0),e8 (List.replicate ((b6).toNat) 0#8)⟩],[5],none⟩,⟨7,76,fun _=>vs (List.replicate ((b6).toNat) 0#8),fun _=>[],[6],some 6⟩,itV 8 77 (Value.tuple [vs r_4.1,vi r_4.2].toArray) [4,7],itV 9 68 (Value.tuple [vs r_4.1,vi r_4.2].toArray) [8],itV 10 78 (vs r_4.1) [9],itV 11 79 (vi r_4.2) [9],itV 12 17 (vs r_4.1) [10],itV 13 18 (vi r_4.2) [11]] [] 0 (by kernel_rfl) (QP.then QP.body) (by kernel_rfl) rfl (.v rfl (V_move rfl) (.v rfl (V_bin rfl rfl (fun w=>andI w more 3)) (.v rfl (V_bin rfl rfl (fun w=>addI w 14 (iop (· &&& ·) more 3))) (.c rfl (fun _ _=>(E_mk1 rfl rfl underlying33 inf5 (z:=v8 0#8) rfl rfl rfl (B:=1) rfl h11.1 (Int.le_refl _) (mk_b 1 rfl h11) (mk_c h11) (n':=(w64 (14+(iop (· &&& ·) more 3))).toNat) (c':=(w64 (14+(iop (· &&& ·) more 3))).toNat) rfl rfl (cs:=e8 (List.replicate ((w64 (14+(iop (· &&& ·) more 3))).toNat) 0#8)) (rep_map (f:=v8)))) (.c rfl (fun _ _=>OpE_v (V_b2s rfl underlying33 underlying5 underlying9 (.o 0) h12)) (.v rfl (V_move rfl) (.c rfl (fun _ _=>(E_mk1 rfl rfl underlying33 inf5 (z:=v8 0#8) rfl rfl rfl (B:=1) rfl h13.1 (Int.le_refl _) (mk_b 1 rfl h13) (mk_c h13) (n':=(b6).toNat) (c':=(b6).toNat) rfl rfl (cs:=e8 (List.replicate ((b6).toNat) 0#8)) (rep_map (f:=v8)))) (.c rfl (fun _ _=>OpE_v (V_b2s rfl underlying33 underlying5 underlying9 (.o 0) h14)) (.e rfl (E_cu (F14_calls (List.replicate ((w64 (14+(iop (· &&& ·) more 3))).toNat) 0#8) (List.replicate ((b6).toNat) 0#8) r_4 hr_4) call14 .z) (.v rfl (V_move rfl) (.v rfl V_ex (.v rfl V_ex (.v rfl (V_assign rfl) (.v rfl (V_assign rfl) .nil)))))))))))))) .nil (by kernel_rfl) rfl (fun γ=>?_)
   refine TA_cut [(18,vi r_4.2),(17,vs r_4.1),(16,vi b6),(15,vi r_3.2),(13,vi r_2.2),(3,vi more),(11,vb j1)] [⟨some ((γ 6),0),e8 (List.replicate ((b6).toNat) 0#8)⟩,⟨some ((γ 3),0),e8 (List.replicate ((w64 (14+(iop (· &&& ·) more 3))).toNat) 0#8)⟩,⟨some (b5,0),e8 (List.replicate ((iop (· &&& ·) more 15).toNat) 0#8)⟩,⟨some (b4,0),e8 (List.replicate ((m_1).toNat) 0#8)⟩,⟨some (b3,0),e8 (List.replicate ((k_1).toNat) 0#8)⟩,⟨some (b2,0),e8 (List.replicate ((m_1).toNat) 0#8)⟩,⟨some (b1,0),e8 (List.replicate ((k_1).toNat) 0#8)⟩] ⟨rfl,rfl,rfl,rfl,rfl,rfl,rfl,trivial⟩ rfl ?_
   generalize γ 3=b7
   generalize γ 6=b8
   refine TA_done (by kernel_rfl) ?_ 0
   refine TX_next (TC_seq (TC_region (TVm ?_)))
   refine TLv (V_bin rfl rfl (fun w=>andI w more 3)) ?_
   refine TLv (V_bin rfl rfl (fun w=>eqlI w (iop (· &&& ·) more 3) 2)) ?_
   refine TVm ?_
   obtain ⟨j2,Hj,H⟩:=bind_elim H
   refine TL_join (Γ:=Unit) (fun gj2=>[(11,vb j1),(13,vi r_2.2),(15,vi r_3.2),(17,vs r_4.1),(18,vi r_4.2),(19,vb j2)]) (fun gj2=>[]) ?_ ?_
   ·intro gj2
    refine TX_next (TC_seq (TC_region (TLe (E_mk1 rfl rfl underlying33 inf5 (z:=v8 0#8) rfl rfl rfl (B:=1) rfl (by decide) (Int.le_refl _) (by decide) (by decide) (n':=16) (c':=16) rfl rfl (cs:=e8 (List.replicate 16 0#8)) (rep_map (f:=v8))) (fun b9=>?_))))
    obtain ⟨h15,H⟩:=if_elim H
    refine TLv (V_b2s rfl underlying33 underlying5 underlying9 (.o 0) h15) ?_
    refine TVa ?_
    obtain ⟨z1,hz1,H⟩:=ltt_elim H
    refine TLr 20 (congrArg vs hz1) ?_
    refine TL_nil (TX_next (TC_seq ?_))
    obtain ⟨h16,H⟩:=if_elim H
    obtain ⟨big1,hbig1,H⟩:=ltt_elim H
    obtain ⟨h17,H⟩:=if_elim H
    obtain ⟨r_5,hr_5,H⟩:=bind_elim H
    refine TA_begin [] 11 (by kernel_rfl) (N:=11) rfl ?_
    refine TA_mix (is:=[]) (done':=dn 11 2047) [itV 0 91 (vs z1) [],itV 1 92 (vs z1) [],itV 2 93 (vs (sub z1 0 12)) [1],⟨3,94,fun b10=>sl (some (b10,0)) big1 big1,fun b10=>[⟨some (b10,0),e8 (List.replicate big1 0#8)⟩],[],none⟩,⟨4,95,fun _=>vs (List.replicate big1 0#8),fun _=>[],[3],some 3⟩,itV 5 96 (Value.tuple [vs r_5.1,vi r_5.2].toArray) [0,2,4],itV 6 90 (Value.tuple [vs r_5.1,vi r_5.2].toArray) [5],itV 7 97 (vs r_5.1) [6],itV 8 98 (vi r_5.2) [6],itV 9 21 (vs r_5.1) [7],itV 10 22 (vi r_5.2) [8]] [] 0 (by kernel_rfl) (QP.then QP.body) (by kernel_rfl) rfl (.v rfl (V_move rfl) (.v rfl (V_move rfl) (.v rfl (V_sliceStr (l:=0) (h:=12) rfl underlying9 Bnd.none' (Bnd.some' (i:=12) rfl (by decide)) (Nat.zero_le _) h16) (.c rfl (fun _ _=>(@E_mk1 _ _ _ _ _ _ _ _ _ _ _ _ _ (v8 0#8) _ _ big1 big1 (e8 (List.replicate big1 0#8)) rfl rfl underlying33 inf5 rfl rfl rfl 1 rfl (h0_lit 65537) (Int.le_refl _) (hb_lit 1 65537 rfl) (hc_lit 65537 rfl) (tn_lit hbig1) (tn_lit hbig1) (rep_map (f:=v8)))) (.c rfl (fun _ _=>OpE_v (V_b2s rfl underlying33 underlying5 underlying9 (.o 0) h17)) (.e rfl (E_cu (F10_calls z1 (sub z1 0 12) (List.replicate big1 0#8) ([]:Str) r_5 hr_5) call10 .z) (.v rfl (V_move rfl) (.v rfl V_ex (.v rfl V_ex (.v rfl (V_assign rfl) (.v rfl (V_assign rfl) .nil))))))))))) .nil (by kernel_rfl) rfl (fun γ=>?_)
    refine TA_cut [(22,vi r_5.2),(20,vs z1),(11,vb j1),(13,vi r_2.2),(15,vi r_3.2),(17,vs r_4.1),(18,vi r_4.2),(19,vb j2)] [⟨some ((γ 3),0),e8 (List.replicate big1 0#8)⟩,⟨some (b9,0),e8 (List.replicate 16 0#8)⟩] ⟨rfl,rfl,rfl,rfl,rfl,rfl,rfl,rfl,trivial⟩ rfl ?_
    generalize γ 3=b10
    refine TA_done (by kernel_rfl) ?_ 0
    refine TX_next (TC_seq ?_)
    obtain ⟨h18,H⟩:=if_elim H
    obtain ⟨big2,hbig2,H⟩:=ltt_elim H
    obtain ⟨h19,H⟩:=if_elim H
    obtain ⟨r_6,hr_6,H⟩:=bind_elim H
    refine TA_begin [] 11 (by kernel_rfl) (N:=11) rfl ?_
    refine TA_mix (is:=[]) (done':=dn 11 2047) [itV 0 100 (vs z1) [],itV 1 101 (vs z1) [],itV 2 102 (vs (sub z1 0 12)) [1],⟨3,103,fun b11=>sl (some (b11,0)) big2 big2,fun b11=>[⟨some (b11,0),e8 (List.replicate big2 0#8)⟩],[],none⟩,⟨4,104,fun _=>vs (List.replicate big2 0#8),fun _=>[],[3],some 3⟩,itV 5 105 (Value.tuple [vs r_6.1,vi r_6.2].toArray) [4,0,2],itV 6 99 (Value.tuple [vs r_6.1,vi r_6.2].toArray) [5],itV 7 106 (vs r_6.1) [6],itV 8 107 (vi r_6.2) [6],itV 9 23 (vs r_6.1) [7],itV 10 24 (vi r_6.2) [8]] [] 0 (by kernel_rfl) (QP.then QP.body) (by kernel_rfl) rfl (.v rfl (V_move rfl) (.v rfl (V_move rfl) (.v rfl (V_sliceStr (l:=0) (h:=12) rfl underlying9 Bnd.none' (Bnd.some' (i:=12) rfl (by decide)) (Nat.zero_le _) h18) (.c rfl (fun _ _=>(@E_mk1 _ _ _ _ _ _ _ _ _ _ _ _ _ (v8 0#8) _ _ big2 big2 (e8 (List.replicate big2 0#8)) rfl rfl underlying33 inf5 rfl rfl rfl 1 rfl (h0_lit 65537) (Int.le_refl _) (hb_lit 1 65537 rfl) (hc_lit 65537 rfl) (tn_lit hbig2) (tn_lit hbig2) (rep_map (f:=v8)))) (.c rfl (fun _ _=>OpE_v (V_b2s rfl underlying33 underlying5 underlying9 (.o 0) h19)) (.e rfl (E_cu (F10_calls z1 (sub z1 0 12) ([]:Str) (List.replicate big2 0#8) r_6 hr_6) call10 .z) (.v rfl (V_move rfl) (.v rfl V_ex (.v rfl V_ex (.v rfl (V_assign rfl) (.v rfl (V_assign rfl) .nil))))))))))) .nil (by kernel_rfl) rfl (fun γ=>?_)
    refine TA_cut [(24,vi r_6.2),(22,vi r_5.2),(20,vs z1),(11,vb j1),(13,vi r_2.2),(15,vi r_3.2),(17,vs r_4.1),(18,vi r_4.2),(19,vb j2)] [⟨some ((γ 3),0),e8 (List.replicate big2 0#8)⟩,⟨some (b10,0),e8 (List.replicate big1 0#8)⟩,⟨some (b9,0),e8 (List.replicate 16 0#8)⟩] ⟨rfl,rfl,rfl,rfl,rfl,rfl,rfl,rfl,rfl,trivial⟩ rfl ?_
    generalize γ 3=b11
    refine TA_done (by kernel_rfl) ?_ 0
    refine TX_next (TC_seq (TC_region (TVa ?_)))
    refine TL_nil (TX_next (TC_seq (TC_seq (TC_region (TVm ?_)))))
    refine TL_nil (TX_next ?_)
    obtain ⟨j3,Hj,H⟩:=bind_elim H
    refine TC_join (Γ:=Unit) (fun gj3=>[(11,vb j1),(13,vi r_2.2),(15,vi r_3.2),(17,vs r_4.1),(18,vi r_4.2),(19,vb j2),(20,vs z1),(22,vi r_5.2),(24,vi r_6.2),(25,vi j3)]) (fun gj3=>[]) ?_ ?_
    ·intro gj3
     refine TX_next (TC_seq (TC_region (TVm ?_)))
     obtain ⟨r_7,hr_7,H⟩:=bind_elim H
     refine TLe (E_c0 (F8_calls r_2.2 r_7 hr_7) call8 .z) (fun g_7=>?_)
     refine TLv (V_bin rfl rfl (fun w=>eqlI w r_7 0)) ?_
     refine TVm ?_
     refine TLv (V_bin rfl rfl (fun w=>eqlB w (decide (r_7=0)) j1 underlying4)) ?_
     refine TVm ?_
     refine TFb (d:=114) H (fun hc H=>?_) (fun hc H=>?_)
     ·refine TLw (V_move rfl) ?_
      obtain ⟨r_8,hr_8,H⟩:=bind_elim H
      refine TLu (E_c0 (F8_calls r_3.2 r_8 hr_8) call8 .z) (fun g_8=>?_)
      refine TLw (V_move rfl) ?_
      refine TLw (V_bin rfl rfl (fun w=>eqlI w r_8 j3)) ?_
      refine TVt ?_
      refine TVm ?_
      refine TFd (d:=120) H (fun hc H=>?_) (fun hc H=>?_)
      ·refine TLw (V_move rfl) ?_
       obtain ⟨r_9,hr_9,H⟩:=bind_elim H
       refine TLu (E_c0 (F8_calls r_4.2 r_9 hr_9) call8 .z) (fun g_9=>?_)
       refine TLw (V_bin rfl rfl (fun w=>eqlI w r_9 0)) ?_
       refine TLw (V_move rfl) ?_
       refine TLw (V_bin rfl rfl (fun w=>eqlB w (decide (r_9=0)) j2 underlying4)) ?_
       refine TVt ?_
       refine TVm ?_
       refine TFb (d:=127) H (fun hc H=>?_) (fun hc H=>?_)
       ·refine TLw (V_move rfl) ?_
        refine TLw (V_un rfl (fun w=>notB w j2)) ?_
        refine TLw (V_move rfl) ?_
        refine TFb (d:=130) H (fun hc H=>?_) (fun hc H=>?_)
        ·refine TLs ?_
         refine TLs ?_
         refine TLs ?_
         refine TLw (V_pick (b:=true) rfl rfl) ?_
         refine TVt ?_
         refine TVm ?_
         refine TLw (V_move rfl) ?_
         obtain ⟨r_10,hr_10,H⟩:=bind_elim H
         refine TLu (E_c0 (F8_calls r_5.2 r_10 hr_10) call8 .z) (fun g_10=>?_)
         refine TLw (V_bin rfl rfl (fun w=>eqlI w r_10 500)) ?_
         refine TVt ?_
         refine TVm ?_
         refine TFd (d:=141) H (fun hc H=>?_) (fun hc H=>?_)
         ·refine TLw (V_move rfl) ?_
          obtain ⟨r_11,hr_11,H⟩:=bind_elim H
          refine TLu (E_c0 (F8_calls r_6.2 r_11 hr_11) call8 .z) (fun g_11=>?_)
          refine TLw (V_bin rfl rfl (fun w=>eqlI w r_11 500)) ?_
          refine TVt ?_
          refine TVa ?_
          obtain ⟨x1,hx1,H⟩:=ltt_elim H
          refine TLr 8 (congrArg vb hx1) ?_
          refine TL_nil (TX_next (TC.sub (m':=[(8,_)]) ⟨rfl,trivial⟩ ?_))
          refine TC.pull (is:=[]) (L':=[]) rfl ?_
          refine TC_ret ?_
          obtain rfl:=sj H
          exact TX1
         ·refine TLs ?_
          refine TLs ?_
          refine TLs ?_
          refine TVf ?_
          refine TVa ?_
          refine TL_nil (TX_next (TC.sub (m':=[(8,_)]) ⟨rfl,trivial⟩ ?_))
          refine TC.pull (is:=[]) (L':=[]) rfl ?_
          refine TC_ret ?_
          obtain rfl:=sj H
          exact TX1
        ·refine TLw (V_move rfl) ?_
         refine TLw (V_move rfl) ?_
         refine TLw (V_bin rfl rfl (fun w=>eqlS w r_4.1 z1)) ?_
         refine TLw (V_pick (b:=false) rfl rfl) ?_
         refine TVt ?_
         refine TVm ?_
         refine TFd (d:=136) H (fun hc H=>?_) (fun hc H=>?_)
         ·refine TLw (V_move rfl) ?_
          obtain ⟨r_12,hr_12,H⟩:=bind_elim H
          refine TLu (E_c0 (F8_calls r_5.2 r_12 hr_12) call8 .z) (fun g_12=>?_)
          refine TLw (V_bin rfl rfl (fun w=>eqlI w r_12 500)) ?_
          refine TVt ?_
          refine TVm ?_
          refine TFd (d:=141) H (fun hc H=>?_) (fun hc H=>?_)
          ·refine TLw (V_move rfl) ?_
           obtain ⟨r_13,hr_13,H⟩:=bind_elim H
           refine TLu (E_c0 (F8_calls r_6.2 r_13 hr_13) call8 .z) (fun g_13=>?_)
           refine TLw (V_bin rfl rfl (fun w=>eqlI w r_13 500)) ?_
           refine TVt ?_
           refine TVa ?_
           obtain ⟨x2,hx2,H⟩:=ltt_elim H
           refine TLr 8 (congrArg vb hx2) ?_
           refine TL_nil (TX_next (TC.sub (m':=[(8,_)]) ⟨rfl,trivial⟩ ?_))
           refine TC.pull (is:=[]) (L':=[]) rfl ?_
           refine TC_ret ?_
           obtain rfl:=sj H
           exact TX1
          ·refine TLs ?_
           refine TLs ?_
           refine TLs ?_
           refine TVf ?_
           refine TVa ?_
           refine TL_nil (TX_next (TC.sub (m':=[(8,_)]) ⟨rfl,trivial⟩ ?_))
           refine TC.pull (is:=[]) (L':=[]) rfl ?_
           refine TC_ret ?_
           obtain rfl:=sj H
           exact TX1
         ·refine TLs ?_
          refine TLs ?_
          refine TLs ?_
          refine TVf ?_
          refine TVm ?_
          refine TLs ?_
          refine TLs ?_
          refine TLs ?_
          refine TVf ?_
          refine TVa ?_
          refine TL_nil (TX_next (TC.sub (m':=[(8,_)]) ⟨rfl,trivial⟩ ?_))
          refine TC.pull (is:=[]) (L':=[]) rfl ?_
          refine TC_ret ?_
          obtain rfl:=sj H
          exact TX1
       ·refine TLs ?_
        refine TLs ?_
        refine TLs ?_
        refine TL_skipU rfl rfl rfl rfl rfl rfl ?_
        refine TL_skipU rfl rfl rfl rfl rfl rfl ?_
        refine TL_skipU rfl rfl rfl rfl rfl rfl ?_
        refine TLs ?_
        refine TVf ?_
        refine TVm ?_
        refine TLs ?_
        refine TLs ?_
        refine TLs ?_
        refine TVf ?_
        refine TVm ?_
        refine TLs ?_
        refine TLs ?_
        refine TLs ?_
        refine TVf ?_
        refine TVa ?_
        refine TL_nil (TX_next (TC.sub (m':=[(8,_)]) ⟨rfl,trivial⟩ ?_))
        refine TC.pull (is:=[]) (L':=[]) rfl ?_
        refine TC_ret ?_
        obtain rfl:=sj H
        exact TX1
      ·refine TLs ?_
       refine TLs ?_
       refine TLs ?_
       refine TLs ?_
       refine TLs ?_
       refine TVf ?_
       refine TVm ?_
       refine TLs ?_
       refine TLs ?_
       refine TLs ?_
       refine TL_skipU rfl rfl rfl rfl rfl rfl ?_
       refine TL_skipU rfl rfl rfl rfl rfl rfl ?_
       refine TL_skipU rfl rfl rfl rfl rfl rfl ?_
       refine TLs ?_
       refine TVf ?_
       refine TVm ?_
       refine TLs ?_
       refine TLs ?_
       refine TLs ?_
       refine TVf ?_
       refine TVm ?_
       refine TLs ?_
       refine TLs ?_
       refine TLs ?_
       refine TVf ?_
       refine TVa ?_
       refine TL_nil (TX_next (TC.sub (m':=[(8,_)]) ⟨rfl,trivial⟩ ?_))
       refine TC.pull (is:=[]) (L':=[]) rfl ?_
       refine TC_ret ?_
       obtain rfl:=sj H
       exact TX1
     ·refine TLs ?_
      refine TLs ?_
      refine TLs ?_
      refine TLs ?_
      refine TVf ?_
      refine TVm ?_
      refine TLs ?_
      refine TLs ?_
      refine TLs ?_
      refine TLs ?_
      refine TLs ?_
      refine TVf ?_
      refine TVm ?_
      refine TLs ?_
      refine TLs ?_
      refine TLs ?_
      refine TL_skipU rfl rfl rfl rfl rfl rfl ?_
      refine TL_skipU rfl rfl rfl rfl rfl rfl ?_
      refine TL_skipU rfl rfl rfl rfl rfl rfl ?_
      refine TLs ?_
      refine TVf ?_
      refine TVm ?_
      refine TLs ?_
      refine TLs ?_
      refine TLs ?_
      refine TVf ?_
      refine TVm ?_
      refine TLs ?_
      refine TLs ?_
      refine TLs ?_
      refine TVf ?_
      refine TVa ?_
      refine TL_nil (TX_next (TC.sub (m':=[(8,_)]) ⟨rfl,trivial⟩ ?_))
      refine TC.pull (is:=[]) (L':=[]) rfl ?_
      refine TC_ret ?_
      obtain rfl:=sj H
      exact TX1
    ·intro hJ
     replace H:=Hj
     refine TCb H (fun hc H=>?_) (fun hc H=>?_)
     ·refine TC_region (TVa ?_)
      refine TL_nil ?_
      obtain rfl:=sj H
      exact TXj [] (hJ ())
     ·refine TC_skip ?_
      obtain rfl:=sj H
      exact TXj [] (hJ ())
   ·intro hJ
    replace H:=Hj
    refine TFd (d:=83) H (fun hc H=>?_) (fun hc H=>?_)
    ·refine TLw (V_move rfl) ?_
     refine TLw (V_bin rfl rfl (fun w=>remI w b6 16 (by decide))) ?_
     refine TLw (V_bin rfl rfl (fun w=>eqlI w (b6.tmod 16) 0)) ?_
     refine TVt ?_
     refine TVa ?_
     obtain ⟨ok1,hok1,H⟩:=ltt_elim H
     refine TLr 19 (congrArg vb hok1) ?_
     refine TL_nil ?_
     obtain rfl:=sj H
     exact TXj [] (hJ ())
    ·refine TLs ?_
     refine TLs ?_
     refine TLs ?_
     refine TVf ?_
     refine TVa ?_
     refine TL_nil ?_
     obtain rfl:=sj H
     exact TXj [] (hJ ())
  ·intro hJ
   replace H:=Hj
   refine TFd (d:=34) H (fun hc H=>?_) (fun hc H=>?_)
   ·refine TLs ?_
    refine TLs ?_
    refine TVt ?_
    refine TVm ?_
    refine TLw (V_move rfl) ?_
    refine TLw (V_bin rfl rfl (fun w=>eqlI w m_1 12)) ?_
    refine TVt ?_
    refine TVa ?_
    obtain ⟨fine1,hfine1,H⟩:=ltt_elim H
    refine TLr 11 (congrArg vb hfine1) ?_
    refine TL_nil ?_
    obtain rfl:=sj H
    exact TXj [] (hJ ())
   ·refine TLw (V_move rfl) ?_
    refine TLw (V_bin rfl rfl (fun w=>eqlI w k_1 32)) ?_
    refine TVf ?_
    refine TVm ?_
    refine TFd (d:=38) H (fun hc H=>?_) (fun hc H=>?_)
    ·refine TLw (V_move rfl) ?_
     refine TLw (V_bin rfl rfl (fun w=>eqlI w m_1 12)) ?_
     refine TVt ?_
     refine TVa ?_
     obtain ⟨fine2,hfine2,H⟩:=ltt_elim H
     refine TLr 11 (congrArg vb hfine2) ?_
     refine TL_nil ?_
     obtain rfl:=sj H
     exact TXj [] (hJ ())
    ·refine TLs ?_
     refine TLs ?_
     refine TVf ?_
     refine TVa ?_
     refine TL_nil ?_
     obtain rfl:=sj H
     exact TXj [] (hJ ())
end Go.Proofs
end

section
namespace Go.Proofs
open Go Go.Kx
theorem be8_zeros (n a:Nat) : ∀ j,be8 (List.replicate n 0#8) a j=0#64
 | 0=>rfl
 | j+1=>by
  simp only [be8]
  rw [be8_zeros n a j,List.getD_eq_getElem?_getD,List.getElem?_replicate]
  split <;> decide
theorem ld_zeros (n a:Nat):ld (List.replicate n 0#8) a=z2:=by
 unfold ld; rw [be8_zeros,be8_zeros]; rfl
theorem ghs_zeros (h:E2) (n:Nat) : ∀ k,iter (gh h (List.replicate n 0#8)) k z2=z2
 | 0=>rfl
 | k+1=>by
  show gh h (List.replicate n 0#8) k (iter (gh h (List.replicate n 0#8)) k z2)=z2
  rw [ghs_zeros h n k]
  unfold gh
  rw [ld_zeros,xr_zero,prod_zero]
theorem by16_z2:by16 z2=List.replicate 16 0#8:=by decide +kernel
theorem seal_code (key nonce aad s:Str):(sealE key nonce aad s).2=if okG key nonce aad s.length 65536 then 0 else 500:=by
 unfold sealE; split <;> rfl
theorem seal_none (key nonce aad s:Str) (h : ¬ okG key nonce aad s.length 65536):sealE key nonce aad s=([],500):=by
 unfold sealE; rw [if_neg h]
theorem rep_len (n:Nat):(List.replicate n 0#8).length=n:=List.length_replicate
theorem GcmForms_true (key nonce blocks more:Int):halberdlaw5_GcmForms key nonce blocks more=some true:=by
 unfold halberdlaw5_GcmForms
 refine bind_i awake5 (if_n (by decide) (ltt_i fun k1 hk1=>ltt_i fun m1 hm1=>?_))
 have i63:iop (· &&& ·) key 63=key % 64:=and_mask key 6 (by decide)
 have i15:iop (· &&& ·) nonce 15=nonce % 16:=and_mask nonce 4 (by decide)
 have i15m:iop (· &&& ·) more 15=more % 16:=and_mask more 4 (by decide)
 have i3m:iop (· &&& ·) more 3=more % 4:=and_mask more 2 (by decide)
 have i127:iop (· &&& ·) blocks 127=blocks % 128:=and_mask blocks 7 (by decide)
 rw [i63] at hk1
 rw [i15] at hm1
 rw [i15m,i3m,i127]
 clear i63 i15 i15m i3m i127
 obtain ⟨k,hk,hkl⟩ : ∃ k:Nat,k1=(k:Int)∧k<64:=⟨k1.toNat,by omega,by omega⟩
 obtain ⟨m,hm,hml⟩ : ∃ m:Nat,m1=(m:Int)∧m<16:=⟨m1.toNat,by omega,by omega⟩
 obtain ⟨p,hp,hpl⟩ : ∃ p:Nat,more % 16=(p:Int)∧p<16:=⟨(more % 16).toNat,by omega,by omega⟩
 obtain ⟨q,hq,hql⟩ : ∃ q:Nat,more % 4=(q:Int)∧q<4:=⟨(more % 4).toNat,by omega,by omega⟩
 obtain ⟨b,hb,hbl⟩ : ∃ b:Nat,blocks % 128=(b:Int)∧b<128:=⟨(blocks % 128).toNat,by omega,by omega⟩
 rw [hp,hq,hb]
 clear hk1 hm1 hp hq hb
 subst hk
 subst hm
 have e1:w64 (14+(q:Int))=((14+q:Nat):Int):=w64_add (a:=14) (by omega)
 rw [e1]
 clear e1
 simp only [Int.toNat_natCast]
 obtain ⟨f,hf⟩ : ∃ f:Bool,f=decide ((k=16 ∨ k=32)∧m=12):=⟨_,rfl⟩
 refine bind_i (v:=f) ?_ ?_
 ·rw [hf]
  by_cases c1:k=16
  ·refine if_i (by omega) (ltt_i fun x hx=>?_)
   rw [hx]
   refine congrArg some ?_
   rw [decide_eq_decide]; omega
  ·refine if_n (by omega) ?_
   by_cases c2:k=32
   ·refine if_i (by omega) (ltt_i fun x hx=>?_)
    rw [hx]
    refine congrArg some ?_
    rw [decide_eq_decide]; omega
   ·refine if_n (by omega) (congrArg some ?_)
    rw [eq_comm,decide_eq_false_iff_not]; omega
 have g1:(sealE (List.replicate k 0#8) (List.replicate m 0#8) [] [97#8]).2=if f=true then 0 else 500:=by
  rw [seal_code,hf]
  by_cases c:(k=16 ∨ k=32)∧m=12
  ·rw [if_pos (c:=okG _ _ _ _ _) ⟨by unfold okKey; rw [rep_len]; exact c.1,by rw [rep_len]; exact c.2,by decide,by decide⟩,if_pos (by simp [c])]
  ·rw [if_neg (c:=okG _ _ _ _ _) (fun h=>c ⟨by have:=h.1; unfold okKey at this; rwa [rep_len] at this,by have:=h.2.1; rwa [rep_len] at this⟩),if_neg (by simp [c])]
 have g2:(openE (List.replicate k 0#8) (List.replicate m 0#8) [] (List.replicate p 0#8)).2=if f=true then 501 else 500:=by
  unfold openE
  rw [hf]
  by_cases c:(k=16 ∨ k=32)∧m=12
  ·rw [if_pos (c:=okG _ _ _ _ _) ⟨by unfold okKey; rw [rep_len]; exact c.1,by rw [rep_len]; exact c.2,by decide,by rw [rep_len]; omega⟩,if_pos (by rw [rep_len]; omega),if_pos (by simp [c])]
  ·rw [if_neg (c:=okG _ _ _ _ _) (fun h=>c ⟨by have:=h.1; unfold okKey at this; rwa [rep_len] at this,by have:=h.2.1; rwa [rep_len] at this⟩),if_neg (by simp [c])]
 have q1:=Seal_eq (List.replicate k 0#8) (List.replicate m 0#8) [] [97#8]
 have q2:=Open_eq (List.replicate k 0#8) (List.replicate m 0#8) [] (List.replicate p 0#8)
 have q3:=Hash_eq5 (List.replicate (14+q) 0#8) (List.replicate b 0#8) (by rw [rep_len]; omega)
 have g3:GhE (List.replicate (14+q) 0#8) (List.replicate b 0#8)=if q=2∧b % 16=0 then (List.replicate 16 0#8,0) else ([],500):=by
  unfold GhE
  rw [rep_len,rep_len]
  by_cases c:q=2∧b % 16=0
  ·rw [if_pos ⟨by omega,c.2⟩,if_pos c]
   unfold ghs
   rw [ghs_zeros,by16_z2]
  ·rw [if_neg (by omega),if_neg c]
 rw [g3] at q3
 clear g3
 generalize sealE (List.replicate k 0#8) (List.replicate m 0#8) [] [97#8]=r1 at q1 g1
 generalize openE (List.replicate k 0#8) (List.replicate m 0#8) [] (List.replicate p 0#8)=r2 at q2 g2
 refine if_i (by omega) (if_i (rep_len k) (if_i (by omega) (if_i (rep_len m) (bind_i q1 ?_))))
 refine if_i (by omega) (if_i (rep_len k) (if_i (by omega) (if_i (rep_len m) (if_i (by omega) (if_i (rep_len p) (bind_i q2 (ltt_i fun b6 hb6=>?_)))))))
 subst hb6
 simp only [Int.toNat_natCast]
 refine if_i (by omega) (if_i (rep_len _) (if_i (by omega) (if_i (rep_len b) (bind_i q3 ?_))))
 clear q1 q2 q3
 obtain ⟨o,ho⟩ : ∃ o:Bool,o=decide (q=2∧b % 16=0):=⟨_,rfl⟩
 have eb:(b:Int).tmod 16=((b % 16:Nat):Int):=tmodN' b 16
 refine bind_i (v:=o) ?_ ?_
 ·rw [ho,eb]
  clear eb
  by_cases c:q=2
  ·refine if_i (by omega) (ltt_i fun x hx=>?_)
   rw [hx]
   refine congrArg some ?_
   rw [decide_eq_decide]; omega
  ·refine if_n (by omega) (congrArg some ?_)
   rw [eq_comm,decide_eq_false_iff_not]; omega
 clear eb
 refine if_i (rep_len 16) (ltt_i fun z1 hz1=>if_i (by rw [hz1,rep_len]; decide) (ltt_i fun big1 hbig1=>if_i (rep_len _) ?_))
 have s1 : ∀ u v, ¬ okG z1 (sub z1 0 12) u v 65536 → True:=fun _ _ _=>trivial
 have q5:=Seal_eq z1 (sub z1 0 12) (List.replicate big1 0#8) []
 rw [seal_none _ _ _ _ (fun h=>by have:=h.2.2.1; rw [rep_len] at this; omega)] at q5
 refine bind_i q5 (if_i (by rw [hz1,rep_len]; decide) (ltt_i fun big2 hbig2=>if_i (rep_len _) ?_))
 have q6:=Seal_eq z1 (sub z1 0 12) [] (List.replicate big2 0#8)
 rw [seal_none _ _ _ _ (fun h=>by have:=h.2.2.2; rw [rep_len] at this; omega)] at q6
 refine bind_i q6 (bind_i (v:=if f=true then 501 else 500) (by cases f <;> rfl) ?_)
 clear q5 q6 hf s1
 refine bind_i (v:=r1.2) rfl (if_i (by rw [g1]; cases f <;> decide) (bind_i (v:=r2.2) rfl (if_i g2 ?_)))
 by_cases c:q=2∧b % 16=0
 ·rw [if_pos c]
  have:o=true:=by rw [ho]; simp [c]
  rw [this]
  refine bind_i (v:=0) rfl (if_i (by decide) (if_n (by decide) (if_i hz1.symm (bind_i (v:=500) rfl (if_i rfl (bind_i (v:=500) rfl rfl))))))
 ·rw [if_neg c]
  have:o=false:=by rw [ho]; simp [c]
  rw [this]
  refine bind_i (v:=500) rfl (if_i (by decide) (if_i (by decide) (bind_i (v:=500) rfl (if_i rfl (bind_i (v:=500) rfl rfl)))))
end Go.Proofs
end

section
namespace Go.Kx
open Go Go.RowKit Go.ChangeShapes Go.WideShapes
theorem Does.law2 {P:Program} {f:FuncId} {args:List Value} {Ro:Mem} (h:Does P f args [] Ro (Γ:=Unit) (fun _=>vb true) (fun _=>[])) (w:World) (hr : ∀ e ∈ Ro,Has w e) :
  Calls P f args.toArray w fun e w'=>e = .returned (.bool true)∧Below w.heap.size w w':=by
 refine (h w ⟨fun e he=>(List.not_mem_nil he).elim,List.Pairwise.nil⟩ hr (fun e he=>(List.not_mem_nil he).elim)).mono fun e w' ⟨_,he,hs⟩=>⟨he,hs.below⟩
section
variable {H:Type} {enc:TypeId × Value → H} {P:Program} {w:World} {base:Nat} {held:Bool} {t e:TypeId} {v:Value} {d:DataW H} {p:List MemPlace}
end
end Go.Kx
end

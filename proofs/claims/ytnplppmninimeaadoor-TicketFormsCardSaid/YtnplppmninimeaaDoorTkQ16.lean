/-
  Part 16 of the proof of what several laws share.
-/
import Derived.Test.YtnplppmninimeaaDoorTkQ1
import Derived.Test.YtnplppmninimeaaDoorTkQ2
import Derived.Test.YtnplppmninimeaaDoorTkQ3
import Derived.Test.YtnplppmninimeaaDoorTkQ4
import Derived.Test.YtnplppmninimeaaDoorTkQ5
import Derived.Test.YtnplppmninimeaaDoorTkQ6
import Derived.Test.YtnplppmninimeaaDoorTkQ7
import Derived.Test.YtnplppmninimeaaDoorTkQ8
import Derived.Test.YtnplppmninimeaaDoorTkQ9
import Derived.Test.YtnplppmninimeaaDoorTkQ10
import Derived.Test.YtnplppmninimeaaDoorTkQ11
import Derived.Test.YtnplppmninimeaaDoorTkQ12
import Derived.Test.YtnplppmninimeaaDoorTkQ13
import Derived.Test.YtnplppmninimeaaDoorTkQ14
import Derived.Test.YtnplppmninimeaaDoorTkQ15
set_option linter.unusedVariables false
set_option linter.unusedSimpArgs false
section
namespace Go.Proofs
open Go Go.Kx
open TrydI Tryd
def halberdref4_gcmMay (key:Str) (nonce:Str) (aad:Str) (s_:Str) (more:Int):Option (Bool) :=
 if ((key).length:Int)=16 then (if ((nonce).length:Int)=12 then (if ((aad).length:Int)≤65536 then (ltt (decide (((s_).length:Int)≤(w64 (65536+more)))) fun (x1:Bool)=>(some x1)) else (some false)) else (some false)) else (if ((key).length:Int)=32 then (if ((nonce).length:Int)=12 then (if ((aad).length:Int)≤65536 then (ltt (decide (((s_).length:Int)≤(w64 (65536+more)))) fun (x2:Bool)=>(some x2)) else (some false)) else (some false)) else (some false))
set_option maxHeartbeats 4000000 in
set_option maxRecDepth 20000 in
theorem F24_calls (key:Str) (nonce:Str) (aad:Str) (s_:Str) (more:Int) (r:Bool) (H:halberdref4_gcmMay key nonce aad s_ more=some r) :
  Does Tryd.prog 24 [vs key,vs nonce,vs aad,vs s_,vi more] [] [] (Γ:=Unit) (fun g=>vb r) (fun g=>[]):=by
 intro w hmem hro hd
 refine calls_of (N:=36) (m0:=[(0,vs key),(1,vs nonce),(2,vs aad),(3,vs s_),(4,vi more)]) func24 rfl ntmps24 (argM_ok [vs key,vs nonce,vs aad,vs s_,vi more]) rfl hmem hro hd ?_
 unfold halberdref4_gcmMay at H
 refine TC_seq (TC_region (TVa ?_))
 refine TL_nil (TX_next (TC_seq (TC_region (TVm ?_))))
 refine TLv (V_len_str rfl underlying9) ?_
 refine TLv (V_bin rfl rfl (fun w=>eqlI w ((key).length:Int) 16)) ?_
 refine TVm ?_
 refine TFd (d:=14) H (fun hc H=>?_) (fun hc H=>?_)
 ·refine TLs ?_
  refine TLs ?_
  refine TLs ?_
  refine TVt ?_
  refine TVm ?_
  refine TLw (V_move rfl) ?_
  refine TLw (V_len_str rfl underlying9) ?_
  refine TLw (V_bin rfl rfl (fun w=>eqlI w ((nonce).length:Int) 12)) ?_
  refine TVt ?_
  refine TVm ?_
  refine TFd (d:=24) H (fun hc H=>?_) (fun hc H=>?_)
  ·refine TLw (V_move rfl) ?_
   refine TLw (V_len_str rfl underlying9) ?_
   refine TLw (V_bin rfl rfl (fun w=>leqI w ((aad).length:Int) 65536)) ?_
   refine TVt ?_
   refine TVm ?_
   refine TFd (d:=29) H (fun hc H=>?_) (fun hc H=>?_)
   ·refine TLw (V_move rfl) ?_
    refine TLw (V_len_str rfl underlying9) ?_
    refine TLw (V_move rfl) ?_
    refine TLw (V_bin rfl rfl (fun w=>addI w 65536 more)) ?_
    refine TLw (V_bin rfl rfl (fun w=>leqI w ((s_).length:Int) (w64 (65536+more)))) ?_
    refine TVt ?_
    refine TVa ?_
    obtain ⟨x1,hx1,H⟩:=ltt_elim H
    refine TLr 10 (congrArg vb hx1) ?_
    refine TL_nil (TX_next (TC.sub (m':=[(10,_)]) ⟨rfl,trivial⟩ ?_))
    refine TC_ret ?_
    obtain rfl:=sj H
    exact TX1
   ·refine TLs ?_
    refine TLs ?_
    refine TLs ?_
    refine TLs ?_
    refine TLs ?_
    refine TVf ?_
    refine TVa ?_
    refine TL_nil (TX_next (TC.sub (m':=[(10,_)]) ⟨rfl,trivial⟩ ?_))
    refine TC_ret ?_
    obtain rfl:=sj H
    exact TX1
  ·refine TLs ?_
   refine TLs ?_
   refine TLs ?_
   refine TVf ?_
   refine TVm ?_
   refine TLs ?_
   refine TLs ?_
   refine TLs ?_
   refine TLs ?_
   refine TLs ?_
   refine TVf ?_
   refine TVa ?_
   refine TL_nil (TX_next (TC.sub (m':=[(10,_)]) ⟨rfl,trivial⟩ ?_))
   refine TC_ret ?_
   obtain rfl:=sj H
   exact TX1
 ·refine TLw (V_move rfl) ?_
  refine TLw (V_len_str rfl underlying9) ?_
  refine TLw (V_bin rfl rfl (fun w=>eqlI w ((key).length:Int) 32)) ?_
  refine TVf ?_
  refine TVm ?_
  refine TFd (d:=19) H (fun hc H=>?_) (fun hc H=>?_)
  ·refine TLw (V_move rfl) ?_
   refine TLw (V_len_str rfl underlying9) ?_
   refine TLw (V_bin rfl rfl (fun w=>eqlI w ((nonce).length:Int) 12)) ?_
   refine TVt ?_
   refine TVm ?_
   refine TFd (d:=24) H (fun hc H=>?_) (fun hc H=>?_)
   ·refine TLw (V_move rfl) ?_
    refine TLw (V_len_str rfl underlying9) ?_
    refine TLw (V_bin rfl rfl (fun w=>leqI w ((aad).length:Int) 65536)) ?_
    refine TVt ?_
    refine TVm ?_
    refine TFd (d:=29) H (fun hc H=>?_) (fun hc H=>?_)
    ·refine TLw (V_move rfl) ?_
     refine TLw (V_len_str rfl underlying9) ?_
     refine TLw (V_move rfl) ?_
     refine TLw (V_bin rfl rfl (fun w=>addI w 65536 more)) ?_
     refine TLw (V_bin rfl rfl (fun w=>leqI w ((s_).length:Int) (w64 (65536+more)))) ?_
     refine TVt ?_
     refine TVa ?_
     obtain ⟨x2,hx2,H⟩:=ltt_elim H
     refine TLr 10 (congrArg vb hx2) ?_
     refine TL_nil (TX_next (TC.sub (m':=[(10,_)]) ⟨rfl,trivial⟩ ?_))
     refine TC_ret ?_
     obtain rfl:=sj H
     exact TX1
    ·refine TLs ?_
     refine TLs ?_
     refine TLs ?_
     refine TLs ?_
     refine TLs ?_
     refine TVf ?_
     refine TVa ?_
     refine TL_nil (TX_next (TC.sub (m':=[(10,_)]) ⟨rfl,trivial⟩ ?_))
     refine TC_ret ?_
     obtain rfl:=sj H
     exact TX1
   ·refine TLs ?_
    refine TLs ?_
    refine TLs ?_
    refine TVf ?_
    refine TVm ?_
    refine TLs ?_
    refine TLs ?_
    refine TLs ?_
    refine TLs ?_
    refine TLs ?_
    refine TVf ?_
    refine TVa ?_
    refine TL_nil (TX_next (TC.sub (m':=[(10,_)]) ⟨rfl,trivial⟩ ?_))
    refine TC_ret ?_
    obtain rfl:=sj H
    exact TX1
  ·refine TLs ?_
   refine TLs ?_
   refine TLs ?_
   refine TVf ?_
   refine TVm ?_
   refine TLs ?_
   refine TLs ?_
   refine TLs ?_
   refine TVf ?_
   refine TVm ?_
   refine TLs ?_
   refine TLs ?_
   refine TLs ?_
   refine TLs ?_
   refine TLs ?_
   refine TVf ?_
   refine TVa ?_
   refine TL_nil (TX_next (TC.sub (m':=[(10,_)]) ⟨rfl,trivial⟩ ?_))
   refine TC_ret ?_
   obtain rfl:=sj H
   exact TX1
end Go.Proofs
end

section
namespace Go.Proofs
open Go Go.Kx
open TrydI Tryd
def halberdref4_GcmSeal (key:Str) (nonce:Str) (aad:Str) (s_:Str):Option (Str × Int) :=
 (halberdref4_gcmMay key nonce aad s_ 0).bind fun (r_1:Bool)=>(if (!r_1)=true then (some (([]:Str),500)) else ((halberdref4_schedule key).bind fun (r_2:List (Vx 8 4))=>((halberdref4_counter r_2 nonce 2 s_).bind fun (r_3:Str)=>((halberdref4_tag r_2 nonce aad r_3).bind fun (r_4:Str)=>(if (r_3).length+(r_4).length≤4611686018427387904 then (some (r_3++r_4,0)) else none)))))
set_option maxHeartbeats 4000000 in
set_option maxRecDepth 20000 in
theorem F15_calls (key:Str) (nonce:Str) (aad:Str) (s_:Str) (r:Str × Int) (H:halberdref4_GcmSeal key nonce aad s_=some r) :
  Does Tryd.prog 15 [vs key,vs nonce,vs aad,vs s_] [] [] (Γ:=Unit) (fun g=>Value.tuple [vs r.1,vi r.2].toArray) (fun g=>[]):=by
 intro w hmem hro hd
 refine calls_of (N:=31) (m0:=[(0,vs key),(1,vs nonce),(2,vs aad),(3,vs s_)]) func15 rfl ntmps15 (argM_ok [vs key,vs nonce,vs aad,vs s_]) rfl hmem hro hd ?_
 unfold halberdref4_GcmSeal at H
 refine TC_seq (TC_region (TVa ?_))
 refine TVa ?_
 refine TL_nil (TX_next (TC_seq (TC_seq (TC_region (TVm ?_)))))
 refine TVm ?_
 refine TVm ?_
 refine TVm ?_
 obtain ⟨r_1,hr_1,H⟩:=bind_elim H
 refine TLe (E_c0 (F24_calls key nonce aad s_ 0 r_1 hr_1) call24 .z) (fun g_1=>?_)
 refine TLv (V_un rfl (fun w=>notB w r_1)) ?_
 refine TL_nil (TX_next (TCb H (fun hc H=>?_) (fun hc H=>?_)))
 ·refine TC_seq (TC_region (TVa ?_))
  refine TVa ?_
  refine TL_nil (TX_next (TC_ret (TX_then_ret ?_)))
  obtain rfl:=sj H
  exact TX2
 ·refine TC_skip (TX_next (TC_seq (TC_region (TVm ?_))))
  obtain ⟨r_2,hr_2,H⟩:=bind_elim H
  refine TLe (E_call (Γ:=Adr × List (Vx 8 4)) (val:=fun g=>sl g.1 ((r_2).length) ((r_2++g.2).length)) (mem:=fun g=>[⟨g.1,eF (fun V:Vx 8 4=>e8 V.toList) (r_2++g.2)⟩]) (vs:=[vs key]) (Lin:=[]) (Ro:=[]) (is:=[]) rfl call25 (F25_calls key r_2 hr_2) rfl trivial) (fun g_2=>?_)
  refine TVa ?_
  refine TL_nil (TX_next (TC_seq (TC_region (TVm ?_))))
  refine TVm ?_
  refine TVm ?_
  obtain ⟨r_3,hr_3,H⟩:=bind_elim H
  refine TLe (E_c0 (F26_calls g_2.1 ((r_2++g_2.2).length) r_2 nonce 2 s_ (row_le _ _) r_3 hr_3) call26 ⟨(srcdRowF (s:=4) (fun _=>by simp) (.o 0)),trivial⟩) (fun g_3=>?_)
  refine TVa ?_
  refine TL_nil (TX_next (TC_seq (TC_region (TVm ?_))))
  refine TVm ?_
  refine TVm ?_
  refine TVm ?_
  refine TVm ?_
  obtain ⟨r_4,hr_4,H⟩:=bind_elim H
  refine TLe (E_c0 (F27_calls g_2.1 ((r_2++g_2.2).length) r_2 nonce aad r_3 (row_le _ _) r_4 hr_4) call27 ⟨(srcdRowF (s:=4) (fun _=>by simp) (.o 0)),trivial⟩) (fun g_4=>?_)
  obtain ⟨h1,H⟩:=if_elim H
  refine TLv (V_bin rfl rfl (fun w=>addS w r_3 r_4 h1)) ?_
  refine TVa ?_
  refine TVa ?_
  refine TL_nil (TX_next (TC_ret ?_))
  obtain rfl:=sj H
  exact TX2
end Go.Proofs
end

section
namespace Go.Proofs
open Go Go.Kx
open TrydI Tryd
def gcm_Open (key:Str) (nonce:Str) (aad:Str) (s_:Str):Option (Str × Int) :=
 (gcm_New key).bind fun (r_1:(Unit) ⊕ (Vx 8 256 × Nat × List (Vx 8 16) × BitVec 64 × BitVec 64))=>(match r_1 with | .inl r_1=>(some (([]:Str),500)) | .inr r_1=>((gcm_may nonce aad 65552 ((s_).length:Int)).bind fun (r_2:Bool)=>(if (!r_2)=true then (some (([]:Str),500)) else (ltt (w64 (((s_).length:Int) - 16)) fun (n1:Int)=>(if n1<0 then (some (([]:Str),501)) else (if 0≤n1 then (if (n1).toNat≤(s_).length then (if r_1.2.1=(r_1.2.2.1).length then ((gcm_Cipher_Tag r_1.1 r_1.2.2.1 r_1.2.2.2.1 r_1.2.2.2.2 nonce aad (sub s_ 0 ((n1).toNat))).bind fun (r_3:Str)=>(if 0≤n1 then (if (n1).toNat≤(s_).length then (if r_3 ≠ sub s_ ((n1).toNat) ((s_).length) then (some (([]:Str),501)) else ((gcm_Cipher_Xor r_1.1 r_1.2.2.1 r_1.2.2.2.1 r_1.2.2.2.2 nonce (sub s_ 0 ((n1).toNat))).bind fun (r_4:List (BitVec 8))=>(if (r_4).length=(sub s_ 0 ((n1).toNat)).length then (some (r_4,0)) else none))) else none) else none)) else none) else none) else none))))))
set_option maxHeartbeats 4000000 in
set_option maxRecDepth 20000 in
theorem F35_calls (key:Str) (nonce:Str) (aad:Str) (s_:Str) (r:Str × Int) (H:gcm_Open key nonce aad s_=some r) :
  Does Tryd.prog 35 [vs key,vs nonce,vs aad,vs s_] [] [] (Γ:=Unit) (fun g=>Value.tuple [vs r.1,vi r.2].toArray) (fun g=>[]):=by
 intro w hmem hro hd
 refine calls_of (N:=53) (m0:=[(0,vs key),(1,vs nonce),(2,vs aad),(3,vs s_)]) func35 rfl ntmps35 (argM_ok [vs key,vs nonce,vs aad,vs s_]) rfl hmem hro hd ?_
 unfold gcm_Open at H
 refine TC_seq (TC_region (TVa ?_))
 refine TVa ?_
 refine TL_nil (TX_next (TC_seq (TC_region (TVm ?_))))
 obtain ⟨r_1,hr_1,H⟩:=bind_elim H
 rcases r_1 with r_1 | r_1
 ·dsimp only at H
  refine TL_e rfl rfl rfl (E_call (Γ:=Unit × (Nat × Nat × Nat)) (val:=fun g=>Value.tuple [Value.pointer none,vb false].toArray) (mem:=fun g=>[]) (vs:=[vs key]) (Lin:=[]) (Ro:=[]) (is:=[]) rfl call31 (F31_calls key (.inl r_1) hr_1) rfl trivial) (fun g_1=>?_)
  refine TVm ?_
  refine TLv V_ex ?_
  refine TLv V_ex ?_
  refine TVa ?_
  refine TVa ?_
  refine TL_nil (TX_next (TC_seq (TC_seq (TC_region (TVm ?_)))))
  refine TLv (V_un rfl (fun w=>notB w false)) ?_
  refine TVm ?_
  refine TLs ?_
  refine TLs ?_
  refine TLs ?_
  refine TLs ?_
  refine TLs ?_
  refine TLs ?_
  refine TVt ?_
  refine TL_nil (TX_next (TC_cond_t rfl ?_))
  refine TC_seq (TC_region (TVa ?_))
  refine TVa ?_
  refine TL_nil (TX_next (TC_ret (TX_then_ret ?_)))
  obtain rfl:=sj H
  exact TX2
 ·dsimp only at H
  refine TL_e rfl rfl rfl (E_call (Γ:=Unit × (Nat × Nat × Nat)) (val:=fun g=>Value.tuple [ptr (some (g.2.1,0)) 0,vb true].toArray) (mem:=fun g=>[⟨some (g.2.1,0),[ptr (some (g.2.2.1,0)) 0]⟩,⟨some (g.2.2.1,0),e8 r_1.1.toList⟩,⟨some (g.2.2.1,256),[sl (some (g.2.2.2,0)) r_1.2.1 r_1.2.1]⟩,⟨some (g.2.2.2,0),eF (fun V:Vx 8 16=>e8 V.toList) r_1.2.2.1⟩,⟨some (g.2.1,1),[v64 r_1.2.2.2.1]⟩,⟨some (g.2.1,2),[v64 r_1.2.2.2.2]⟩]) (vs:=[vs key]) (Lin:=[]) (Ro:=[]) (is:=[]) rfl call31 (F31_calls key (.inr r_1) hr_1) rfl trivial) (fun g_2=>?_)
  refine TVm ?_
  refine TLv V_ex ?_
  refine TLv V_ex ?_
  refine TVa ?_
  refine TVa ?_
  refine TL_nil (TX_next (TC_seq (TC_seq (TC_region (TVm ?_)))))
  refine TLv (V_un rfl (fun w=>notB w true)) ?_
  refine TVm ?_
  refine TLw (V_move rfl) ?_
  refine TLw (V_move rfl) ?_
  refine TLw (V_move rfl) ?_
  refine TLw (V_len_str rfl underlying9) ?_
  obtain ⟨r_2,hr_2,H⟩:=bind_elim H
  refine TLu (E_c0 (F32_calls nonce aad 65552 ((s_).length:Int) r_2 hr_2) call32 .z) (fun g_3=>?_)
  refine TLw (V_un rfl (fun w=>notB w r_2)) ?_
  refine TVf ?_
  refine TL_nil (TX_next (TCb H (fun hc H=>?_) (fun hc H=>?_)))
  ·refine TC_seq (TC_region (TVa ?_))
   refine TVa ?_
   refine TL_nil (TX_next (TC_ret (TX_then_ret ?_)))
   obtain rfl:=sj H
   exact TX2
  ·refine TC_skip (TX_next (TC_seq (TC_region (TVm ?_))))
   refine TLv (V_len_str rfl underlying9) ?_
   refine TLv (V_bin rfl rfl (fun w=>subI w ((s_).length:Int) 16)) ?_
   refine TVa ?_
   obtain ⟨n1,hn1,H⟩:=ltt_elim H
   refine TLr 12 (congrArg vi hn1) ?_
   refine TL_nil (TX_next (TC_seq (TC_seq (TC_region (TVm ?_)))))
   refine TLv (V_bin rfl rfl (fun w=>lssI w n1 0)) ?_
   refine TL_nil (TX_next (TCd H (fun hc H=>?_) (fun hc H=>?_)))
   ·refine TC_seq (TC_region (TVa ?_))
    refine TVa ?_
    refine TL_nil (TX_next (TC.sub (m':=[(8,_),(9,_)]) ⟨rfl,rfl,trivial⟩ ?_))
    refine TC_ret (TX_then_ret ?_)
    obtain rfl:=sj H
    exact TX2
   ·refine TC_skip (TX_next (TC_seq (TC_region (TVm ?_))))
    refine TVm ?_
    obtain ⟨h1,H⟩:=if_elim H
    obtain ⟨h2,H⟩:=if_elim H
    refine TLv (V_sliceStr (l:=0) (h:=(n1).toNat) rfl underlying9 Bnd.none' (Bnd.some' (i:=n1) rfl h1) (Nat.zero_le _) h2) ?_
    refine TLe (E_s2bR rfl underlying9 underlying40 underlying5) (fun g_4=>?_)
    refine TVa ?_
    refine TL_nil (TX_next (TC.sub (m':=[(1,_),(2,_),(3,_),(10,_),(12,_),(13,_)]) ⟨rfl,rfl,rfl,rfl,rfl,rfl,trivial⟩ ?_))
    refine TC_seq (TC_seq ?_)
    obtain ⟨h3,H⟩:=if_elim H
    obtain ⟨r_3,hr_3,H⟩:=bind_elim H
    obtain ⟨h4,H⟩:=if_elim H
    obtain ⟨h5,H⟩:=if_elim H
    refine TA_begin [⟨some (g_4.1,0),e8 ((sub s_ 0 ((n1).toNat))++g_4.2)⟩,⟨some (g_2.2.1,0),[ptr (some (g_2.2.2.1,0)) 0]⟩,⟨some (g_2.2.2.1,0),e8 r_1.1.toList⟩,⟨some (g_2.2.2.2,0),eF (fun V:Vx 8 16=>e8 V.toList) r_1.2.2.1⟩,⟨some (g_2.2.1,1),[v64 r_1.2.2.2.1]⟩,⟨some (g_2.2.1,2),[v64 r_1.2.2.2.2]⟩] 9 (by kernel_rfl) (N:=9) rfl ?_
    refine TA_tk 0 [0,0,0,1,1,1] (dn 9 1) rfl rfl (V_move rfl) ?_
    refine TA_tk 1 [0,0,0,1,1,1] (dn 9 3) rfl rfl (V_move rfl) ?_
    refine TA_tk 2 [0,0,0,1,1,1] (dn 9 7) rfl rfl (V_move rfl) ?_
    refine TA_tk 3 [0,0,0,1,1,1] (dn 9 15) rfl rfl (V_move rfl) ?_
    refine TA_tk 5 [0,0,0,1,1,1] (dn 9 47) rfl rfl (V_move rfl) ?_
    refine TA_tk 6 [0,0,0,1,1,1] (dn 9 111) rfl rfl (V_move rfl) ?_
    refine TA_tk 7 [0,0,0,1,1,1] (dn 9 239) rfl rfl (V_sliceStr (l:=(n1).toNat) (h:=(s_).length) rfl underlying9 (Bnd.some' (i:=n1) rfl h4) Bnd.none' h5 (Nat.le_refl _)) ?_
    refine TA_all (rs:=[4]) (by kernel_rfl) rfl ?_
    refine ⟨?_,trivial⟩
    refine TO_reE (j:=3) (A:=some (g_2.2.2.1,256)) (cs:=[sl (some (g_2.2.2.2,0)) r_1.2.1 r_1.2.1]) (cs':=[sl (some (g_2.2.2.2,0)) ((r_1.2.2.1).length) ((r_1.2.2.1).length)]) rfl (congrArg (fun n=>[sl (some (g_2.2.2.2,0)) n n]) h3) ?_
    refine TO_e (is:=[0,0,0,1,1,1]) (done':=dn 9 255) rfl rfl rfl rfl (by kernel_rfl) (E_c0 (F34_calls g_2.2.1 0 g_2.2.2.1 0 (some (g_2.2.2.2,0)) ((r_1.2.2.1).length) (some (g_4.1,0)) (((sub s_ 0 ((n1).toNat))++g_4.2).length) r_1.1 r_1.2.2.1 r_1.2.2.2.1 r_1.2.2.2.2 nonce aad (sub s_ 0 ((n1).toNat)) (Nat.le_refl _) (row_le _ _) r_3 hr_3) call34 ⟨.o 1, .o 5, .o 6, .o 2, .o 3, .o 4,(srcdRow (.o 0)),trivial⟩) (fun _ _=>rfl) (fun g_5=>?_)
    refine TA_tk 8 [0,0,0,1,1,1] (dn 9 511) rfl rfl (V_bin rfl rfl (fun w=>neqS w r_3 (sub s_ ((n1).toNat) ((s_).length)))) ?_
    refine TA_done (by kernel_rfl) ?_ 0
    refine TX_next (TCd H (fun hc H=>?_) (fun hc H=>?_))
    ·refine TC_seq (TC_region (TVa ?_))
     refine TVa ?_
     refine TL_nil (TX_next (TC_ret (TX_then_ret ?_)))
     obtain rfl:=sj H
     exact TX2
    ·refine TC_skip (TX_next (TC_seq (TC_region (TVm ?_))))
     refine TVm ?_
     refine TVm ?_
     obtain ⟨r_4,hr_4,H⟩:=bind_elim H
     refine TLe (E_call (Γ:=Unit) (val:=fun g=>Value.tuple [].toArray) (mem:=fun g=>[⟨some (g_4.1,0),e8 (r_4++g_4.2)⟩]) (vs:=[ptr (some (g_2.2.1,0)) 0,vs nonce,sl (some (g_4.1,0)) ((sub s_ 0 ((n1).toNat)).length) (((sub s_ 0 ((n1).toNat))++g_4.2).length)]) (Lin:=[⟨some (g_4.1,0),e8 ((sub s_ 0 ((n1).toNat))++g_4.2)⟩]) (Ro:=[⟨some (g_2.2.1,0),[ptr (some (g_2.2.2.1,0)) 0]⟩,⟨some (g_2.2.1,1),[v64 r_1.2.2.2.1]⟩,⟨some (g_2.2.1,2),[v64 r_1.2.2.2.2]⟩,⟨some (g_2.2.2.1,0),e8 r_1.1.toList⟩,⟨some (g_2.2.2.1,256),[sl (some (g_2.2.2.2,0)) ((r_1.2.2.1).length) ((r_1.2.2.1).length)]⟩,⟨some (g_2.2.2.2,0),eF (fun V:Vx 8 16=>e8 V.toList) r_1.2.2.1⟩]) (is:=[0]) rfl call33 (F33_calls g_2.2.1 0 g_2.2.2.1 0 (some (g_2.2.2.2,0)) ((r_1.2.2.1).length) (some (g_4.1,0)) g_4.2 r_1.1 r_1.2.2.1 r_1.2.2.2.1 r_1.2.2.2.2 nonce (sub s_ 0 ((n1).toNat)) (Nat.le_refl _) r_4 hr_4) rfl ⟨.o 0, .o 4, .o 5, .o 1, .o 2, .o 3,trivial⟩) (fun g_6=>?_)
     obtain ⟨h6,H⟩:=if_elim H
     refine TL_re (d:=13) (v:=sl (some (g_4.1,0)) ((sub s_ 0 ((n1).toNat)).length) (((sub s_ 0 ((n1).toNat))++g_4.2).length)) (v':=sl (some (g_4.1,0)) ((r_4).length) ((r_4++g_4.2).length)) rfl (row_len h6) ?_
     refine TL_re (d:=41) (v:=sl (some (g_4.1,0)) ((sub s_ 0 ((n1).toNat)).length) (((sub s_ 0 ((n1).toNat))++g_4.2).length)) (v':=sl (some (g_4.1,0)) ((r_4).length) ((r_4++g_4.2).length)) rfl (row_len h6) ?_
     refine TL_re (d:=49) (v:=sl (some (g_4.1,0)) ((sub s_ 0 ((n1).toNat)).length) (((sub s_ 0 ((n1).toNat))++g_4.2).length)) (v':=sl (some (g_4.1,0)) ((r_4).length) ((r_4++g_4.2).length)) rfl (row_len h6) ?_
     refine TL_nil (TX_next (TC_seq (TC_region (TVm ?_))))
     refine TLv (V_b2s rfl underlying40 underlying5 underlying9 (srcRow (.o 0)) rfl) ?_
     refine TVa ?_
     refine TVa ?_
     refine TL_nil (TX_next (TC_ret ?_))
     obtain rfl:=sj H
     exact TX2
end Go.Proofs
end

section
namespace Go.Proofs
open Go Go.Kx
open TrydI Tryd
def halberdref4_GcmOpen (key:Str) (nonce:Str) (aad:Str) (s_:Str):Option (Str × Int) :=
 (halberdref4_gcmMay key nonce aad s_ 16).bind fun (r_1:Bool)=>(if (!r_1)=true then (some (([]:Str),500)) else (ltt (w64 (((s_).length:Int) - 16)) fun (k_1:Int)=>(if k_1<0 then (some (([]:Str),501)) else ((halberdref4_schedule key).bind fun (r_2:List (Vx 8 4))=>(if 0≤k_1 then (if (k_1).toNat≤(s_).length then ((halberdref4_tag r_2 nonce aad (sub s_ 0 ((k_1).toNat))).bind fun (r_3:Str)=>(if 0≤k_1 then (if (k_1).toNat≤(s_).length then (if r_3 ≠ sub s_ ((k_1).toNat) ((s_).length) then (some (([]:Str),501)) else (if 0≤k_1 then (if (k_1).toNat≤(s_).length then ((halberdref4_counter r_2 nonce 2 (sub s_ 0 ((k_1).toNat))).bind fun (r_4:Str)=>(some (r_4,0))) else none) else none)) else none) else none)) else none) else none)))))
set_option maxHeartbeats 4000000 in
set_option maxRecDepth 20000 in
theorem F21_calls (key:Str) (nonce:Str) (aad:Str) (s_:Str) (r:Str × Int) (H:halberdref4_GcmOpen key nonce aad s_=some r) :
  Does Tryd.prog 21 [vs key,vs nonce,vs aad,vs s_] [] [] (Γ:=Unit) (fun g=>Value.tuple [vs r.1,vi r.2].toArray) (fun g=>[]):=by
 intro w hmem hro hd
 refine calls_of (N:=42) (m0:=[(0,vs key),(1,vs nonce),(2,vs aad),(3,vs s_)]) func21 rfl ntmps21 (argM_ok [vs key,vs nonce,vs aad,vs s_]) rfl hmem hro hd ?_
 unfold halberdref4_GcmOpen at H
 refine TC_seq (TC_region (TVa ?_))
 refine TVa ?_
 refine TL_nil (TX_next (TC_seq (TC_seq (TC_region (TVm ?_)))))
 refine TVm ?_
 refine TVm ?_
 refine TVm ?_
 obtain ⟨r_1,hr_1,H⟩:=bind_elim H
 refine TLe (E_c0 (F24_calls key nonce aad s_ 16 r_1 hr_1) call24 .z) (fun g_1=>?_)
 refine TLv (V_un rfl (fun w=>notB w r_1)) ?_
 refine TL_nil (TX_next (TCb H (fun hc H=>?_) (fun hc H=>?_)))
 ·refine TC_seq (TC_region (TVa ?_))
  refine TVa ?_
  refine TL_nil (TX_next (TC_ret (TX_then_ret ?_)))
  obtain rfl:=sj H
  exact TX2
 ·refine TC_skip (TX_next (TC_seq (TC_region (TVm ?_))))
  refine TLv (V_len_str rfl underlying9) ?_
  refine TLv (V_bin rfl rfl (fun w=>subI w ((s_).length:Int) 16)) ?_
  refine TVa ?_
  obtain ⟨k_1,hk_1,H⟩:=ltt_elim H
  refine TLr 10 (congrArg vi hk_1) ?_
  refine TL_nil (TX_next (TC_seq (TC_seq (TC_region (TVm ?_)))))
  refine TLv (V_bin rfl rfl (fun w=>lssI w k_1 0)) ?_
  refine TL_nil (TX_next (TCd H (fun hc H=>?_) (fun hc H=>?_)))
  ·refine TC_seq (TC_region (TVa ?_))
   refine TVa ?_
   refine TL_nil (TX_next (TC_ret (TX_then_ret ?_)))
   obtain rfl:=sj H
   exact TX2
  ·refine TC_skip (TX_next (TC_seq (TC_region (TVm ?_))))
   obtain ⟨r_2,hr_2,H⟩:=bind_elim H
   refine TLe (E_call (Γ:=Adr × List (Vx 8 4)) (val:=fun g=>sl g.1 ((r_2).length) ((r_2++g.2).length)) (mem:=fun g=>[⟨g.1,eF (fun V:Vx 8 4=>e8 V.toList) (r_2++g.2)⟩]) (vs:=[vs key]) (Lin:=[]) (Ro:=[]) (is:=[]) rfl call25 (F25_calls key r_2 hr_2) rfl trivial) (fun g_2=>?_)
   refine TVa ?_
   refine TL_nil (TX_next (TC_seq (TC_seq ?_)))
   obtain ⟨h1,H⟩:=if_elim H
   obtain ⟨h2,H⟩:=if_elim H
   obtain ⟨r_3,hr_3,H⟩:=bind_elim H
   obtain ⟨h3,H⟩:=if_elim H
   obtain ⟨h4,H⟩:=if_elim H
   refine TA_begin [] 11 (by kernel_rfl) (N:=11) rfl ?_
   refine TA_mix (is:=[]) (done':=dn 11 2047) [itV 0 25 (sl g_2.1 ((r_2).length) ((r_2++g_2.2).length)) [],itV 1 26 (vs nonce) [],itV 2 27 (vs aad) [],itV 3 28 (vs s_) [],itV 4 29 (vi k_1) [],itV 5 30 (vs (sub s_ 0 ((k_1).toNat))) [3,4],itV 6 31 (vs r_3) [0,1,2,5],itV 7 32 (vs s_) [],itV 8 33 (vi k_1) [],itV 9 34 (vs (sub s_ ((k_1).toNat) ((s_).length))) [7,8],itV 10 35 (vb (decide (r_3 ≠ sub s_ ((k_1).toNat) ((s_).length)))) [9,6]] [] 0 (by kernel_rfl) (QP.then (QP.then QP.body)) (by kernel_rfl) rfl (.v rfl (V_move rfl) (.v rfl (V_move rfl) (.v rfl (V_move rfl) (.v rfl (V_move rfl) (.v rfl (V_move rfl) (.v rfl (V_sliceStr (l:=0) (h:=(k_1).toNat) rfl underlying9 Bnd.none' (Bnd.some' (i:=k_1) rfl h1) (Nat.zero_le _) h2) (.e rfl (E_cu (F27_calls g_2.1 ((r_2++g_2.2).length) r_2 nonce aad (sub s_ 0 ((k_1).toNat)) (row_le _ _) r_3 hr_3) call27 ⟨(srcdRowF (s:=4) (fun _=>by simp) (.o 0)),trivial⟩) (.v rfl (V_move rfl) (.v rfl (V_move rfl) (.v rfl (V_sliceStr (l:=(k_1).toNat) (h:=(s_).length) rfl underlying9 (Bnd.some' (i:=k_1) rfl h3) Bnd.none' h4 (Nat.le_refl _)) (.v rfl (V_bin rfl rfl (fun w=>neqS w r_3 (sub s_ ((k_1).toNat) ((s_).length)))) .nil))))))))))) .nil (by kernel_rfl) rfl (fun γ=>?_)
   refine TA_cut [(35,vb (decide (r_3 ≠ sub s_ ((k_1).toNat) ((s_).length)))),(11,sl g_2.1 ((r_2).length) ((r_2++g_2.2).length)),(10,vi k_1),(1,vs nonce),(3,vs s_)] [⟨g_2.1,eF (fun V:Vx 8 4=>e8 V.toList) (r_2++g_2.2)⟩] ⟨rfl,rfl,rfl,rfl,rfl,trivial⟩ rfl ?_
   refine TA_done (by kernel_rfl) ?_ 0
   refine TX_next (TCd H (fun hc H=>?_) (fun hc H=>?_))
   ·refine TC_seq (TC_region (TVa ?_))
    refine TVa ?_
    refine TL_nil (TX_next (TC_ret (TX_then_ret ?_)))
    obtain rfl:=sj H
    exact TX2
   ·refine TC_skip (TX_next (TC_seq (TC_region (TVm ?_))))
    refine TVm ?_
    refine TVm ?_
    refine TVm ?_
    obtain ⟨h5,H⟩:=if_elim H
    obtain ⟨h6,H⟩:=if_elim H
    refine TLv (V_sliceStr (l:=0) (h:=(k_1).toNat) rfl underlying9 Bnd.none' (Bnd.some' (i:=k_1) rfl h5) (Nat.zero_le _) h6) ?_
    obtain ⟨r_4,hr_4,H⟩:=bind_elim H
    refine TLe (E_c0 (F26_calls g_2.1 ((r_2++g_2.2).length) r_2 nonce 2 (sub s_ 0 ((k_1).toNat)) (row_le _ _) r_4 hr_4) call26 ⟨(srcdRowF (s:=4) (fun _=>by simp) (.o 0)),trivial⟩) (fun g_4=>?_)
    refine TVa ?_
    refine TVa ?_
    refine TL_nil (TX_next (TC_ret ?_))
    obtain rfl:=sj H
    exact TX2
end Go.Proofs
end

section
namespace Go.Proofs
open Go Go.Kx
open Vector (replicate)
abbrev okKey (key:Str):Prop:=key.length=16 ∨ key.length=32
def kw (key:Str):List V4:=(Wst key (key.length / 4) (4 * (key.length / 4+7))).2
def ek (key:Str) (b:V16):V16:=encV (keysOf (kw key)) b
theorem kw_len (key:Str):(kw key).length=4 * (key.length / 4+7):=Wst_len key _ _
theorem keys_len (key:Str):(keysOf (kw key)).length=key.length / 4+7:=by rw [keysOf_length,kw_len]; omega
theorem Enc_eq (key:Str) (hk:okKey key) (b:V16):aes_Cipher_Encrypt BOXV (keysOf (kw key)) b=some (ek key b) :=
 enc_eq _ b (by rw [keys_len]; omega) (by rw [keys_len]; unfold okKey at hk; omega)
theorem sched_eq (key:Str) (hk:okKey key):halberdref4_schedule key=some (kw key):=by
 unfold okKey at hk
 exact sch_eq key _ (by omega) (by omega)
theorem ciph_eq (key:Str) (hk:okKey key) (s:Str) (hs:s.length=16):halberdref4_cipher (kw key) s=some (ek key (toV s)).toList:=by
 unfold okKey at hk
 exact cipher_eq _ s (key.length / 4+7) (kw_len key) (by omega) (by omega) hs
def hE (key:Str):E2:=ld (ek key (replicate 16 0#8)).toList 0
theorem gNew_eq (key:Str) (hk:okKey key):gcm_New key=some (.inr (BOXV,key.length / 4+7,keysOf (kw key),(hE key).1,(hE key).2)):=by
 unfold gcm_New
 have hn:key.length / 4=4 ∨ key.length / 4=8:=by unfold okKey at hk; omega
 have h4:key.length=4 * (key.length / 4):=by unfold okKey at hk; omega
 refine bind_i (New_eq key _ hn h4) (if_i (keys_len key).symm (bind_i (Enc_eq key hk _) (bind_i (load_eq _ (by simp) (by simp)) ?_)))
 simp only
 rw [show (keysOf (Wst key (key.length / 4) (4 * (key.length / 4+7))).2).length=key.length / 4+7 from keys_len key]
 rfl
theorem gNew_none (key:Str) (hk : ¬ okKey key):gcm_New key=some (.inl ()):=by
 unfold gcm_New
 refine bind_i (v := .inl ()) ?_ rfl
 unfold okKey at hk
 unfold aes_New
 exact if_i (by omega) (if_i (by omega) rfl)
def cb (nonce:Str) (n:Nat):V16:=toV (nonce++bytesI (n:Int) 4)
theorem counter_eq (nonce:Str) (n:Nat) (hn:nonce.length=12) (h:n<4294967296):gcm_counter nonce (BitVec.ofNat 32 n)=some (cb nonce n):=by
 have hb:=bytesI_length (n:Int) 4
 have hbt : ∀ i,i<4 → (bytesI (n:Int) 4).getD i 0#8=((BitVec.ofNat 32 n) >>> (8 * (3 - i))).setWidth 8:=fun i hi=>by
  unfold bytesI
  rw [List.getD_eq_getElem?_getD,List.getElem?_map,List.getElem?_range hi]
  apply BitVec.eq_of_toNat_eq
  have h3:((n:Int) / 256 ^ (4 - 1 - i))=((n / 2 ^ (8 * (3 - i)):Nat):Int):=by
   rw [Nat.pow_mul]; simp
  simp only [Option.map_some,Option.getD_some,h3,BitVec.toNat_ofInt,BitVec.toNat_setWidth,BitVec.toNat_ushiftRight,BitVec.toNat_ofNat,Nat.shiftRight_eq_div_pow]
  rw [Nat.mod_eq_of_lt (a:=n) (by omega)]
  omega
 unfold gcm_counter
 refine ltt_i fun m hm=>bind_i (v:=cb nonce n) (loop_fn (fun k=>((k:Int),(Vector.ofFn fun i=>if 12≤i.val∧i.val+k<16 then 0#8 else (nonce++bytesI (n:Int) 4).getD i.val 0#8:V16))) 4 _ (by omega) ?_ (fun k hk=>?_) ?_) rfl
 ·refine Prod.ext rfl (vec_ext fun i hi=>?_)
  have ht:nonce.take (min nonce.length 16)=nonce:=List.take_of_length_le (by omega)
  rw [hm,ht,vg_vsp _ _ _ _ (by omega) hi,vg_ofFn hi]
  dsimp only
  by_cases c:i<12
  ·rw [if_pos (by omega),if_neg (by omega),List.getD_eq_getElem?_getD,List.getD_eq_getElem?_getD,List.getElem?_append_left (by omega),Nat.sub_zero]
   rfl
  ·rw [if_neg (by omega),if_pos (by omega),vg_eq' hi]; simp
 ·have e1:w64 ((k:Int)+1)=((k+1:Nat):Int):=w64_add (b:=1) (by omega)
  have e2:w64 (8 * (k:Int))=((8 * k:Nat):Int):=w64_mul (a:=8) (by omega)
  have e3:w64 (15 - (k:Int))=((15 - k:Nat):Int):=w64_sub (a:=15) (by omega) (by omega)
  unfold gcm_counter.b0
  simp only [e1,e2,e3,Int.toNat_natCast]
  clear e1 e2 e3
  refine if_i (by omega) (if_i (by omega) (if_i (by omega) (ltt_i fun m2 hm2=>?_)))
  have:m2=(Vector.ofFn fun i=>if 12≤i.val∧i.val+(k+1)<16 then 0#8 else (nonce++bytesI (n:Int) 4).getD i.val 0#8:V16):=by
   rw [hm2]
   refine vec_ext fun i hi=>?_
   rw [vg_vp (by omega) hi,vg_ofFn hi,vg_ofFn hi]
   dsimp only
   by_cases c:15 - k=i
   ·rw [if_pos c,if_neg (by omega),List.getD_eq_getElem?_getD,List.getElem?_append_right (by omega), ← List.getD_eq_getElem?_getD,hbt _ (by omega),show 8 * (3 - (i - nonce.length))=8 * k by omega]
   ·rw [if_neg c]
    by_cases c2:12≤i∧i+k<16
    ·rw [if_pos c2,if_pos (by omega)]
    ·rw [if_neg c2,if_neg (by omega)]
  rw [this]
 ·refine if_n (by show ¬ (((4:Nat):Int)<4); omega) (congrArg some (congrArg Sum.inr ?_))
  refine vec_ext fun i hi=>?_
  rw [vg_ofFn hi,cb,toV,vg_ofFn hi,if_neg (by omega)]
def xoB (key nonce:Str) (from_:Nat) (s:Str) (i:Nat):BitVec 8:=s.getD i 0#8 ^^^ vg (ek key (cb nonce (from_+i / 16))) (i % 16)
def xo (key nonce:Str) (from_:Nat) (s:Str):Str:=(List.range s.length).map (xoB key nonce from_ s)
theorem xo_length (key nonce:Str) (f:Nat) (s:Str):(xo key nonce f s).length=s.length:=by simp [xo]
def xoP (key nonce:Str) (s:Str) (m:Nat):Str:=(List.range s.length).map fun i=>if i<m then xoB key nonce 2 s i else s.getD i 0#8
theorem xoP_length (key nonce s:Str) (m:Nat):(xoP key nonce s m).length=s.length:=by simp [xoP]
theorem xoP_at (key nonce s:Str) (m i:Nat) (hi:i<s.length):lg (xoP key nonce s m) i=if i<m then xoB key nonce 2 s i else s.getD i 0#8:=by
 simp [lg,xoP,hi]
theorem xoP_set (key nonce s:Str) (m:Nat) (hm:m<s.length):(xoP key nonce s m).set m (xoB key nonce 2 s m)=xoP key nonce s (m+1):=by
 unfold xoP
 refine List.ext_getElem (by simp) fun i h1 h2=>?_
 simp only [List.getElem_set,List.getElem_map,List.getElem_range]
 by_cases c:m=i
 ·subst c; rw [if_pos rfl,if_pos (by omega)]
 ·rw [if_neg c]
  by_cases c2:i<m
  ·rw [if_pos c2,if_pos (by omega)]
  ·rw [if_neg c2,if_neg (by omega)]
theorem xor_b1 (key nonce b:Str) (k:Nat) (n:BitVec 32) (t0:Str) (hk:16 * k<b.length) (hl:b.length<1000000) :
  loop (gcm_Cipher_Xor.b1 b (16 * k,n,t0) (ek key (cb nonce (2+k))) ((min (b.length - 16 * k) 16:Nat):Int)) BIG (0,xoP key nonce b (16 * k))=some (xoP key nonce b (min (16 * (k+1)) b.length)):=by
 refine loop_fn (fun j=>((j:Int),xoP key nonce b (16 * k+j))) (min (b.length - 16 * k) 16) _ (by omega) rfl (fun j hj=>?_) ?_
 ·have e1:w64 ((j:Int)+1)=((j+1:Nat):Int):=w64_add (b:=1) (by omega)
  have hlen:=xoP_length key nonce b (16 * k+j)
  unfold gcm_Cipher_Xor.b1
  simp only [e1,Int.toNat_natCast]
  clear e1
  refine if_i (by omega) (if_i (by omega) (if_i (by omega) (if_i (by omega) (if_i (by omega) (if_i (by omega) (if_i (by omega) (if_i (by omega) (ltt_i fun m hm=>?_))))))))
  have:m=xoP key nonce b (16 * k+(j+1)):=by
   rw [hm,xoP_at _ _ _ _ _ (by omega),if_neg (by omega), ← Nat.add_assoc, ← xoP_set key nonce b (16 * k+j) (by omega)]
   unfold xoB
   rw [show (16 * k+j) / 16=k by omega,show (16 * k+j) % 16=j by omega]
  rw [this]
 ·unfold gcm_Cipher_Xor.b1
  refine if_n (by simp only; omega) ?_
  rw [show 16 * k+min (b.length - 16 * k) 16=min (16 * (k+1)) b.length by omega]
theorem Xor_eq (key nonce:Str) (hk:okKey key) (hn:nonce.length=12) (h:E2) (b:Str) (hl:b.length<1000000):gcm_Cipher_Xor BOXV (keysOf (kw key)) h.1 h.2 nonce b=some (xo key nonce 2 b):=by
 unfold gcm_Cipher_Xor
 refine bind_i (v:=xo key nonce 2 b) (loop_fn (fun k=>(min (16 * k) b.length,BitVec.ofNat 32 (2+k),xoP key nonce b (min (16 * k) b.length))) ((b.length+15) / 16) _ (by omega) ?_ (fun k hk2=>?_) ?_) rfl
 ·refine Prod.ext (by simp) (Prod.ext rfl ?_)
  show b=xoP key nonce b (min (16 * 0) b.length)
  unfold xoP
  refine List.ext_getElem (by simp) fun i h1 h2=>?_
  simp [h1]
 ·have hkb:16 * k<b.length:=by omega
  have hm1:min (16 * k) b.length=16 * k:=by omega
  rw [hm1]
  unfold gcm_Cipher_Xor.b0
  simp only
  refine if_i (by omega) (bind_i (counter_eq nonce (2+k) hn (by omega)) (bind_i (Enc_eq key hk _) (ltt_i fun m hm=>?_)))
  have hm2:m=((min (b.length - 16 * k) 16:Nat):Int):=by rw [hm]; omega
  rw [hm2]
  refine bind_i (xor_b1 key nonce b k _ _ hkb hl) ?_
  have hlen:=xoP_length key nonce b (min (16 * (k+1)) b.length)
  simp only [Int.toNat_natCast]
  refine if_i (by omega) (if_i (by omega) (if_i (by omega) (if_i (by omega) (ltt_i fun n1 hn1=>?_))))
  have h2k:BitVec.ofNat 32 (2+(k+1))=BitVec.ofNat 32 (2+k)+1#32:=by rw [show 2+(k+1)=(2+k)+1 by omega,BitVec.ofNat_add]
  rw [hn1,h2k,show 16 * k+min (b.length - 16 * k) 16=min (16 * (k+1)) b.length by omega]
 ·unfold gcm_Cipher_Xor.b0
  refine if_n (by simp only; omega) (congrArg some (congrArg Sum.inr ?_))
  simp only
  unfold xoP xo
  refine List.map_congr_left fun i hi=>?_
  have:i<b.length:=by simpa using hi
  rw [if_pos (by omega)]
def xoQ (key nonce:Str) (f:Nat) (s:Str) (m:Nat):Str:=(List.range s.length).map fun i=>if i<m then xoB key nonce f s i else 0#8
theorem xoQ_set (key nonce:Str) (f:Nat) (s:Str) (m:Nat) (hm:m<s.length):(xoQ key nonce f s m).set m (xoB key nonce f s m)=xoQ key nonce f s (m+1):=by
 unfold xoQ
 refine List.ext_getElem (by simp) fun i h1 h2=>?_
 simp only [List.getElem_set,List.getElem_map,List.getElem_range]
 by_cases c:m=i
 ·subst c; rw [if_pos rfl,if_pos (by omega)]
 ·rw [if_neg c]
  by_cases c2:i<m
  ·rw [if_pos c2,if_pos (by omega)]
  ·rw [if_neg c2,if_neg (by omega)]
theorem cnt_b1 (key nonce s:Str) (f k:Nat) (hk:16 * k<s.length) (hl:s.length<1000000) (t0:Str) :
  loop (halberdref4_counter.b1 s (((16 * k:Nat):Int),t0) (ek key (cb nonce (f+k))).toList) BIG (0,xoQ key nonce f s (16 * k))=some (xoQ key nonce f s (min (16 * (k+1)) s.length)):=by
 refine loop_fn (fun j=>((j:Int),xoQ key nonce f s (16 * k+j))) (min (s.length - 16 * k) 16) _ (by omega) rfl (fun j hj=>?_) ?_
 ·have e1:w64 ((j:Int)+1)=((j+1:Nat):Int):=w64_add (b:=1) (by omega)
  have e2:w64 (((16 * k:Nat):Int)+(j:Int))=((16 * k+j:Nat):Int):=w64_add (by omega)
  have hlen:(xoQ key nonce f s (16 * k+j)).length=s.length:=by simp [xoQ]
  unfold halberdref4_counter.b1
  simp only [e1,e2,Int.toNat_natCast,sg_nat]
  clear e1 e2
  refine if_i (by omega) (if_i (by omega) (if_i (by omega) (if_i (by simp; omega) (if_i (by omega) (if_i (by omega) (ltt_i fun m hm=>ltt_i fun j1 hj1=>?_))))))
  have:m=xoQ key nonce f s (16 * k+(j+1)):=by
   rw [hm, ← Nat.add_assoc, ← xoQ_set key nonce f s (16 * k+j) (by omega)]
   unfold xoB
   rw [show (16 * k+j) / 16=k by omega,show (16 * k+j) % 16=j by omega]
   rfl
  rw [hj1,this]
 ·unfold halberdref4_counter.b1
  have hend:16 * k+min (s.length - 16 * k) 16=min (16 * (k+1)) s.length:=by omega
  rw [hend]
  by_cases c:16≤s.length - 16 * k
  ·exact if_n (by simp only; omega) rfl
  ·have e2:w64 (((16 * k:Nat):Int)+((min (s.length - 16 * k) 16:Nat):Int))=((16 * k+min (s.length - 16 * k) 16:Nat):Int):=w64_add (by omega)
   simp only [e2]
   exact if_i (by omega) (if_n (by omega) rfl)
theorem counterR_eq (key nonce:Str) (hk:okKey key) (hn:nonce.length=12) (f:Nat) (hf:f<1000) (s:Str) (hl:s.length<1000000):halberdref4_counter (kw key) nonce (f:Int) s=some (xo key nonce f s):=by
 unfold halberdref4_counter
 refine if_i (by omega) (bind_i (v:=xo key nonce f s) (loop_fn (fun k=>(((16 * k:Nat):Int),xoQ key nonce f s (min (16 * k) s.length))) ((s.length+15) / 16) _ (by omega) ?_ (fun k hk2=>?_) ?_) (if_i (by rw [xo_length]; rfl) rfl))
 ·refine Prod.ext rfl ?_
  show List.replicate ((s.length:Int).toNat) 0#8=xoQ key nonce f s (min (16 * 0) s.length)
  unfold xoQ
  refine List.ext_getElem (by simp) fun i h1 h2=>?_
  simp
 ·have hkb:16 * k<s.length:=by omega
  have hm1:min (16 * k) s.length=16 * k:=by omega
  have e1:w64 (((16 * k:Nat):Int).tdiv 16)=(k:Int):=(w64_div (a:=16 * k) (b:=16) (by omega)).trans (by omega)
  have e2:w64 ((f:Int)+(k:Int))=((f+k:Nat):Int):=w64_add (by omega)
  have e3:w64 (((16 * k:Nat):Int)+16)=((16 * (k+1):Nat):Int):=(w64_add (b:=16) (by omega)).trans (by omega)
  have hb:=bytesI_length ((f+k:Nat):Int) 4
  rw [hm1]
  unfold halberdref4_counter.b0
  simp only [e1,e2,e3]
  clear e1 e2 e3
  refine if_i (by omega) (bind_i (Be_eq _ 4 (by decide)) (if_i (by omega) (bind_i (ciph_eq key hk _ (by rw [List.length_append]; omega)) (bind_i (cnt_b1 key nonce s f k hkb hl _) (ltt_i fun i hi=>?_)))))
  rw [hi]
 ·unfold halberdref4_counter.b0
  refine if_n (by simp only; omega) (congrArg some (congrArg Sum.inr ?_))
  simp only
  unfold xoQ xo
  refine List.map_congr_left fun i hi=>?_
  have:i<s.length:=by simpa using hi
  rw [if_pos (by omega)]
theorem ofN_byte (x:BitVec 64):((x >>> 8) <<< 8) ||| ((x.setWidth 8).setWidth 64)=x:=by
 apply BitVec.eq_of_getLsbD_eq
 intro i hi
 simp only [BitVec.getLsbD_or,BitVec.getLsbD_shiftLeft,BitVec.getLsbD_ushiftRight,BitVec.getLsbD_setWidth]
 by_cases c:i<8
 ·simp [c,hi]
 ·simp [c,hi,show 8+(i - 8)=i by omega]
theorem be8_word (s:Str) (a:Nat) (w:BitVec 64) (h : ∀ i,i<8 → s.getD (a+i) 0#8=(w >>> (8 * (7 - i))).setWidth 8):be8 s a 8=w:=by
 have : ∀ j,j≤8 → be8 s a j=w >>> (8 * (8 - j)):=by
  intro j
  induction j with
  | zero=>intro _; exact (BitVec.ushiftRight_eq_zero (Nat.le_refl _)).symm
  | succ j ih =>
   intro hj
   simp only [be8]
   rw [ih (by omega),h j (by omega)]
   have:=ofN_byte (w >>> (8 * (8 - (j+1))))
   rw [← BitVec.shiftRight_add,show 8 * (8 - (j+1))+8=8 * (8 - j) by omega] at this
   rw [show 8 * (7 - j)=8 * (8 - (j+1)) by omega]
   exact this
 have:=this 8 (Nat.le_refl _)
 simpa using this
theorem ld_by16 (e:E2):ld (by16 e) 0=e:=by
 unfold ld
 refine Prod.ext ?_ ?_
 ·exact be8_word _ _ _ fun i hi=>by rw [Nat.zero_add,byV_at e i (by omega),if_pos hi]
 ·exact be8_word _ _ _ fun i hi=>by rw [Nat.zero_add,byV_at e (8+i) (by omega),if_neg (by omega),show 8+i - 8=i by omega]
theorem bytesI8_hexW (L:Nat):bytesI (L:Int) 8=hexW (BitVec.ofNat 64 L) 8:=by
 unfold bytesI hexW
 refine List.map_congr_left fun i hi=>?_
 have hi8:i<8:=by simpa using hi
 apply BitVec.eq_of_toNat_eq
 have h3:((L:Int) / 256 ^ (8 - 1 - i))=((L / 2 ^ (8 * (8 - 1 - i)):Nat):Int):=by
  rw [Nat.pow_mul]; simp
 simp only [h3,BitVec.toNat_ofInt,BitVec.toNat_setWidth,BitVec.toNat_ushiftRight,BitVec.toNat_ofNat,Nat.shiftRight_eq_div_pow]
 rcases (by omega:i=0 ∨ i=1 ∨ i=2 ∨ i=3 ∨ i=4 ∨ i=5 ∨ i=6 ∨ i=7) with h | h | h | h | h | h | h | h <;> subst h <;> simp only [Nat.reduceSub,Nat.reduceMul,Nat.reducePow,Nat.reduceAdd] <;> omega
def szs (aad c:Str):E2:=(BitVec.ofNat 64 (8 * aad.length),BitVec.ofNat 64 (8 * c.length))
def tagY (key aad c:Str):E2:=ghs (hE key) (fil aad++fil c++by16 (szs aad c)) z2
def tagE (key nonce aad c:Str):Str:=xo key nonce 1 (by16 (tagY key aad c))
theorem ghs16 (h:E2) (s:Str) (y:E2) (hs:s.length=16):ghs h s y=prod (xr (ld s 0) y) h:=by
 unfold ghs
 rw [hs,show 16 / 16=0+1 from rfl]
 simp only [iter]
 unfold gh
 rw [Nat.mul_zero]
theorem tagY_eq (key aad c:Str):tagY key aad c=prod (xr (szs aad c) (ghs (hE key) (fil c) (ghs (hE key) (fil aad) z2))) (hE key):=by
 have h1:(fil aad).length % 16=0:=by rw [fil_length]; omega
 have h2:(fil c).length % 16=0:=by rw [fil_length]; omega
 unfold tagY
 rw [ghs_app _ _ _ _ (by rw [List.length_append]; omega),ghs_app _ _ _ _ h1,ghs16 _ _ _ (by16_length _),ld_by16]
theorem tag_b0 (V W:V16):loop (gcm_Cipher_Tag.b0 W) BIG (0,V)=some (Vector.ofFn fun i=>vg V i.val ^^^ vg W i.val):=by
 refine loop_fill _ (fun i=>vg V i ^^^ vg W i) id (by omega) (fun k v hk hv=>?_) (fun v=>?_)
 ·have e1:w64 ((k:Int)+1)=((k+1:Nat):Int):=w64_add (b:=1) (by omega)
  unfold gcm_Cipher_Tag.b0
  simp only [e1,Int.toNat_natCast]
  refine if_i (by omega) (if_i (by omega) (if_i (by omega) (if_i (by omega) (ltt_i fun m hm=>?_))))
  rw [hm,hv k (Nat.le_refl _) hk]
 ·unfold gcm_Cipher_Tag.b0
  exact if_n (by omega) rfl
theorem Tag_eq (key nonce:Str) (hk:okKey key) (hn:nonce.length=12) (aad b:Str) (ha:aad.length<1000000) (hb:b.length<1000000):gcm_Cipher_Tag BOXV (keysOf (kw key)) (hE key).1 (hE key).2 nonce aad b=some (tagE key nonce aad b):=by
 unfold gcm_Cipher_Tag
 obtain ⟨V1,hV1,he1⟩:=ebytes_eq (szs aad b)
 obtain ⟨V2,hV2,he2⟩:=ebytes_eq (tagY key aad b)
 have hsz : ∀ n:Nat,(BitVec.ofInt 64 (n:Int)) * 8#64=BitVec.ofNat 64 (8 * n):=fun n=>by
  rw [BitVec.ofInt_natCast,Nat.mul_comm,BitVec.ofNat_mul]
 refine bind_i (newSum_eq (hE key)) (bind_i (all_eq (hE key) z2 aad (by omega)) (bind_i (all_eq (hE key) _ b (by omega)) ?_))
 rw [hsz,hsz]
 refine bind_i he1 (bind_i (add_eq (hE key) _ _ (by simp) (by simp)) ?_)
 rw [hV1,ld_by16, ← tagY_eq]
 refine bind_i he2 (bind_i (counter_eq nonce 1 hn (by decide)) (bind_i (Enc_eq key hk _) (bind_i (tag_b0 _ _) (congrArg some ?_))))
 have hV2i : ∀ i,vg V2 i=(by16 (tagY key aad b)).getD i 0#8:=fun i=>by
  show V2.toList.getD i 0#8=_
  rw [hV2]
 unfold tagE xo
 generalize tagY key aad b=Y at hV2i
 rw [by16_length]
 refine List.ext_getElem (by simp) fun i h1 h2=>?_
 have hi:i<16:=by simpa using h1
 simp only [Vector.getElem_toList,Vector.getElem_ofFn,List.getElem_map,List.getElem_range]
 unfold xoB
 rw [show 1+i / 16=1 by omega,show i % 16=i by omega,hV2i]
theorem tagR_eq (key nonce:Str) (hk:okKey key) (hn:nonce.length=12) (aad c:Str) (ha:aad.length<1000000) (hc:c.length<1000000):halberdref4_tag (kw key) nonce aad c=some (tagE key nonce aad c):=by
 have e1 : ∀ n:Nat,n<1000000 → w64 (8 * (n:Int))=((8 * n:Nat):Int):=fun n h=>w64_mul (a:=8) (by omega)
 have f1:=fil_length aad
 have f2:=fil_length c
 unfold halberdref4_tag
 rw [e1 _ ha,e1 _ hc]
 have hz:toV (List.replicate 16 0#8)=replicate 16 0#8:=by decide +kernel
 refine if_i (by simp) (bind_i (ciph_eq key hk _ (by simp)) (bind_i (Be_eq _ 8 (by decide)) (bind_i (Be_eq _ 8 (by decide)) (if_i (by simp [bytesI_length]) (bind_i (filled_eq aad (by omega)) (bind_i (filled_eq c (by omega)) (if_i (by show (fil aad).length+(fil c).length≤_; omega) (if_i (by simp only [List.length_append,bytesI_length,List.length_replicate]; omega) ?_))))))))
 rw [hz]
 have hs:bytesI ((8 * aad.length:Nat):Int) 8++bytesI ((8 * c.length:Nat):Int) 8=by16 (szs aad c):=by
  rw [bytesI8_hexW,bytesI8_hexW]; rfl
 rw [hs]
 have hlen:(fil aad++fil c++by16 (szs aad c)).length<1152921504606846976:=by
  simp only [List.length_append,by16_length]; omega
 refine bind_i (ghash_eq _ _ (by simp) hlen) (bind_i (counterR_eq key nonce hk hn 1 (by decide) _ (by rw [by16_length]; decide)) rfl)
abbrev okG (key nonce aad:Str) (n most:Nat):Prop:=okKey key∧nonce.length=12∧aad.length≤65536∧n≤most
theorem may_eq (nonce aad:Str) (most long:Nat):gcm_may nonce aad (most:Int) (long:Int)=some (decide (nonce.length=12∧aad.length≤65536∧long≤most)):=by
 unfold gcm_may
 by_cases c1:nonce.length=12
 ·refine if_i (by omega) ?_
  by_cases c2:aad.length≤65536
  ·refine if_i (by omega) (ltt_i fun x hx=>?_)
   rw [hx]
   refine congrArg some ?_
   rw [decide_eq_decide]
   omega
  ·refine if_n (by omega) (congrArg some ?_)
   rw [eq_comm,decide_eq_false_iff_not]; omega
 ·refine if_n (by omega) (congrArg some ?_)
  rw [eq_comm,decide_eq_false_iff_not]; omega
theorem gcmMay_eq (key nonce aad s:Str) (more:Nat) (hm:more≤1000):halberdref4_gcmMay key nonce aad s (more:Int)=some (decide (okG key nonce aad s.length (65536+more))):=by
 have e1:w64 (65536+(more:Int))=((65536+more:Nat):Int):=w64_add (a:=65536) (by omega)
 unfold halberdref4_gcmMay okG okKey
 rw [e1]
 clear e1
 have tail : ∀ (hk:key.length=16 ∨ key.length=32),(if ((nonce).length:Int)=12 then (if ((aad).length:Int)≤65536 then (ltt (decide (((s).length:Int)≤((65536+more:Nat):Int))) fun (x1:Bool)=>(some x1)) else (some false)) else (some false))=some (decide ((key.length=16 ∨ key.length=32)∧nonce.length=12∧aad.length≤65536∧s.length≤65536+more)):=by
  intro hk
  by_cases c1:nonce.length=12
  ·refine if_i (by omega) ?_
   by_cases c2:aad.length≤65536
   ·refine if_i (by omega) (ltt_i fun x hx=>?_)
    rw [hx]
    refine congrArg some ?_
    rw [decide_eq_decide]
    omega
   ·refine if_n (by omega) (congrArg some ?_)
    rw [eq_comm,decide_eq_false_iff_not]; omega
  ·refine if_n (by omega) (congrArg some ?_)
   rw [eq_comm,decide_eq_false_iff_not]; omega
 by_cases k1:key.length=16
 ·exact if_i (by omega) (tail (.inl k1))
 ·refine if_n (by omega) ?_
  by_cases k2:key.length=32
  ·exact if_i (by omega) (tail (.inr k2))
  ·refine if_n (by omega) (congrArg some ?_)
   rw [eq_comm,decide_eq_false_iff_not]; omega
def sealE (key nonce aad s:Str):Str × Int:=if okG key nonce aad s.length 65536 then (xo key nonce 2 s++tagE key nonce aad (xo key nonce 2 s),0) else ([],500)
theorem tagE_length (key nonce aad c:Str):(tagE key nonce aad c).length=16:=by rw [tagE,xo_length,by16_length]
theorem Seal_eq (key nonce aad s:Str):gcm_Seal key nonce aad s=some (sealE key nonce aad s):=by
 unfold gcm_Seal sealE
 by_cases hk:okKey key
 ·refine bind_i (gNew_eq key hk) (bind_i (may_eq nonce aad 65536 s.length) ?_)
  by_cases c:nonce.length=12∧aad.length≤65536∧s.length≤65536
  ·have hx:=xo_length key nonce 2 s
   have ht:=tagE_length key nonce aad (xo key nonce 2 s)
   rw [if_pos (⟨hk,c⟩:okG key nonce aad s.length 65536)]
   refine if_n (by simp [c]) (if_i (keys_len key).symm (bind_i (Xor_eq key nonce hk c.1 _ s (by omega)) (if_i hx (bind_i (Tag_eq key nonce hk c.1 aad _ (by omega) (by omega)) (if_i (by omega) rfl)))))
  ·rw [if_neg (show ¬ okG key nonce aad s.length 65536 from fun h=>c h.2)]
   exact if_i (by simp [c]) rfl
 ·rw [if_neg (show ¬ okG key nonce aad s.length 65536 from fun h=>hk h.1)]
  exact bind_i (gNew_none key hk) rfl
theorem SealR_eq (key nonce aad s:Str):halberdref4_GcmSeal key nonce aad s=some (sealE key nonce aad s):=by
 unfold halberdref4_GcmSeal sealE
 refine bind_i (gcmMay_eq key nonce aad s 0 (by decide)) ?_
 rw [Nat.add_zero]
 by_cases c:okG key nonce aad s.length 65536
 ·have hx:=xo_length key nonce 2 s
  have ht:=tagE_length key nonce aad (xo key nonce 2 s)
  obtain ⟨hk,hn,ha,hl⟩:=id c
  rw [if_pos c]
  refine if_n (by simp [c]) (bind_i (sched_eq key hk) (bind_i (counterR_eq key nonce hk hn 2 (by decide) s (by omega)) (bind_i (tagR_eq key nonce hk hn aad _ (by omega) (by omega)) (if_i (by omega) rfl))))
 ·rw [if_neg c]
  exact if_i (by simp [c]) rfl
def openE (key nonce aad s:Str):Str × Int :=
 if okG key nonce aad s.length 65552 then (if s.length<16 then ([],501) else if tagE key nonce aad (sub s 0 (s.length - 16)) ≠ sub s (s.length - 16) s.length then ([],501) else (xo key nonce 2 (sub s 0 (s.length - 16)),0)) else ([],500)
theorem Open_eq (key nonce aad s:Str):gcm_Open key nonce aad s=some (openE key nonce aad s):=by
 unfold gcm_Open openE
 by_cases hk:okKey key
 ·refine bind_i (gNew_eq key hk) (bind_i (may_eq nonce aad 65552 s.length) ?_)
  by_cases c:nonce.length=12∧aad.length≤65536∧s.length≤65552
  ·rw [if_pos (⟨hk,c⟩:okG key nonce aad s.length 65552)]
   have e0:w64 ((s.length:Int) - 16)=(s.length:Int) - 16:=w64_id (by omega) (by omega)
   refine if_n (by simp [c]) (ltt_i fun n1 hn1=>?_)
   rw [e0] at hn1
   clear e0
   by_cases c2:s.length<16
   ·rw [if_pos c2]
    exact if_i (by omega) rfl
   ·rw [if_neg c2]
    have hn:n1.toNat=s.length - 16:=by omega
    rw [hn]
    have hsl:(sub s 0 (s.length - 16)).length=s.length - 16:=by rw [sub_length (by omega)]; omega
    refine if_n (by omega) (if_i (by omega) (if_i (by omega) (if_i (keys_len key).symm (bind_i (Tag_eq key nonce hk c.1 aad _ (by omega) (by omega)) (if_i (by omega) (if_i (by omega) ?_))))))
    by_cases c3:tagE key nonce aad (sub s 0 (s.length - 16)) ≠ sub s (s.length - 16) s.length
    ·rw [if_pos c3,if_pos c3]
    ·rw [if_neg c3,if_neg c3]
     exact bind_i (Xor_eq key nonce hk c.1 _ _ (by omega)) (if_i (xo_length _ _ _ _) rfl)
  ·rw [if_neg (show ¬ okG key nonce aad s.length 65552 from fun h=>c h.2)]
   exact if_i (by simp [c]) rfl
 ·rw [if_neg (show ¬ okG key nonce aad s.length 65552 from fun h=>hk h.1)]
  exact bind_i (gNew_none key hk) rfl
theorem OpenR_eq (key nonce aad s:Str):halberdref4_GcmOpen key nonce aad s=some (openE key nonce aad s):=by
 unfold halberdref4_GcmOpen openE
 refine bind_i (gcmMay_eq key nonce aad s 16 (by decide)) ?_
 rw [show 65536+16=65552 from rfl]
 by_cases c:okG key nonce aad s.length 65552
 ·obtain ⟨hk,hn0,ha,hl⟩:=id c
  rw [if_pos c]
  have e0:w64 ((s.length:Int) - 16)=(s.length:Int) - 16:=w64_id (by omega) (by omega)
  refine if_n (by simp [c]) (ltt_i fun n1 hn1=>?_)
  rw [e0] at hn1
  clear e0
  by_cases c2:s.length<16
  ·rw [if_pos c2]
   exact if_i (by omega) rfl
  ·rw [if_neg c2]
   have hn:n1.toNat=s.length - 16:=by omega
   rw [hn]
   have hsl:(sub s 0 (s.length - 16)).length=s.length - 16:=by rw [sub_length (by omega)]; omega
   refine if_n (by omega) (bind_i (sched_eq key hk) (if_i (by omega) (if_i (by omega) (bind_i (tagR_eq key nonce hk hn0 aad _ (by omega) (by omega)) (if_i (by omega) (if_i (by omega) ?_))))))
   by_cases c3:tagE key nonce aad (sub s 0 (s.length - 16)) ≠ sub s (s.length - 16) s.length
   ·rw [if_pos c3,if_pos c3]
   ·rw [if_neg c3,if_neg c3]
    exact if_i (by omega) (if_i (by omega) (bind_i (counterR_eq key nonce hk hn0 2 (by decide) _ (by omega)) rfl))
 ·rw [if_neg c]
  exact if_i (by simp [c]) rfl
end Go.Proofs
end

section
namespace Go.Proofs
open Go Go.Kx
theorem xo_xo (key nonce:Str) (f:Nat) (s:Str):xo key nonce f (xo key nonce f s)=s:=by
 unfold xo
 refine List.ext_getElem (by simp) fun i h1 h2=>?_
 simp only [List.getElem_map,List.getElem_range,xoB,List.getD_eq_getElem?_getD,List.getElem?_map,List.getElem?_range h2,Option.map_some,Option.getD_some,BitVec.xor_assoc,BitVec.xor_self,BitVec.xor_zero]
 rw [List.getElem?_eq_getElem h2]; rfl
theorem sub_pre (a b:Str) (n:Nat) (h:n=a.length):sub (a++b) 0 n=a:=by
 unfold sub; rw [h]; simp
end Go.Proofs
end

section
namespace Go.Kx
open Go
def notI:TypeDesc → Bool
 | .interface _=>false
 | _=>true
section
variable {C:Ctx} {m:Sl} {L:Mem} {dst:Option Tmp} {ty:TypeId} {pos:String} {af:Array Edge} {gd:Option (Nat × Bool)}
theorem V_mkI {x:Operand} {v r:Value} {t:TypeId} {d:TypeDesc} (hx:ev m x=some v) (hu:C.P.underlying t=some d) (hd:notI d=true) (hr:Value.iface t v=r):OpV C ⟨dst, .makeInterface t x,ty,pos,af,gd⟩ m L r:=fun a w hs=>by
 subst hr
 show ((Instr.makeInterface t (a.eval x)) >>= fun r=>pure (Next.value r)).run C.P w=_
 rw [hs.slots.ev hx]
 unfold Instr.makeInterface
 simp only [Sem.run_bind,run_underlying hu]
 cases d <;> simp_all [notI,Result.andThen]
end
section
variable {P:Program} {t:TypeId} {x:Operand} {c:Value}
theorem eqE0 (w:World) (k:Nat) (e:Er) {ms} (ht:P.underlying t=some (.interface ms)):(Op.equalIn (k+1) t (vE e) .nilIface).run P w = .ok (Er.isNil e) w:=by
 cases e <;> simp [Op.equalIn,vE,Sem.run_bind,run_underlying ht,Er.isNil]
theorem guardE {op:BinOp} (w:World) (e:Er):(eqGuard op t x (.const c) (vE e) .nilIface).run P w = .ok () w:=by
 cases e <;> cases op <;> simp [eqGuard,vE]
theorem neqE (w:World) (e:Er) {ms} (ht:P.underlying t=some (.interface ms)):(binG .neq t x (.const c) (vE e) (vE Er.nil)).run P w = .ok (vb (!(Er.isNil e))) w:=binG_of w (guardE w e) (by
 have h:=eqE0 (P:=P) (t:=t) w 9999 e ht
 cases e <;> (show ((Op.equalIn (9999+1) t _ .nilIface) >>= fun r=>pure (Value.bool (!r))).run P w=_; rw [Sem.run_bind,h]; simp [vb]))
end
end Go.Kx
end

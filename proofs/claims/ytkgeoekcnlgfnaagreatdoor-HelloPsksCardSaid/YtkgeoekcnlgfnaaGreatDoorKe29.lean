/-
  Part 29 of the proof of what several laws share.
-/
import Derived.Test.YtkgeoekcnlgfnaaGreatDoorKe1
import Derived.Test.YtkgeoekcnlgfnaaGreatDoorKe2
import Derived.Test.YtkgeoekcnlgfnaaGreatDoorKe3
import Derived.Test.YtkgeoekcnlgfnaaGreatDoorKe4
import Derived.Test.YtkgeoekcnlgfnaaGreatDoorKe5
import Derived.Test.YtkgeoekcnlgfnaaGreatDoorKe6
import Derived.Test.YtkgeoekcnlgfnaaGreatDoorKe7
import Derived.Test.YtkgeoekcnlgfnaaGreatDoorKe14
import Derived.Test.YtkgeoekcnlgfnaaGreatDoorKe17
import Derived.Test.YtkgeoekcnlgfnaaGreatDoorKe18
import Derived.Test.YtkgeoekcnlgfnaaGreatDoorKe19
import Derived.Test.YtkgeoekcnlgfnaaGreatDoorKe20
import Derived.Test.YtkgeoekcnlgfnaaGreatDoorKe26
import Derived.Test.YtkgeoekcnlgfnaaGreatDoorKe27
import Derived.Test.YtkgeoekcnlgfnaaGreatDoorKe28
set_option linter.unusedVariables false
set_option linter.unusedSimpArgs false
section
namespace Go.Proofs
open Go Go.Kx
open TryzI Tryz
def halberdref4_whole.b0  (s0:BitVec 64 × BitVec 64 × Int × List (BitVec 8)):Option ((BitVec 64 × BitVec 64 × Int × List (BitVec 8)) ⊕ (List (BitVec 8))) :=
 if 0≤s0.2.2.1 then (if 0≤s0.2.2.1∧s0.2.2.1<(16:Int) then (if (s0.2.2.1).toNat<(s0.2.2.2).length then (ltt (s0.2.2.2.set ((s0.2.2.1).toNat) ((s0.1 &&& 255#64).setWidth 8)) fun (m_1:List (BitVec 8))=>(if 0≤w64 (8+s0.2.2.1)∧w64 (8+s0.2.2.1)<(16:Int) then (if (w64 (8+s0.2.2.1)).toNat<(m_1).length then (ltt (m_1.set ((w64 (8+s0.2.2.1)).toNat) ((s0.2.1 &&& 255#64).setWidth 8)) fun (m_2:List (BitVec 8))=>(ltt (w64 (s0.2.2.1 - 1)) fun (i1:Int)=>(some (.inl (s0.1 >>> 8,s0.2.1 >>> 8,i1,m_2))))) else none) else none)) else none) else none) else (some (.inr s0.2.2.2))
def halberdref4_whole (a_:BitVec 64) (b:BitVec 64):Option (Str) :=
 (loop (halberdref4_whole.b0) BIG (a_,b,7,List.replicate 16 0#8)).bind fun (t_1:List (BitVec 8))=>(if (t_1).length=16 then (some t_1) else none)
set_option maxHeartbeats 4000000 in
set_option maxRecDepth 20000 in
theorem F118_calls (a_:BitVec 64) (b:BitVec 64) (r:Str) (H:halberdref4_whole a_ b=some r) :
  Does Tryz.prog 118 [v64 a_,v64 b] [] [] (Γ:=Unit) (fun g=>vs r) (fun g=>[]):=by
 intro w hmem hro hd
 refine calls_of (N:=31) (m0:=[(0,v64 a_),(1,v64 b)]) func118 rfl ntmps118 (argM_ok [v64 a_,v64 b]) rfl hmem hro hd ?_
 unfold halberdref4_whole at H
 refine TC_seq (TC_region (TVa ?_))
 refine TL_nil (TX_next (TC_seq (TC_region (TLe (E_mk1 rfl rfl underlying86 inf5 (z:=v8 0#8) rfl rfl rfl (B:=1) rfl (by decide) (Int.le_refl _) (by decide) (by decide) (n':=16) (c':=16) rfl rfl (cs:=e8 (List.replicate 16 0#8)) (rep_map (f:=v8))) (fun b1=>?_)))))
 refine TVa ?_
 refine TL_nil (TX_next (TC_seq (TC_seq (TC_region (TVa ?_)))))
 refine TL_nil (TX_next (TC_block ?_))
 obtain ⟨t_1,Hl,H⟩:=bind_elim H
 refine TC.sub (m':=[(0,_),(1,_),(5,_),(6,_)]) ⟨rfl,rfl,rfl,rfl,trivial⟩ ?_
 refine TC.pull (is:=[0]) (L':=[_]) rfl ?_
 refine TC_loopL (id:=0) (body:=(halberdref4_whole.b0)) (σ:=BitVec 64 × BitVec 64 × Int × List (BitVec 8)) (Γ:=Unit) (Γx:=Unit) (fun s0 g0_=>[(0,v64 s0.1),(1,v64 s0.2.1),(5,sl (some (b1,0)) 16 16),(6,vi s0.2.2.1)]) (fun s0 g0_=>[⟨some (b1,0),e8 s0.2.2.2⟩]) (fun t g=>[(5,sl (some (b1,0)) 16 16)]) (fun t g=>[⟨some (b1,0),e8 t⟩]) ?_ BIG (a_,b,7,List.replicate 16 0#8) () t_1 Hl ?_
 ·intro s0 g0_ r1 H K hK hE
  unfold halberdref4_whole.b0 at H
  refine TC_seq (TC_seq (TC_region (TVm ?_)))
  refine TLv (V_bin rfl rfl (fun w=>geqI w s0.2.2.1 0)) ?_
  refine TL_nil (TX_next (TCd H (fun hc H=>?_) (fun hc H=>?_)))
  ·refine TC_skip (TX_next (TC_seq (TC_block (TC_seq (TC_region (TVm ?_))))))
   refine TVm ?_
   refine TVm ?_
   refine TLv (V_bin rfl rfl (fun w=>and64 w s0.1 255#64)) ?_
   refine TLv (V_conv rfl (fun w=>cv64to8 w _ _ underlying5 (und115) (s0.1 &&& 255#64))) ?_
   obtain ⟨h1,H⟩:=if_elim H
   obtain ⟨h2,H⟩:=if_elim H
   refine TLv (V_idxSl (i:=s0.2.2.1) rfl rfl underlying86 inf5 rfl (fun _ h=>by cases h) h1.1 h1.2 (k:=(s0.2.2.1).toNat) (km1 _)) ?_
   refine TLn (E_store (j:=0) rfl rfl inf5 rfl rfl rfl (by simpa using h2) (cs':=e8 (s0.2.2.2.set ((s0.2.2.1).toNat) ((s0.1 &&& 255#64).setWidth 8))) (set_map (f:=v8) (l:=s0.2.2.2) (k:=((s0.2.2.1).toNat)) (x:=((s0.1 &&& 255#64).setWidth 8)))) (fun _=>?_)
   obtain ⟨m_1,hm_1,H⟩:=ltt_elim H
   refine TL_reE (j:=0) (A:=some (b1,0)) (cs:=e8 (s0.2.2.2.set ((s0.2.2.1).toNat) ((s0.1 &&& 255#64).setWidth 8))) (cs':=e8 m_1) rfl (congrArg (e8) hm_1) ?_
   refine TL_nil (TX_next (TC_seq (TC_region (TVm ?_))))
   refine TVm ?_
   refine TLv (V_bin rfl rfl (fun w=>addI w 8 s0.2.2.1)) ?_
   refine TVm ?_
   refine TLv (V_bin rfl rfl (fun w=>and64 w s0.2.1 255#64)) ?_
   refine TLv (V_conv rfl (fun w=>cv64to8 w _ _ underlying5 (und115) (s0.2.1 &&& 255#64))) ?_
   obtain ⟨h3,H⟩:=if_elim H
   obtain ⟨h4,H⟩:=if_elim H
   refine TLv (V_idxSl (i:=w64 (8+s0.2.2.1)) rfl rfl underlying86 inf5 rfl (fun _ h=>by cases h) h3.1 h3.2 (k:=(w64 (8+s0.2.2.1)).toNat) (km1 _)) ?_
   refine TLn (E_store (j:=0) rfl rfl inf5 rfl rfl rfl (by simpa using h4) (cs':=e8 (m_1.set ((w64 (8+s0.2.2.1)).toNat) ((s0.2.1 &&& 255#64).setWidth 8))) (set_map (f:=v8) (l:=m_1) (k:=((w64 (8+s0.2.2.1)).toNat)) (x:=((s0.2.1 &&& 255#64).setWidth 8)))) (fun _=>?_)
   obtain ⟨m_2,hm_2,H⟩:=ltt_elim H
   refine TL_reE (j:=0) (A:=some (b1,0)) (cs:=e8 (m_1.set ((w64 (8+s0.2.2.1)).toNat) ((s0.2.1 &&& 255#64).setWidth 8))) (cs':=e8 m_2) rfl (congrArg (e8) hm_2) ?_
   refine TL_nil (TX_next (TC_seq (TC_region (TVm ?_))))
   refine TLv (V_bin rfl rfl (fun w=>shr64 w s0.1 .u64 8 (by decide))) ?_
   refine TVa ?_
   refine TL_nil (TX_next (TC_region (TVm ?_)))
   refine TLv (V_bin rfl rfl (fun w=>shr64 w s0.2.1 .u64 8 (by decide))) ?_
   refine TVa ?_
   refine TL_nil (TX_block_normal (TX_next (TC_region (TVm ?_))))
   refine TLv (V_bin rfl rfl (fun w=>subI w s0.2.2.1 1)) ?_
   refine TVa ?_
   obtain ⟨i1,hi1,H⟩:=ltt_elim H
   refine TLr 6 (congrArg vi hi1) ?_
   refine TL_nil ?_
   obtain rfl:=sj H
   exact TXk [0] (hK (s0.1 >>> 8,s0.2.1 >>> 8,i1,m_2) rfl ())
  ·refine TC_exit (TX_then_exit (TX_then_exit ?_))
   obtain rfl:=sj H
   exact TXj [0] (hE s0.2.2.2 rfl ())
 ·intro g
  refine TX_block_exit (TX_next (TC_seq (TC_region (TVm ?_))))
  obtain ⟨h5,H⟩:=if_elim H
  refine TLv (V_b2s rfl underlying86 underlying5 underlying9 (.o 0) h5) ?_
  refine TVa ?_
  refine TL_nil (TX_next (TC_ret ?_))
  obtain rfl:=sj H
  exact TX1
end Go.Proofs
end

section
namespace Go.Proofs
open Go Go.Kx
open TryzI Tryz
def halberdref4_ghash.b0 (s_:Str) (r_1:BitVec 64 × BitVec 64) (s0:BitVec 64 × BitVec 64 × Int):Option ((BitVec 64 × BitVec 64 × Int) ⊕ (BitVec 64 × BitVec 64)) :=
 if (w64 (s0.2.2+16))≤((s_).length:Int) then (if 0≤w64 (s0.2.2+16) then (if 0≤s0.2.2 then (if (w64 (s0.2.2+16)).toNat≤(s_).length then (if (s0.2.2).toNat≤(w64 (s0.2.2+16)).toNat then ((halberdref4_halves (sub s_ ((s0.2.2).toNat) ((w64 (s0.2.2+16)).toNat))).bind fun (r_2:BitVec 64 × BitVec 64)=>((halberdref4_times (s0.1 ^^^ r_2.1) (s0.2.1 ^^^ r_2.2) r_1.1 r_1.2).bind fun (r_3:BitVec 64 × BitVec 64)=>(ltt (w64 (s0.2.2+16)) fun (i1:Int)=>(some (.inl (r_3.1,r_3.2,i1)))))) else none) else none) else none) else none) else (some (.inr (s0.1,s0.2.1)))
def halberdref4_ghash (h:Str) (s_:Str):Option (Str) :=
 (halberdref4_halves h).bind fun (r_1:BitVec 64 × BitVec 64)=>((loop (halberdref4_ghash.b0 s_ r_1) BIG (0#64,0#64,0)).bind fun (t_1:BitVec 64 × BitVec 64)=>((halberdref4_whole t_1.1 t_1.2).bind fun (r_4:Str)=>(some r_4)))
set_option maxHeartbeats 4000000 in
set_option maxRecDepth 20000 in
theorem F100_calls (h:Str) (s_:Str) (r:Str) (H:halberdref4_ghash h s_=some r) :
  Does Tryz.prog 100 [vs h,vs s_] [] [] (Γ:=Unit) (fun g=>vs r) (fun g=>[]):=by
 intro w hmem hro hd
 refine calls_of (N:=48) (m0:=[(0,vs h),(1,vs s_)]) func100 rfl ntmps100 (argM_ok [vs h,vs s_]) rfl hmem hro hd ?_
 unfold halberdref4_ghash at H
 refine TC_seq (TC_region (TVa ?_))
 refine TL_nil (TX_next (TC_seq (TC_region (TVm ?_))))
 obtain ⟨r_1,hr_1,H⟩:=bind_elim H
 refine TLe (E_c0 (F116_calls h r_1 hr_1) call116 .z) (fun g_1=>?_)
 refine TVm ?_
 refine TLv V_ex ?_
 refine TLv V_ex ?_
 refine TVa ?_
 refine TVa ?_
 refine TL_nil (TX_next (TC_seq (TC_region (TVa ?_))))
 refine TVa ?_
 refine TL_nil (TX_next (TC_seq (TC_seq (TC_region (TVa ?_)))))
 refine TL_nil (TX_next (TC_block ?_))
 obtain ⟨t_1,Hl,H⟩:=bind_elim H
 refine TC.sub (m':=[(1,_),(5,_),(6,_),(7,_),(8,_),(9,_)]) ⟨rfl,rfl,rfl,rfl,rfl,rfl,trivial⟩ ?_
 refine TC.pull (is:=[]) (L':=[]) rfl ?_
 refine TC_loopL (id:=0) (body:=(halberdref4_ghash.b0 s_ r_1)) (σ:=BitVec 64 × BitVec 64 × Int) (Γ:=Unit) (Γx:=Unit) (fun s0 g0_=>[(1,vs s_),(5,v64 r_1.1),(6,v64 r_1.2),(7,v64 s0.1),(8,v64 s0.2.1),(9,vi s0.2.2)]) (fun s0 g0_=>[]) (fun t g=>[(7,v64 t.1),(8,v64 t.2)]) (fun t g=>[]) ?_ BIG (0#64,0#64,0) () t_1 Hl ?_
 ·intro s0 g0_ r1 H K hK hE
  unfold halberdref4_ghash.b0 at H
  refine TC_seq (TC_seq (TC_region (TVm ?_)))
  refine TLv (V_bin rfl rfl (fun w=>addI w s0.2.2 16)) ?_
  refine TVm ?_
  refine TLv (V_len_str rfl underlying9) ?_
  refine TLv (V_bin rfl rfl (fun w=>leqI w (w64 (s0.2.2+16)) ((s_).length:Int))) ?_
  refine TL_nil (TX_next (TCd H (fun hc H=>?_) (fun hc H=>?_)))
  ·refine TC_skip (TX_next (TC_seq (TC_block (TC_seq (TC_region (TVm ?_))))))
   refine TVm ?_
   refine TVm ?_
   refine TLv (V_bin rfl rfl (fun w=>addI w s0.2.2 16)) ?_
   obtain ⟨h1,H⟩:=if_elim H
   obtain ⟨h2,H⟩:=if_elim H
   obtain ⟨h3,H⟩:=if_elim H
   obtain ⟨h4,H⟩:=if_elim H
   refine TLv (V_sliceStr (l:=(s0.2.2).toNat) (h:=(w64 (s0.2.2+16)).toNat) rfl underlying9 (Bnd.some' (i:=s0.2.2) rfl h2) (Bnd.some' (i:=w64 (s0.2.2+16)) rfl h1) h4 h3) ?_
   obtain ⟨r_2,hr_2,H⟩:=bind_elim H
   refine TLe (E_c0 (F116_calls (sub s_ ((s0.2.2).toNat) ((w64 (s0.2.2+16)).toNat)) r_2 hr_2) call116 .z) (fun g_2=>?_)
   refine TVm ?_
   refine TLv V_ex ?_
   refine TLv V_ex ?_
   refine TVa ?_
   refine TVa ?_
   refine TL_nil (TX_next (TC_region (TVm ?_)))
   refine TVm ?_
   refine TLv (V_bin rfl rfl (fun w=>xor64 w s0.1 r_2.1)) ?_
   refine TVm ?_
   refine TVm ?_
   refine TLv (V_bin rfl rfl (fun w=>xor64 w s0.2.1 r_2.2)) ?_
   refine TVm ?_
   refine TVm ?_
   obtain ⟨r_3,hr_3,H⟩:=bind_elim H
   refine TLe (E_c0 (F117_calls (s0.1 ^^^ r_2.1) (s0.2.1 ^^^ r_2.2) r_1.1 r_1.2 r_3 hr_3) call117 .z) (fun g_3=>?_)
   refine TVm ?_
   refine TLv V_ex ?_
   refine TLv V_ex ?_
   refine TVa ?_
   refine TVa ?_
   refine TL_nil (TX_block_normal (TX_next (TC.sub (m':=[(1,_),(5,_),(6,_),(7,_),(8,_),(9,_)]) ⟨rfl,rfl,rfl,rfl,rfl,rfl,trivial⟩ ?_)))
   refine TC_region (TVm ?_)
   refine TLv (V_bin rfl rfl (fun w=>addI w s0.2.2 16)) ?_
   refine TVa ?_
   obtain ⟨i1,hi1,H⟩:=ltt_elim H
   refine TLr 9 (congrArg vi hi1) ?_
   refine TL_nil ?_
   obtain rfl:=sj H
   exact TXk [] (hK (r_3.1,r_3.2,i1) rfl ())
  ·refine TC_exit (TX_then_exit (TX_then_exit ?_))
   obtain rfl:=sj H
   exact TXj [] (hE (s0.1,s0.2.1) rfl ())
 ·intro g
  refine TX_block_exit (TX_next (TC_seq (TC_region (TVm ?_))))
  refine TVm ?_
  obtain ⟨r_4,hr_4,H⟩:=bind_elim H
  refine TLe (E_c0 (F118_calls t_1.1 t_1.2 r_4 hr_4) call118 .z) (fun g_4=>?_)
  refine TVa ?_
  refine TL_nil (TX_next (TC_ret ?_))
  obtain rfl:=sj H
  exact TX1
end Go.Proofs
end

section
namespace Go.Proofs
open Go Go.Kx
open TryzI Tryz
def halberdref4_counter.b1 (s_:Str) (s0:Int × List (BitVec 8)) (r_2:Str) (s1:Int × List (BitVec 8)):Option ((Int × List (BitVec 8)) ⊕ (List (BitVec 8))) :=
 if s1.1<16 then (if (w64 (s0.1+s1.1))<((s_).length:Int) then (if 0≤w64 (s0.1+s1.1)∧w64 (s0.1+s1.1)<((s_).length:Int) then (if 0≤s1.1∧s1.1<((r_2).length:Int) then (if 0≤w64 (s0.1+s1.1)∧w64 (s0.1+s1.1)<((((s_).length:Int)).toNat:Int) then (if (w64 (s0.1+s1.1)).toNat<(s1.2).length then (ltt (s1.2.set ((w64 (s0.1+s1.1)).toNat) ((sg s_ (w64 (s0.1+s1.1))) ^^^ (sg r_2 s1.1))) fun (m_1:List (BitVec 8))=>(ltt (w64 (s1.1+1)) fun (j1:Int)=>(some (.inl (j1,m_1))))) else none) else none) else none) else none) else (some (.inr s1.2))) else (some (.inr s1.2))
def halberdref4_counter.b0 (w_:List (Vx 8 4)) (nonce:Str) (from_:Int) (s_:Str) (s0:Int × List (BitVec 8)):Option ((Int × List (BitVec 8)) ⊕ (List (BitVec 8))) :=
 if s0.1<((s_).length:Int) then ((halberdref1_Be (w64 (from_+(w64 (s0.1.tdiv 16)))) 4).bind fun (r_1:Str)=>(if (nonce).length+(r_1).length≤4611686018427387904 then ((halberdref4_cipher w_ (nonce++r_1)).bind fun (r_2:Str)=>((loop (halberdref4_counter.b1 s_ s0 r_2) BIG (0,s0.2)).bind fun (t_2:List (BitVec 8))=>(ltt (w64 (s0.1+16)) fun (i1:Int)=>(some (.inl (i1,t_2)))))) else none)) else (some (.inr s0.2))
def halberdref4_counter (w_:List (Vx 8 4)) (nonce:Str) (from_:Int) (s_:Str):Option (Str) :=
 if 0≤((s_).length:Int)∧((s_).length:Int)≤17592186044416 then ((loop (halberdref4_counter.b0 w_ nonce from_ s_) BIG (0,List.replicate ((((s_).length:Int)).toNat) 0#8)).bind fun (t_1:List (BitVec 8))=>(if (t_1).length=(((s_).length:Int)).toNat then (some t_1) else none)) else none
set_option maxHeartbeats 4000000 in
set_option maxRecDepth 20000 in
theorem F81_calls (Aw_:Adr) (cw_:Nat) (w_:List (Vx 8 4)) (nonce:Str) (from_:Int) (s_:Str) (hcw_:(w_).length≤cw_) (r:Str) (H:halberdref4_counter w_ nonce from_ s_=some r) :
  Does Tryz.prog 81 [sl Aw_ ((w_).length) cw_,vs nonce,vi from_,vs s_] [] [⟨Aw_,eF (fun V:Vx 8 4=>e8 V.toList) w_⟩] (Γ:=Unit) (fun g=>vs r) (fun g=>[]):=by
 intro w hmem hro hd
 refine calls_of (N:=59) (m0:=[(0,sl Aw_ ((w_).length) cw_),(1,vs nonce),(2,vi from_),(3,vs s_)]) func81 rfl ntmps81 (argM_ok [sl Aw_ ((w_).length) cw_,vs nonce,vi from_,vs s_]) rfl hmem hro hd ?_
 unfold halberdref4_counter at H
 refine TC_seq (TC_region (TVa ?_))
 refine TL_nil (TX_next (TC_seq (TC_region (TVm ?_))))
 refine TLv (V_len_str rfl underlying9) ?_
 obtain ⟨h1,H⟩:=if_elim H
 refine TLe (E_mk1 rfl rfl underlying86 inf5 (z:=v8 0#8) rfl rfl rfl (B:=1) rfl h1.1 (Int.le_refl _) (mk_b 1 rfl h1) (mk_c h1) (n':=(((s_).length:Int)).toNat) (c':=(((s_).length:Int)).toNat) rfl rfl (cs:=e8 (List.replicate ((((s_).length:Int)).toNat) 0#8)) (rep_map (f:=v8))) (fun b1=>?_)
 refine TVa ?_
 refine TL_nil (TX_next (TC_seq (TC_seq (TC_region (TVa ?_)))))
 refine TL_nil (TX_next (TC_block ?_))
 obtain ⟨t_1,Hl,H⟩:=bind_elim H
 refine TC.sub (m':=[(0,_),(1,_),(2,_),(3,_),(9,_),(10,_)]) ⟨rfl,rfl,rfl,rfl,rfl,rfl,trivial⟩ ?_
 refine TC.pull (is:=[0]) (L':=[_]) rfl ?_
 refine TC_loopL (id:=0) (body:=(halberdref4_counter.b0 w_ nonce from_ s_)) (σ:=Int × List (BitVec 8)) (Γ:=Unit) (Γx:=Unit) (fun s0 g0_=>[(0,sl Aw_ ((w_).length) cw_),(1,vs nonce),(2,vi from_),(3,vs s_),(9,sl (some (b1,0)) ((((s_).length:Int)).toNat) ((((s_).length:Int)).toNat)),(10,vi s0.1)]) (fun s0 g0_=>[⟨some (b1,0),e8 s0.2⟩]) (fun t g=>[(9,sl (some (b1,0)) ((((s_).length:Int)).toNat) ((((s_).length:Int)).toNat))]) (fun t g=>[⟨some (b1,0),e8 t⟩]) ?_ BIG (0,List.replicate ((((s_).length:Int)).toNat) 0#8) () t_1 Hl ?_
 ·intro s0 g0_ r1 H K hK hE
  unfold halberdref4_counter.b0 at H
  refine TC_seq (TC_seq (TC_region (TVm ?_)))
  refine TVm ?_
  refine TLv (V_len_str rfl underlying9) ?_
  refine TLv (V_bin rfl rfl (fun w=>lssI w s0.1 ((s_).length:Int))) ?_
  refine TL_nil (TX_next (TCd H (fun hc H=>?_) (fun hc H=>?_)))
  ·refine TC_skip (TX_next (TC_seq (TC_block (TC_seq (TC_region (TVm ?_))))))
   refine TVm ?_
   refine TVm ?_
   refine TVm ?_
   refine TLv (V_bin rfl rfl (fun w=>quoI w s0.1 16 (by decide))) ?_
   refine TLv (V_bin rfl rfl (fun w=>addI w from_ (w64 (s0.1.tdiv 16)))) ?_
   obtain ⟨r_1,hr_1,H⟩:=bind_elim H
   refine TLe (E_c0 (F60_calls (w64 (from_+(w64 (s0.1.tdiv 16)))) 4 r_1 hr_1) call60 .z) (fun g_1=>?_)
   obtain ⟨h2,H⟩:=if_elim H
   refine TLv (V_bin rfl rfl (fun w=>addS w nonce r_1 h2)) ?_
   obtain ⟨r_2,hr_2,H⟩:=bind_elim H
   refine TLe (E_c0 (F99_calls Aw_ cw_ w_ (nonce++r_1) hcw_ r_2 hr_2) call99 ⟨.r 0,trivial⟩) (fun g_2=>?_)
   refine TVa ?_
   refine TL_nil (TX_next (TC_seq (TC_region (TVa ?_))))
   refine TL_nil (TX_next (TC_block ?_))
   obtain ⟨t_2,Hl,H⟩:=bind_elim H
   refine TC.sub (m':=[(0,_),(1,_),(2,_),(3,_),(9,_),(10,_),(11,_),(12,_)]) ⟨rfl,rfl,rfl,rfl,rfl,rfl,rfl,rfl,trivial⟩ ?_
   refine TC.pull (is:=[0]) (L':=[_]) rfl ?_
   refine TC_loopL (id:=2) (body:=(halberdref4_counter.b1 s_ s0 r_2)) (σ:=Int × List (BitVec 8)) (Γ:=Unit) (Γx:=Unit) (fun s1 g1_=>[(0,sl Aw_ ((w_).length) cw_),(1,vs nonce),(2,vi from_),(3,vs s_),(9,sl (some (b1,0)) ((((s_).length:Int)).toNat) ((((s_).length:Int)).toNat)),(10,vi s0.1),(11,vs r_2),(12,vi s1.1)]) (fun s1 g1_=>[⟨some (b1,0),e8 s1.2⟩]) (fun t g=>[(0,sl Aw_ ((w_).length) cw_),(1,vs nonce),(2,vi from_),(3,vs s_),(9,sl (some (b1,0)) ((((s_).length:Int)).toNat) ((((s_).length:Int)).toNat)),(10,vi s0.1)]) (fun t g=>[⟨some (b1,0),e8 t⟩]) ?_ BIG (0,s0.2) () t_2 Hl ?_
   ·intro s1 g1_ r1 H K hK hE
    unfold halberdref4_counter.b1 at H
    refine TC_seq (TC_seq (TC_region (TVm ?_)))
    refine TLv (V_bin rfl rfl (fun w=>lssI w s1.1 16)) ?_
    refine TVm ?_
    refine TFd (d:=33) H (fun hc H=>?_) (fun hc H=>?_)
    ·refine TLw (V_move rfl) ?_
     refine TLw (V_move rfl) ?_
     refine TLw (V_bin rfl rfl (fun w=>addI w s0.1 s1.1)) ?_
     refine TLw (V_move rfl) ?_
     refine TLw (V_len_str rfl underlying9) ?_
     refine TLw (V_bin rfl rfl (fun w=>lssI w (w64 (s0.1+s1.1)) ((s_).length:Int))) ?_
     refine TVt ?_
     refine TL_nil (TX_next (TCd H (fun hc H=>?_) (fun hc H=>?_)))
     ·refine TC_skip (TX_next (TC_seq (TC_block ?_)))
      obtain ⟨h3,H⟩:=if_elim H
      obtain ⟨h4,H⟩:=if_elim H
      obtain ⟨h5,H⟩:=if_elim H
      obtain ⟨h6,H⟩:=if_elim H
      obtain ⟨m_1,hm_1,H⟩:=ltt_elim H
      refine TA_begin [] 15 (by kernel_rfl) (N:=15) rfl ?_
      refine TA_mix (is:=[]) (done':=dn 15 16383) [itV 0 43 (sl (some (b1,0)) ((((s_).length:Int)).toNat) ((((s_).length:Int)).toNat)) [],itV 1 44 (vi s0.1) [],itV 2 45 (vi s1.1) [],itV 3 46 (vi (w64 (s0.1+s1.1))) [1,2],itV 4 47 (vs s_) [],itV 5 48 (vi s0.1) [],itV 6 49 (vi s1.1) [],itV 7 50 (vi (w64 (s0.1+s1.1))) [5,6],itV 8 51 (v8 (sg s_ (w64 (s0.1+s1.1)))) [7,4],itV 9 52 (vs r_2) [],itV 10 53 (vi s1.1) [],itV 11 54 (v8 (sg r_2 s1.1)) [9,10],itV 12 55 (v8 ((sg s_ (w64 (s0.1+s1.1))) ^^^ (sg r_2 s1.1))) [8,11],itV 13 56 (ptr (some (b1,0)) ((w64 (s0.1+s1.1)).toNat)) [0,3]] [] 1 (by kernel_rfl) (QP.block (QP.then (QP.then (QP.block (QP.block (QP.then (QP.then (QP.block (QP.then QP.body))))))))) (by kernel_rfl) rfl (.v rfl (V_move rfl) (.v rfl (V_move rfl) (.v rfl (V_move rfl) (.v rfl (V_bin rfl rfl (fun w=>addI w s0.1 s1.1)) (.v rfl (V_move rfl) (.v rfl (V_move rfl) (.v rfl (V_move rfl) (.v rfl (V_bin rfl rfl (fun w=>addI w s0.1 s1.1)) (.v rfl (V_idxStr rfl rfl (i:=w64 (s0.1+s1.1)) underlying9 h3.1 h3.2) (.v rfl (V_move rfl) (.v rfl (V_move rfl) (.v rfl (V_idxStr rfl rfl (i:=s1.1) underlying9 h4.1 h4.2) (.v rfl (V_bin rfl rfl (fun w=>xor8 w (sg s_ (w64 (s0.1+s1.1))) (sg r_2 s1.1))) (.v rfl (V_idxSl (i:=w64 (s0.1+s1.1)) rfl rfl underlying86 inf5 rfl (fun _ h=>by cases h) h5.1 h5.2 (k:=(w64 (s0.1+s1.1)).toNat) (km1 _)) .nil)))))))))))))) .nil (by kernel_rfl) rfl (fun γ=>?_)
      refine TA_cut [(56,ptr (some (b1,0)) ((w64 (s0.1+s1.1)).toNat)),(55,v8 ((sg s_ (w64 (s0.1+s1.1))) ^^^ (sg r_2 s1.1))),(0,sl Aw_ ((w_).length) cw_),(1,vs nonce),(2,vi from_),(3,vs s_),(9,sl (some (b1,0)) ((((s_).length:Int)).toNat) ((((s_).length:Int)).toNat)),(10,vi s0.1),(11,vs r_2),(12,vi s1.1)] [⟨some (b1,0),e8 s1.2⟩] ⟨rfl,rfl,rfl,rfl,rfl,rfl,rfl,rfl,rfl,rfl,trivial⟩ rfl ?_
      refine TA_all (rs:=[14]) (by kernel_rfl) rfl ?_
      refine ⟨?_,trivial⟩
      refine TO_n (is:=[]) (done':=dn 15 32767) rfl rfl rfl (by kernel_rfl) (E_store (j:=0) rfl rfl inf5 rfl rfl rfl (by simpa using h6) (cs':=e8 (s1.2.set ((w64 (s0.1+s1.1)).toNat) ((sg s_ (w64 (s0.1+s1.1))) ^^^ (sg r_2 s1.1)))) (set_map (f:=v8) (l:=s1.2) (k:=((w64 (s0.1+s1.1)).toNat)) (x:=((sg s_ (w64 (s0.1+s1.1))) ^^^ (sg r_2 s1.1))))) (fun _ _=>rfl) (fun _=>?_)
      refine TA_reE (j:=0) (A:=some (b1,0)) (cs:=e8 (s1.2.set ((w64 (s0.1+s1.1)).toNat) ((sg s_ (w64 (s0.1+s1.1))) ^^^ (sg r_2 s1.1)))) (cs':=e8 m_1) rfl (congrArg (e8) hm_1) ?_
      refine TA_done (by kernel_rfl) ?_ 0
      refine TX_block_normal (TX_next (TC_region (TVm ?_)))
      refine TLv (V_bin rfl rfl (fun w=>addI w s1.1 1)) ?_
      refine TVa ?_
      obtain ⟨j1,hj1,H⟩:=ltt_elim H
      refine TLr 12 (congrArg vi hj1) ?_
      refine TL_nil ?_
      obtain rfl:=sj H
      exact TXk [0] (hK (j1,m_1) rfl ())
     ·refine TC_exit (TX_then_exit (TX_then_exit ?_))
      obtain rfl:=sj H
      exact TXj [0] (hE s1.2 rfl ())
    ·refine TLs ?_
     refine TLs ?_
     refine TLs ?_
     refine TLs ?_
     refine TLs ?_
     refine TLs ?_
     refine TVf ?_
     refine TL_nil (TX_next (TC_cond_f rfl ?_))
     refine TC_exit (TX_then_exit (TX_then_exit ?_))
     obtain rfl:=sj H
     exact TXj [0] (hE s1.2 rfl ())
   ·intro g
    refine TX_block_exit (TX_block_normal (TX_next (TC_region (TVm ?_))))
    refine TLv (V_bin rfl rfl (fun w=>addI w s0.1 16)) ?_
    refine TVa ?_
    obtain ⟨i1,hi1,H⟩:=ltt_elim H
    refine TLr 10 (congrArg vi hi1) ?_
    refine TL_nil ?_
    obtain rfl:=sj H
    exact TXk [0] (hK (i1,t_2) rfl ())
  ·refine TC_exit (TX_then_exit (TX_then_exit ?_))
   obtain rfl:=sj H
   exact TXj [0] (hE s0.2 rfl ())
 ·intro g
  refine TX_block_exit (TX_next (TC_seq (TC_region (TVm ?_))))
  obtain ⟨h7,H⟩:=if_elim H
  refine TLv (V_b2s rfl underlying86 underlying5 underlying9 (.o 0) h7) ?_
  refine TVa ?_
  refine TL_nil (TX_next (TC_ret ?_))
  obtain rfl:=sj H
  exact TX1
end Go.Proofs
end

section
namespace Go.Proofs
open Go Go.Kx
open TryzI Tryz
def halberdref4_tag (w_:List (Vx 8 4)) (nonce:Str) (aad:Str) (c:Str):Option (Str) :=
 if (List.replicate 16 0#8).length=16 then ((halberdref4_cipher w_ (List.replicate 16 0#8)).bind fun (r_1:Str)=>((halberdref1_Be (w64 (8 * ((aad).length:Int))) 8).bind fun (r_2:Str)=>((halberdref1_Be (w64 (8 * ((c).length:Int))) 8).bind fun (r_3:Str)=>(if (r_2).length+(r_3).length≤4611686018427387904 then ((halberdref4_filled aad).bind fun (r_4:Str)=>((halberdref4_filled c).bind fun (r_5:Str)=>(if (r_4).length+(r_5).length≤4611686018427387904 then (if (r_4++r_5).length+(r_2++r_3).length≤4611686018427387904 then ((halberdref4_ghash r_1 ((r_4++r_5)++(r_2++r_3))).bind fun (r_6:Str)=>((halberdref4_counter w_ nonce 1 r_6).bind fun (r_7:Str)=>(some r_7))) else none) else none))) else none)))) else none
set_option maxHeartbeats 4000000 in
set_option maxRecDepth 20000 in
theorem F82_calls (Aw_:Adr) (cw_:Nat) (w_:List (Vx 8 4)) (nonce:Str) (aad:Str) (c:Str) (hcw_:(w_).length≤cw_) (r:Str) (H:halberdref4_tag w_ nonce aad c=some r) :
  Does Tryz.prog 82 [sl Aw_ ((w_).length) cw_,vs nonce,vs aad,vs c] [] [⟨Aw_,eF (fun V:Vx 8 4=>e8 V.toList) w_⟩] (Γ:=Unit) (fun g=>vs r) (fun g=>[]):=by
 intro w hmem hro hd
 refine calls_of (N:=36) (m0:=[(0,sl Aw_ ((w_).length) cw_),(1,vs nonce),(2,vs aad),(3,vs c)]) func82 rfl ntmps82 (argM_ok [sl Aw_ ((w_).length) cw_,vs nonce,vs aad,vs c]) rfl hmem hro hd ?_
 unfold halberdref4_tag at H
 refine TC_seq (TC_region (TVa ?_))
 refine TL_nil (TX_next (TC_seq (TC_region (TVm ?_))))
 refine TLe (E_mk1 rfl rfl underlying86 inf5 (z:=v8 0#8) rfl rfl rfl (B:=1) rfl (by decide) (Int.le_refl _) (by decide) (by decide) (n':=16) (c':=16) rfl rfl (cs:=e8 (List.replicate 16 0#8)) (rep_map (f:=v8))) (fun b1=>?_)
 obtain ⟨h1,H⟩:=if_elim H
 refine TLv (V_b2s rfl underlying86 underlying5 underlying9 (.o 0) h1) ?_
 obtain ⟨r_1,hr_1,H⟩:=bind_elim H
 refine TLe (E_c0 (F99_calls Aw_ cw_ w_ (List.replicate 16 0#8) hcw_ r_1 hr_1) call99 ⟨.r 0,trivial⟩) (fun g_1=>?_)
 refine TVa ?_
 refine TL_nil (TX_next (TC_seq (TC_region (TVm ?_))))
 refine TLv (V_len_str rfl underlying9) ?_
 refine TLv (V_bin rfl rfl (fun w=>mulI w 8 ((aad).length:Int))) ?_
 obtain ⟨r_2,hr_2,H⟩:=bind_elim H
 refine TLe (E_c0 (F60_calls (w64 (8 * ((aad).length:Int))) 8 r_2 hr_2) call60 .z) (fun g_2=>?_)
 refine TVm ?_
 refine TLv (V_len_str rfl underlying9) ?_
 refine TLv (V_bin rfl rfl (fun w=>mulI w 8 ((c).length:Int))) ?_
 obtain ⟨r_3,hr_3,H⟩:=bind_elim H
 refine TLe (E_c0 (F60_calls (w64 (8 * ((c).length:Int))) 8 r_3 hr_3) call60 .z) (fun g_3=>?_)
 obtain ⟨h2,H⟩:=if_elim H
 refine TLv (V_bin rfl rfl (fun w=>addS w r_2 r_3 h2)) ?_
 refine TVa ?_
 refine TL_nil (TX_next (TC_seq (TC_region (TVm ?_))))
 refine TVm ?_
 refine TVm ?_
 refine TVm ?_
 obtain ⟨r_4,hr_4,H⟩:=bind_elim H
 refine TLe (E_c0 (F101_calls aad r_4 hr_4) call101 .z) (fun g_4=>?_)
 refine TVm ?_
 obtain ⟨r_5,hr_5,H⟩:=bind_elim H
 refine TLe (E_c0 (F101_calls c r_5 hr_5) call101 .z) (fun g_5=>?_)
 obtain ⟨h3,H⟩:=if_elim H
 refine TLv (V_bin rfl rfl (fun w=>addS w r_4 r_5 h3)) ?_
 refine TVm ?_
 obtain ⟨h4,H⟩:=if_elim H
 refine TLv (V_bin rfl rfl (fun w=>addS w (r_4++r_5) (r_2++r_3) h4)) ?_
 obtain ⟨r_6,hr_6,H⟩:=bind_elim H
 refine TLe (E_c0 (F100_calls r_1 ((r_4++r_5)++(r_2++r_3)) r_6 hr_6) call100 .z) (fun g_6=>?_)
 obtain ⟨r_7,hr_7,H⟩:=bind_elim H
 refine TLe (E_c0 (F81_calls Aw_ cw_ w_ nonce 1 r_6 hcw_ r_7 hr_7) call81 ⟨.r 0,trivial⟩) (fun g_7=>?_)
 refine TVa ?_
 refine TL_nil (TX_next (TC.sub (m':=[(8,_)]) ⟨rfl,trivial⟩ ?_))
 refine TC_ret ?_
 obtain rfl:=sj H
 exact TX1
end Go.Proofs
end

section
namespace Go.Proofs
open Go Go.Kx
def ld (s:Str) (a:Nat):E2:=(be8 s a 8,be8 s (a+8) 8)
theorem load_eq (b:Str) (h:16≤b.length) (h2:b.length<1152921504606846976):gcm_load b=some (ld b 0):=by
 unfold gcm_load
 refine bind_i (v:=ld b 0) (loop_fn (fun k=>((k:Int),be8 b 0 k,be8 b 8 k)) 8 _ (by omega) rfl (fun k hk=>?_) ?_) rfl
 ·have e1:w64 ((k:Int)+1)=((k+1:Nat):Int):=w64_add (b:=1) (by omega)
  have e2:w64 (8+(k:Int))=((8+k:Nat):Int):=w64_add (a:=8) (by omega)
  unfold gcm_load.b0
  simp only [e1,e2,Int.toNat_natCast,lg_getD]
  clear e1 e2
  refine if_i (by omega) (if_i (by omega) (if_i (by omega) ?_))
  simp only [be8,Nat.zero_add]
 ·exact if_n (by show ¬ (((8:Nat):Int)<8); omega) rfl
theorem halves_eq (b:Str) (h:16≤b.length) (h2:b.length<1152921504606846976):halberdref4_halves b=some (ld b 0):=by
 unfold halberdref4_halves
 refine bind_i (v:=ld b 0) (loop_fn (fun k=>(be8 b 0 k,be8 b 8 k,(k:Int))) 8 _ (by omega) rfl (fun k hk=>?_) ?_) rfl
 ·have e1:w64 ((k:Int)+1)=((k+1:Nat):Int):=w64_add (b:=1) (by omega)
  have e2:w64 (8+(k:Int))=((8+k:Nat):Int):=w64_add (a:=8) (by omega)
  unfold halberdref4_halves.b0
  simp only [e1,e2,Int.toNat_natCast,sg_nat]
  clear e1 e2
  refine if_i (by omega) (if_i (by omega) (ltt_i fun a ha=>if_i (by omega) (ltt_i fun b1 hb1=>ltt_i fun i hi=>?_)))
  rw [ha,hb1,hi]
  simp only [be8,Nat.zero_add]
 ·exact if_n (by show ¬ (((8:Nat):Int)<8); omega) rfl
def by16 (e:E2):Str:=hexW e.1 8++hexW e.2 8
theorem by16_length (e:E2):(by16 e).length=16:=by simp [by16,hexW_length]
theorem byV_at (e:E2) (i:Nat) (hi:i<16):(by16 e).getD i 0#8=if i<8 then (e.1 >>> (8 * (7 - i))).setWidth 8 else (e.2 >>> (8 * (7 - (i - 8)))).setWidth 8:=by
 unfold by16 hexW
 rw [List.getD_eq_getElem?_getD,List.getElem?_append]
 by_cases c:i<8
 ·simp [c]
 ·simp [c,show i - 8<8 by omega]
theorem ebytes_eq (e:E2) : ∃ V:Vx 8 16,V.toList=by16 e∧gcm_element_bytes e.1 e.2=some V:=by
 refine ⟨Vector.ofFn fun i=>(by16 e).getD i.val 0#8,?_,?_⟩
 ·refine List.ext_getElem (by simp [by16_length]) fun i h1 h2=>?_
  simp [List.getD_eq_getElem?_getD,h2]
 ·unfold gcm_element_bytes
  have key : ∀ k,k≤8 → ∃ V:Vx 8 16,(∀ i,i<16 → vg V i=if (i<k ∨ (8≤i∧i<8+k)) then (by16 e).getD i 0#8 else 0#8)∧True:=fun k hk =>
   ⟨Vector.ofFn fun i=>if (i.val<k ∨ (8≤i.val∧i.val<8+k)) then (by16 e).getD i.val 0#8 else 0#8,fun i hi=>by rw [vg_ofFn hi],trivial⟩
  refine bind_i (loop_fn (fun k=>((k:Int),(Vector.ofFn fun i=>if (i.val<k ∨ (8≤i.val∧i.val<8+k)) then (by16 e).getD i.val 0#8 else 0#8:Vx 8 16))) 8 _ (by omega) ?_ (fun k hk=>?_) ?_) rfl
  ·refine Prod.ext rfl (vec_ext fun i hi=>?_)
   rw [vg_eq' hi,vg_ofFn hi,if_neg (by omega)]
   simp
  ·have e1:w64 ((k:Int)+1)=((k+1:Nat):Int):=w64_add (b:=1) (by omega)
   have e2:w64 (8+(k:Int))=((8+k:Nat):Int):=w64_add (a:=8) (by omega)
   have e3:w64 (8 * (k:Int))=((8 * k:Nat):Int):=w64_mul (a:=8) (by omega)
   have e4:w64 (56 - ((8 * k:Nat):Int))=((56 - 8 * k:Nat):Int):=w64_sub (a:=56) (by omega) (by omega)
   unfold gcm_element_bytes.b0
   simp only [e1,e2,e3,e4,Int.toNat_natCast]
   clear e1 e2 e3 e4
   refine if_i (by omega) (if_i (by omega) (if_i (by omega) (if_i (by omega) (ltt_i fun m hm=>if_i (by omega) (ltt_i fun m2 hm2=>?_)))))
   have:m2=(Vector.ofFn fun i=>if (i.val<k+1 ∨ (8≤i.val∧i.val<8+(k+1))) then (by16 e).getD i.val 0#8 else 0#8:Vx 8 16):=by
    rw [hm2,hm]
    refine vec_ext fun i hi=>?_
    rw [vg_vp (by omega) hi,vg_vp (by omega) hi,vg_ofFn hi,vg_ofFn hi]
    dsimp only
    by_cases c1:8+k=i
    ·rw [if_pos c1,if_pos (by omega),byV_at e i hi,if_neg (by omega),show 8 * (7 - (i - 8))=56 - 8 * k by omega]
    ·rw [if_neg c1]
     by_cases c2:k=i
     ·rw [if_pos c2,if_pos (by omega),byV_at e i hi,if_pos (by omega),show 8 * (7 - i)=56 - 8 * k by omega]
     ·rw [if_neg c2]
      by_cases c3:(i<k ∨ (8≤i∧i<8+k))
      ·rw [if_pos c3,if_pos (by omega)]
      ·rw [if_neg c3,if_neg (by omega)]
   rw [this]
  ·refine if_n (by show ¬ (((8:Nat):Int)<8); omega) (congrArg some (congrArg Sum.inr ?_))
   refine vec_ext fun i hi=>?_
   rw [vg_ofFn hi,vg_ofFn hi,if_pos (by omega)]
theorem whole_eq (e:E2):halberdref4_whole e.1 e.2=some (by16 e):=by
 unfold halberdref4_whole
 have hl : ∀ k,((List.range 16).map fun i=>if (i+k<8 ∨ (8≤i∧i+k<16)) then 0#8 else (by16 e).getD i 0#8).length=16:=fun k=>by simp
 refine bind_i (v:=by16 e) (loop_fn (fun k=>(e.1 >>> (8 * k),e.2 >>> (8 * k),(7:Int) - k,(List.range 16).map fun i=>if (i+k<8 ∨ (8≤i∧i+k<16)) then 0#8 else (by16 e).getD i 0#8)) 8 _ (by omega) ?_ (fun k hk=>?_) ?_) (if_i (by16_length e) rfl)
 ·refine Prod.ext (by simp) (Prod.ext (by simp) (Prod.ext rfl ?_))
  rfl
 ·have e1:w64 (7 - (k:Int) - 1)=7 - ((k+1:Nat):Int):=by rw [w64_id (by omega) (by omega)]; omega
  have e2:w64 (8+(7 - (k:Int)))=((15 - k:Nat):Int):=by rw [w64_id (by omega) (by omega)]; omega
  have e3:(7 - (k:Int)).toNat=7 - k:=by omega
  unfold halberdref4_whole.b0
  simp only [e1,e2,e3,Int.toNat_natCast]
  clear e1 e2 e3
  refine if_i (by omega) (if_i (by omega) (if_i (by rw [hl]; omega) (ltt_i fun m hm=>if_i (by omega) (if_i (by rw [hm,List.length_set,hl]; omega) (ltt_i fun m2 hm2=>ltt_i fun j hj=>?_)))))
  have h255 : ∀ x:BitVec 64,(x &&& 255#64).setWidth 8=x.setWidth 8:=fun x=>by
   apply BitVec.eq_of_toNat_eq
   simp only [BitVec.toNat_setWidth,BitVec.toNat_and,BitVec.toNat_ofNat]
   have:x.toNat &&& 255=x.toNat % 2 ^ 8:=Nat.and_two_pow_sub_one_eq_mod _ 8
   rw [show 255 % 2 ^ 64=255 from rfl,this,Nat.mod_mod]
  have:m2=(List.range 16).map fun i=>if (i+(k+1)<8 ∨ (8≤i∧i+(k+1)<16)) then 0#8 else (by16 e).getD i 0#8:=by
   rw [hm2,hm,h255,h255]
   refine List.ext_getElem (by simp) fun i h1 h2=>?_
   simp only [List.length_map,List.length_range] at h2
   simp only [List.getElem_set,List.getElem_map,List.getElem_range]
   by_cases c1:15 - k=i
   ·rw [if_pos c1,if_neg (by omega),byV_at e i h2,if_neg (by omega),show 8 * (7 - (i - 8))=8 * k by omega]
   ·rw [if_neg c1]
    by_cases c2:7 - k=i
    ·rw [if_pos c2,if_neg (by omega),byV_at e i h2,if_pos (by omega),show 8 * (7 - i)=8 * k by omega]
    ·rw [if_neg c2]
     by_cases c3:(i+k<8 ∨ (8≤i∧i+k<16))
     ·rw [if_pos c3,if_pos (by omega)]
     ·rw [if_neg c3,if_neg (by omega)]
  rw [hj,this, ← BitVec.shiftRight_add, ← BitVec.shiftRight_add,show 8 * k+8=8 * (k+1) by omega]
 ·refine if_n (by show ¬ (0:Int)≤7 - ((8:Nat):Int); omega) (congrArg some (congrArg Sum.inr ?_))
  refine List.ext_getElem (by simp [by16_length]) fun i h1 h2=>?_
  rw [by16_length] at h2
  simp only [List.getElem_map,List.getElem_range]
  rw [if_neg (by omega),List.getD_eq_getElem?_getD,List.getElem?_eq_getElem (by rw [by16_length]; omega)]
  rfl
theorem digit_lt (x:BitVec 64):(x &&& 15#64).toNat<16:=by
 rw [BitVec.toNat_and]
 exact Nat.lt_of_le_of_lt Nat.and_le_right (by decide)
theorem digit_bit (x:BitVec 64) (s t:Nat) (ht:t<4):((x >>> s) &&& 15#64).toNat.testBit t=x.getLsbD (s+t):=by
 rw [BitVec.toNat_and,Nat.testBit_and,BitVec.testBit_toNat,BitVec.getLsbD_ushiftRight]
 have:(15#64).toNat.testBit t=true:=by
  rcases t with _ | _ | _ | _ | t <;> first | decide | omega
 rw [this,Bool.and_true]
theorem add_eq (h y:E2) (b:Str) (hb:16≤b.length) (hb2:b.length<1152921504606846976):gcm_sum_add (tabV h 4) foldV y.1 y.2 b=some (prod (xr (ld b 0) y) h):=by
 unfold gcm_sum_add
 refine bind_i (load_eq b hb hb2) ?_
 generalize hx:xr (ld b 0) y=x
 have hx1:(ld b 0).1 ^^^ y.1=x.1:=by rw [← hx]; rfl
 have hx2:(ld b 0).2 ^^^ y.2=x.2:=by rw [← hx]; rfl
 refine bind_i (v:=prod x h) (loop_fn (fun i=>((i:Int),(SS x h (128 - 4 * i) (4 * i)).1,(SS x h (128 - 4 * i) (4 * i)).2)) 32 _ (by omega) rfl (fun i hi=>?_) ?_) rfl
 ·have e1:w64 ((i:Int)+1)=((i+1:Nat):Int):=w64_add (b:=1) (by omega)
  have e2:(i:Int).tmod 16=((i % 16:Nat):Int):=tmodN' i 16
  have e3:w64 (4 * ((i % 16:Nat):Int))=((4 * (i % 16):Nat):Int):=w64_mul (a:=4) (by omega)
  unfold gcm_sum_add.b0
  simp only [e1,e2,e3,Int.toNat_natCast,hx1,hx2]
  clear e1 e2 e3
  have hd : ∃ d:BitVec 64,d=(if i<16 then x.2 >>> (4 * (i % 16)) else x.1 >>> (4 * (i % 16))) &&& 15#64:=⟨_,rfl⟩
  obtain ⟨d,hd⟩:=hd
  have hdl:d.toNat<16:=by rw [hd]; exact digit_lt _
  have hbit : ∀ t,t<4 → d.toNat.testBit (3 - t)=bitE x (128 - 4 * (i+1)+t):=by
   intro t ht
   unfold bitE
   by_cases c:i<16
   ·rw [if_pos c] at hd
    rw [hd,digit_bit _ _ _ (by omega),if_neg (by omega),show 4 * (i % 16)+(3 - t)=127 - (128 - 4 * (i+1)+t) by omega]
   ·rw [if_neg c] at hd
    rw [hd,digit_bit _ _ _ (by omega),if_pos (by omega),show 4 * (i % 16)+(3 - t)=63 - (128 - 4 * (i+1)+t) by omega]
  refine if_i (by omega) (if_i (by omega) (ltt_i fun d1 hd1=>bind_i (v:=d) ?_ ?_))
  ·by_cases c:i<16
   ·rw [if_pos c] at hd
    refine if_n (by omega) ?_
    rw [hd1,hd]
   ·rw [if_neg c] at hd
    refine if_i (by omega) (if_i (by omega) (ltt_i fun d2 hd2=>?_))
    rw [hd2,hd]
  ·have hz:=digit_lt (SS x h (128 - 4 * i) (4 * i)).2
   refine if_i (by omega) (if_i (by omega) (if_i (by omega) ?_))
   have hm:128 - 4 * (i+1)+4=128 - 4 * i:=by omega
   have hS:=SS4 x h (128 - 4 * (i+1)) (4 * i)
   rw [hm,hp4_eq] at hS
   have ht:vg (tabV h 4) d.toNat=xr (xr (xr (xr z2 (sel (bitE x (128 - 4 * (i+1))) (hp 0 h))) (sel (bitE x (128 - 4 * (i+1)+1)) (hp 1 h))) (sel (bitE x (128 - 4 * (i+1)+2)) (hp 2 h))) (sel (bitE x (128 - 4 * (i+1)+3)) (hp 3 h)):=by
    rw [tabV,vg_ofFn hdl]
    simp only [tabF]
    rw [hbit 0 (by decide),hbit 1 (by decide),hbit 2 (by decide),hbit 3 (by decide),Nat.add_zero]
   rw [← ht,xr_comm] at hS
   rw [show 4 * (i+1)=4 * i+4 by omega] at hS ⊢
   rw [hS]
   rfl
 ·exact if_n (by show ¬ (((32:Nat):Int)<32); omega) rfl
def gh (h:E2) (s:Str) (j:Nat) (y:E2):E2:=prod (xr (ld s (16 * j)) y) h
def ghs (h:E2) (s:Str) (y:E2):E2:=iter (gh h s) (s.length / 16) y
theorem ld_sub (s:Str) (a b:Nat) (h:16≤b - a):ld (sub s a b) 0=ld s a:=by
 unfold ld
 rw [be8_sub s a b 0 8 (by omega),be8_sub s a b (0+8) 8 (by omega)]
 rfl
theorem filled_eq (s:Str) (hs:s.length<1152921504606846976):halberdref4_filled s=some (s++List.replicate ((16 - s.length % 16) % 16) 0#8):=by
 have e1:(s.length:Int).tmod 16=((s.length % 16:Nat):Int):=tmodN' _ 16
 have e2:w64 (16 - ((s.length % 16:Nat):Int))=((16 - s.length % 16:Nat):Int):=w64_sub (a:=16) (by omega) (by omega)
 have e3:((16 - s.length % 16:Nat):Int).tmod 16=(((16 - s.length % 16) % 16:Nat):Int):=tmodN' _ 16
 unfold halberdref4_filled
 simp only [e1,e2,e3,Int.toNat_natCast]
 clear e1 e2 e3
 refine if_i (by omega) (if_i (by simp) (if_i (by simp; omega) (ltt_i fun x hx=>by rw [hx])))
def fil (s:Str):Str:=s++List.replicate ((16 - s.length % 16) % 16) 0#8
theorem fil_length (s:Str):(fil s).length=16 * ((s.length+15) / 16):=by
 unfold fil; simp; omega
theorem ld_app_l (s t:Str) (a:Nat) (h:a+16≤s.length):ld (s++t) a=ld s a:=by
 have hsub:sub (s++t) a (a+16)=sub s a (a+16):=sub_app_l s t a (a+16) h
 rw [← ld_sub (s++t) a (a+16) (by omega),hsub,ld_sub s a (a+16) (by omega)]
theorem ld_app_r (s t:Str) (a:Nat):ld (s++t) (s.length+a)=ld t a:=by
 have : ∀ n a,be8 (s++t) (s.length+a) n=be8 t a n:=by
  intro n a
  induction n with
  | zero=>rfl
  | succ n ih =>
   simp only [be8,ih]
   congr 2
   rw [List.getD_eq_getElem?_getD,List.getD_eq_getElem?_getD,List.getElem?_append_right (by omega)]
   congr 2
   omega
 unfold ld
 rw [this,Nat.add_assoc,this]
theorem ghs_app (h:E2) (s t:Str) (y:E2) (hs:s.length % 16=0):ghs h (s++t) y=ghs h t (ghs h s y):=by
 unfold ghs
 have hl:(s++t).length / 16=s.length / 16+t.length / 16:=by rw [List.length_append]; omega
 rw [hl,iter_add]
 have h1:iter (gh h (s++t)) (s.length / 16) y=iter (gh h s) (s.length / 16) y:=iter_congr fun k hk x=>by
  unfold gh
  rw [ld_app_l s t _ (by omega)]
 rw [h1]
 refine iter_congr fun k hk x=>?_
 unfold gh
 rw [show 16 * (s.length / 16+k)=s.length+16 * k by omega,ld_app_r]
theorem getD_zeros (b:Str) (n j:Nat):(b++List.replicate n 0#8).getD j 0#8=b.getD j 0#8:=by
 rw [List.getD_eq_getElem?_getD,List.getD_eq_getElem?_getD,List.getElem?_append]
 by_cases c:j<b.length
 ·rw [if_pos c]
 ·rw [if_neg c,List.getElem?_eq_none (l:=b) (by omega),List.getElem?_replicate]
  split <;> rfl
theorem all_b0 (h y:E2) (b:Str) (hb:b.length<1152921504606846976):loop (gcm_sum_all.b0 (tabV h 4) foldV b) BIG (0,y.1,y.2)=some (16 * (b.length / 16),(iter (gh h b) (b.length / 16) y).1,(iter (gh h b) (b.length / 16) y).2):=by
 refine loop_fn (fun k=>(16 * k,(iter (gh h b) k y).1,(iter (gh h b) k y).2)) (b.length / 16) _ (by omega) rfl (fun k hk=>?_) ?_
 ·unfold gcm_sum_all.b0
  have hl:(sub b (16 * k) b.length).length=b.length - 16 * k:=sub_length (Nat.le_refl _)
  refine if_i (by simp only; omega) (bind_i (add_eq h _ _ (by rw [hl]; omega) (by rw [hl]; omega)) (if_i (by simp only; omega) (if_i (by simp only; omega) ?_)))
  simp only
  rw [ld_sub _ _ _ (by omega),show 16 * k+16=16 * (k+1) by omega]
  rfl
 ·unfold gcm_sum_all.b0
  exact if_n (by simp only; omega) rfl
theorem all_eq (h y:E2) (b:Str) (hb:b.length<1152921504606846976):gcm_sum_all (tabV h 4) foldV y.1 y.2 b=some (ghs h (fil b) y):=by
 unfold gcm_sum_all
 refine bind_i (all_b0 h y b hb) ?_
 simp only
 by_cases c:b.length % 16=0
 ·refine if_n (by omega) ?_
  have:fil b=b:=by unfold fil; rw [c]; simp
  rw [this]; rfl
 ·refine if_i (by omega) (ltt_i fun m hm=>?_)
  have hlen:(fil b).length / 16=b.length / 16+1:=by rw [fil_length]; omega
  have hml:m.toList=sub (fil b) (16 * (b.length / 16)) (16 * (b.length / 16)+16):=by
   have hsl:(sub b (16 * (b.length / 16)) b.length).length=b.length - 16 * (b.length / 16):=sub_length (Nat.le_refl _)
   have htk:(sub b (16 * (b.length / 16)) b.length).take (min (b.length - 16 * (b.length / 16)) 16)=sub b (16 * (b.length / 16)) b.length:=List.take_of_length_le (by rw [hsl]; omega)
   rw [htk] at hm
   refine List.ext_getElem (by rw [sub_length (by rw [fil_length]; omega)]; simp) fun i h1 h2=>?_
   have hi:i<16:=by simpa using h1
   have hA:m.toList[i]=vg m i:=by rw [vg_eq' hi]; simp
   have hgen : ∀ (l:Str) (V:Vx 8 16) (o:Nat),o+l.length≤16 → ∀ i,i<16 → vg (vsp V o l) i=if o≤i∧i<o+l.length then l.getD (i - o) 0#8 else vg V i:=by
    intro l
    induction l with
    | nil=>intro V o _ i _; rw [if_neg (by simp)]; rfl
    | cons x r ih =>
     intro V o ho i hi
     simp only [List.length_cons] at ho ⊢
     show vg (vsp (vp V o x) (o+1) r) i=_
     rw [ih (vp V o x) (o+1) (by omega) i hi,vg_vp (by omega) hi]
     by_cases c1:o=i
     ·subst c1
      rw [if_neg (by omega),if_pos rfl,if_pos (by omega),Nat.sub_self]; rfl
     ·by_cases c2:o+1≤i∧i<o+1+r.length
      ·rw [if_pos c2,if_pos (by omega),show i - o=(i - (o+1))+1 by omega]; rfl
      ·rw [if_neg c2,if_neg c1,if_neg (by omega)]
   rw [hA,hm,hgen _ _ 0 (by rw [hsl]; omega) i hi,hsl]
   have hR:(sub (fil b) (16 * (b.length / 16)) (16 * (b.length / 16)+16))[i]=(fil b).getD (16 * (b.length / 16)+i) 0#8:=by
    rw [← sub_getD _ _ (16 * (b.length / 16)+16) i (by omega),List.getD_eq_getElem?_getD,List.getElem?_eq_getElem h2]; rfl
   rw [hR]
   unfold fil
   rw [getD_zeros]
   by_cases ci:16 * (b.length / 16)+i<b.length
   ·rw [if_pos (by omega),Nat.sub_zero,sub_getD _ _ _ _ (by omega)]
   ·rw [if_neg (by omega),vg_eq' hi,List.getD_eq_getElem?_getD,List.getElem?_eq_none (by omega)]
    simp
  refine bind_i (add_eq h _ _ (by rw [hml,sub_length (by rw [fil_length]; omega)]; omega) (by rw [hml,sub_length (by rw [fil_length]; omega)]; omega)) ?_
  rw [hml,ld_sub _ _ _ (by omega)]
  have:ghs h (fil b) y=gh h (fil b) (b.length / 16) (iter (gh h (fil b)) (b.length / 16) y):=by unfold ghs; rw [hlen]; rfl
  rw [this]
  have h2:iter (gh h (fil b)) (b.length / 16) y=iter (gh h b) (b.length / 16) y:=iter_congr fun k hk x=>by
   unfold gh fil
   rw [ld_app_l b _ _ (by omega)]
  rw [h2]
  rfl
theorem ghash_eq (h s:Str) (hh:h.length=16) (hs:s.length<1152921504606846976):halberdref4_ghash h s=some (by16 (ghs (ld h 0) s z2)):=by
 unfold halberdref4_ghash
 refine bind_i (halves_eq h (by omega) (by omega)) (bind_i (v:=ghs (ld h 0) s z2) (loop_fn (fun k=>((iter (gh (ld h 0) s) k z2).1,(iter (gh (ld h 0) s) k z2).2,((16 * k:Nat):Int))) (s.length / 16) _ (by omega) rfl (fun k hk=>?_) ?_) (bind_i (whole_eq _) rfl))
 ·have e1:w64 (((16 * k:Nat):Int)+16)=((16 * k+16:Nat):Int):=w64_add (b:=16) (by omega)
  have hl:(sub s (16 * k) (16 * k+16)).length=16:=by rw [sub_length (by omega)]; omega
  unfold halberdref4_ghash.b0
  simp only [e1,Int.toNat_natCast]
  clear e1
  refine if_i (by omega) (if_i (by omega) (if_i (by omega) (if_i (by omega) (if_i (by omega) (bind_i (halves_eq _ (by omega) (by omega)) ?_)))))
  have ht:=times_eq (xr (iter (gh (ld h 0) s) k z2) (ld (sub s (16 * k) (16 * k+16)) 0)) (ld h 0)
  refine bind_i ht (ltt_i fun i hi=>?_)
  rw [hi,ld_sub _ _ _ (by omega),xr_comm]
  rfl
 ·have e1:w64 (((16 * (s.length / 16):Nat):Int)+16)=((16 * (s.length / 16)+16:Nat):Int):=w64_add (b:=16) (by omega)
  unfold halberdref4_ghash.b0
  simp only [e1]
  exact if_n (by omega) rfl
end Go.Proofs
end

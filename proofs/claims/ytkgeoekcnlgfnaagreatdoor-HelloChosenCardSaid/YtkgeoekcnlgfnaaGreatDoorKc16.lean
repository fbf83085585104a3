/-
  Part 16 of the proof of what several laws share.
-/
import Derived.Test.YtkgeoekcnlgfnaaGreatDoorKc1
import Derived.Test.YtkgeoekcnlgfnaaGreatDoorKc2
import Derived.Test.YtkgeoekcnlgfnaaGreatDoorKc3
import Derived.Test.YtkgeoekcnlgfnaaGreatDoorKc4
import Derived.Test.YtkgeoekcnlgfnaaGreatDoorKc5
import Derived.Test.YtkgeoekcnlgfnaaGreatDoorKc6
import Derived.Test.YtkgeoekcnlgfnaaGreatDoorKc14
import Derived.Test.YtkgeoekcnlgfnaaGreatDoorKc15
set_option linter.unusedVariables false
set_option linter.unusedSimpArgs false
section
namespace Go.Proofs
open Go Go.Kx
open Vector (replicate)
open TryzI Tryz
def aes_New.b1 (n1:Int) (s0:BitVec 8 × Int × List (Vx 8 4)) (j1:BitVec 8 × Vx 8 4) (s1:Int × List (Vx 8 4)):Option ((Int × List (Vx 8 4)) ⊕ (List (Vx 8 4))) :=
 if s1.1<4 then (if 0≤w64 (s0.2.1 - n1)∧w64 (s0.2.1 - n1)<((w64 (4 * (w64 (n1+7)))).toNat:Int) then (if (w64 (s0.2.1 - n1)).toNat<(s1.2).length then (if 0≤s1.1∧s1.1<(4:Int) then (if 0≤s1.1∧s1.1<(4:Int) then (if 0≤s0.2.1∧s0.2.1<((w64 (4 * (w64 (n1+7)))).toNat:Int) then (if (s0.2.1).toNat<(s1.2).length then (if 0≤s1.1∧s1.1<(4:Int) then (ltt (s1.2.set ((s0.2.1).toNat) (vp (lg s1.2 ((s0.2.1).toNat)) ((s1.1).toNat) ((vg (lg s1.2 ((w64 (s0.2.1 - n1)).toNat)) ((s1.1).toNat)) ^^^ (vg j1.2 ((s1.1).toNat))))) fun (m_3:List (Vx 8 4))=>(some (.inl (w64 (s1.1+1),m_3)))) else none) else none) else none) else none) else none) else none) else none) else (some (.inr s1.2))
def aes_New.b2 (r_1:Vx 8 256) (s2:Int × Vx 8 4):Option ((Int × Vx 8 4) ⊕ (Vx 8 4)) :=
 if s2.1<4 then (if 0≤s2.1∧s2.1<(4:Int) then (if 0≤s2.1∧s2.1<(4:Int) then (ltt (vp s2.2 ((s2.1).toNat) (vg r_1 ((vg s2.2 ((s2.1).toNat)).toNat))) fun (m_5:Vx 8 4)=>(some (.inl (w64 (s2.1+1),m_5)))) else none) else none) else (some (.inr s2.2))
def aes_New.b0 (key:Str) (r_1:Vx 8 256) (n1:Int) (s0:BitVec 8 × Int × List (Vx 8 4)):Option ((BitVec 8 × Int × List (Vx 8 4)) ⊕ (List (Vx 8 4))) :=
 if s0.2.1<((w64 (4 * (w64 (n1+7)))).toNat:Int) then (if s0.2.1<n1 then (if 0≤s0.2.1∧s0.2.1<((w64 (4 * (w64 (n1+7)))).toNat:Int) then (if (s0.2.1).toNat<(s0.2.2).length then (if 0≤w64 (4 * s0.2.1) then (if (w64 (4 * s0.2.1)).toNat≤(key).length then (ltt (s0.2.2.set ((s0.2.1).toNat) (vsp (lg s0.2.2 ((s0.2.1).toNat)) 0 ((sub key ((w64 (4 * s0.2.1)).toNat) ((key).length)).take (min ((sub key ((w64 (4 * s0.2.1)).toNat) ((key).length)).length) (4 - 0))))) fun (m_1:List (Vx 8 4))=>(some (.inl (s0.1,w64 (s0.2.1+1),m_1)))) else none) else none) else none) else none) else (if 0≤w64 (s0.2.1 - 1)∧w64 (s0.2.1 - 1)<((w64 (4 * (w64 (n1+7)))).toNat:Int) then (if (w64 (s0.2.1 - 1)).toNat<(s0.2.2).length then (ltt (lg s0.2.2 ((w64 (s0.2.1 - 1)).toNat)) fun (m_2:Vx 8 4)=>(if n1 ≠ 0 then ((if (s0.2.1.tmod n1)=0 then (ltt ((#v[(vg r_1 ((vg m_2 1).toNat)) ^^^ s0.1,vg r_1 ((vg m_2 2).toNat),vg r_1 ((vg m_2 3).toNat),vg r_1 ((vg m_2 0).toNat)]:Vx 8 4)) fun (m_4:Vx 8 4)=>((aes_twice s0.1).bind fun (r_2:BitVec 8)=>(some (r_2,m_4)))) else (if n1=8 then (if n1 ≠ 0 then (if (s0.2.1.tmod n1)=4 then ((loop (aes_New.b2 r_1) BIG (0,m_2)).bind fun (t_3:Vx 8 4)=>(some (s0.1,t_3))) else (some (s0.1,m_2))) else none) else (some (s0.1,m_2)))).bind fun (j1:BitVec 8 × Vx 8 4)=>((loop (aes_New.b1 n1 s0 j1) BIG (0,s0.2.2)).bind fun (t_2:List (Vx 8 4))=>(some (.inl (j1.1,w64 (s0.2.1+1),t_2))))) else none)) else none) else none)) else (some (.inr s0.2.2))
def aes_New.b3 (n1:Int) (t_1:List (Vx 8 4)) (s3:Int × List (Vx 8 16)):Option ((Int × List (Vx 8 16)) ⊕ (List (Vx 8 16))) :=
 if s3.1<((w64 (4 * (w64 (n1+7)))).toNat:Int) then (if 0≤w64 (s3.1.tdiv 4)∧w64 (s3.1.tdiv 4)<((w64 (n1+7)).toNat:Int) then (if (w64 (s3.1.tdiv 4)).toNat<(s3.2).length then (if 0≤w64 (4 * (s3.1.tmod 4)) then (if (w64 (4 * (s3.1.tmod 4))).toNat≤16 then (if (w64 (4 * (s3.1.tmod 4))).toNat<16 then (if 0≤s3.1∧s3.1<((w64 (4 * (w64 (n1+7)))).toNat:Int) then (if (s3.1).toNat<(t_1).length then (ltt (s3.2.set ((w64 (s3.1.tdiv 4)).toNat) (vsp (lg s3.2 ((w64 (s3.1.tdiv 4)).toNat)) ((w64 (4 * (s3.1.tmod 4))).toNat) ((sub ((lg t_1 ((s3.1).toNat)).toList) 0 4).take (min (4 - 0) (16 - ((w64 (4 * (s3.1.tmod 4))).toNat)))))) fun (m_6:List (Vx 8 16))=>(some (.inl (w64 (s3.1+1),m_6)))) else none) else none) else none) else none) else none) else none) else none) else (some (.inr s3.2))
def aes_New.b5 (n2:Int) (s4:BitVec 8 × Int × List (Vx 8 4)) (j2:BitVec 8 × Vx 8 4) (s5:Int × List (Vx 8 4)):Option ((Int × List (Vx 8 4)) ⊕ (List (Vx 8 4))) :=
 if s5.1<4 then (if 0≤w64 (s4.2.1 - n2)∧w64 (s4.2.1 - n2)<((w64 (4 * (w64 (n2+7)))).toNat:Int) then (if (w64 (s4.2.1 - n2)).toNat<(s5.2).length then (if 0≤s5.1∧s5.1<(4:Int) then (if 0≤s5.1∧s5.1<(4:Int) then (if 0≤s4.2.1∧s4.2.1<((w64 (4 * (w64 (n2+7)))).toNat:Int) then (if (s4.2.1).toNat<(s5.2).length then (if 0≤s5.1∧s5.1<(4:Int) then (ltt (s5.2.set ((s4.2.1).toNat) (vp (lg s5.2 ((s4.2.1).toNat)) ((s5.1).toNat) ((vg (lg s5.2 ((w64 (s4.2.1 - n2)).toNat)) ((s5.1).toNat)) ^^^ (vg j2.2 ((s5.1).toNat))))) fun (m_9:List (Vx 8 4))=>(some (.inl (w64 (s5.1+1),m_9)))) else none) else none) else none) else none) else none) else none) else none) else (some (.inr s5.2))
def aes_New.b6 (r_3:Vx 8 256) (s6:Int × Vx 8 4):Option ((Int × Vx 8 4) ⊕ (Vx 8 4)) :=
 if s6.1<4 then (if 0≤s6.1∧s6.1<(4:Int) then (if 0≤s6.1∧s6.1<(4:Int) then (ltt (vp s6.2 ((s6.1).toNat) (vg r_3 ((vg s6.2 ((s6.1).toNat)).toNat))) fun (m_11:Vx 8 4)=>(some (.inl (w64 (s6.1+1),m_11)))) else none) else none) else (some (.inr s6.2))
def aes_New.b4 (key:Str) (r_3:Vx 8 256) (n2:Int) (s4:BitVec 8 × Int × List (Vx 8 4)):Option ((BitVec 8 × Int × List (Vx 8 4)) ⊕ (List (Vx 8 4))) :=
 if s4.2.1<((w64 (4 * (w64 (n2+7)))).toNat:Int) then (if s4.2.1<n2 then (if 0≤s4.2.1∧s4.2.1<((w64 (4 * (w64 (n2+7)))).toNat:Int) then (if (s4.2.1).toNat<(s4.2.2).length then (if 0≤w64 (4 * s4.2.1) then (if (w64 (4 * s4.2.1)).toNat≤(key).length then (ltt (s4.2.2.set ((s4.2.1).toNat) (vsp (lg s4.2.2 ((s4.2.1).toNat)) 0 ((sub key ((w64 (4 * s4.2.1)).toNat) ((key).length)).take (min ((sub key ((w64 (4 * s4.2.1)).toNat) ((key).length)).length) (4 - 0))))) fun (m_7:List (Vx 8 4))=>(some (.inl (s4.1,w64 (s4.2.1+1),m_7)))) else none) else none) else none) else none) else (if 0≤w64 (s4.2.1 - 1)∧w64 (s4.2.1 - 1)<((w64 (4 * (w64 (n2+7)))).toNat:Int) then (if (w64 (s4.2.1 - 1)).toNat<(s4.2.2).length then (ltt (lg s4.2.2 ((w64 (s4.2.1 - 1)).toNat)) fun (m_8:Vx 8 4)=>(if n2 ≠ 0 then ((if (s4.2.1.tmod n2)=0 then (ltt ((#v[(vg r_3 ((vg m_8 1).toNat)) ^^^ s4.1,vg r_3 ((vg m_8 2).toNat),vg r_3 ((vg m_8 3).toNat),vg r_3 ((vg m_8 0).toNat)]:Vx 8 4)) fun (m_10:Vx 8 4)=>((aes_twice s4.1).bind fun (r_4:BitVec 8)=>(some (r_4,m_10)))) else (if n2=8 then (if n2 ≠ 0 then (if (s4.2.1.tmod n2)=4 then ((loop (aes_New.b6 r_3) BIG (0,m_8)).bind fun (t_7:Vx 8 4)=>(some (s4.1,t_7))) else (some (s4.1,m_8))) else none) else (some (s4.1,m_8)))).bind fun (j2:BitVec 8 × Vx 8 4)=>((loop (aes_New.b5 n2 s4 j2) BIG (0,s4.2.2)).bind fun (t_6:List (Vx 8 4))=>(some (.inl (j2.1,w64 (s4.2.1+1),t_6))))) else none)) else none) else none)) else (some (.inr s4.2.2))
def aes_New.b7 (n2:Int) (t_5:List (Vx 8 4)) (s7:Int × List (Vx 8 16)):Option ((Int × List (Vx 8 16)) ⊕ (List (Vx 8 16))) :=
 if s7.1<((w64 (4 * (w64 (n2+7)))).toNat:Int) then (if 0≤w64 (s7.1.tdiv 4)∧w64 (s7.1.tdiv 4)<((w64 (n2+7)).toNat:Int) then (if (w64 (s7.1.tdiv 4)).toNat<(s7.2).length then (if 0≤w64 (4 * (s7.1.tmod 4)) then (if (w64 (4 * (s7.1.tmod 4))).toNat≤16 then (if (w64 (4 * (s7.1.tmod 4))).toNat<16 then (if 0≤s7.1∧s7.1<((w64 (4 * (w64 (n2+7)))).toNat:Int) then (if (s7.1).toNat<(t_5).length then (ltt (s7.2.set ((w64 (s7.1.tdiv 4)).toNat) (vsp (lg s7.2 ((w64 (s7.1.tdiv 4)).toNat)) ((w64 (4 * (s7.1.tmod 4))).toNat) ((sub ((lg t_5 ((s7.1).toNat)).toList) 0 4).take (min (4 - 0) (16 - ((w64 (4 * (s7.1.tmod 4))).toNat)))))) fun (m_12:List (Vx 8 16))=>(some (.inl (w64 (s7.1+1),m_12)))) else none) else none) else none) else none) else none) else none) else none) else (some (.inr s7.2))
def aes_New (key:Str):Option ((Unit) ⊕ (Vx 8 256 × Nat × List (Vx 8 16))) :=
 if ((key).length:Int) ≠ 16 then (if ((key).length:Int) ≠ 32 then (some (.inl ())) else ((aes_table).bind fun (r_1:Vx 8 256)=>(ltt (w64 (((key).length:Int).tdiv 4)) fun (n1:Int)=>(if 0≤w64 (4 * (w64 (n1+7)))∧w64 (4 * (w64 (n1+7)))≤17592186044416 then ((loop (aes_New.b0 key r_1 n1) BIG (1#8,0,List.replicate ((w64 (4 * (w64 (n1+7)))).toNat) (replicate 4 0#8))).bind fun (t_1:List (Vx 8 4))=>(if 0≤w64 (n1+7)∧w64 (n1+7)≤17592186044416 then ((loop (aes_New.b3 n1 t_1) BIG (0,List.replicate ((w64 (n1+7)).toNat) (replicate 16 0#8))).bind fun (t_4:List (Vx 8 16))=>(some (.inr (r_1,(w64 (n1+7)).toNat,t_4)))) else none)) else none)))) else ((aes_table).bind fun (r_3:Vx 8 256)=>(ltt (w64 (((key).length:Int).tdiv 4)) fun (n2:Int)=>(if 0≤w64 (4 * (w64 (n2+7)))∧w64 (4 * (w64 (n2+7)))≤17592186044416 then ((loop (aes_New.b4 key r_3 n2) BIG (1#8,0,List.replicate ((w64 (4 * (w64 (n2+7)))).toNat) (replicate 4 0#8))).bind fun (t_5:List (Vx 8 4))=>(if 0≤w64 (n2+7)∧w64 (n2+7)≤17592186044416 then ((loop (aes_New.b7 n2 t_5) BIG (0,List.replicate ((w64 (n2+7)).toNat) (replicate 16 0#8))).bind fun (t_8:List (Vx 8 16))=>(some (.inr (r_3,(w64 (n2+7)).toNat,t_8)))) else none)) else none)))
set_option maxHeartbeats 4000000 in
set_option maxRecDepth 20000 in
theorem F141_calls (key:Str) (r:(Unit) ⊕ (Vx 8 256 × Nat × List (Vx 8 16))) (H:aes_New key=some r) :
  Does Tryz.prog 141 [vs key] [] [] (Γ:=Unit × (Nat × Nat)) (fun g=>match r with | .inl r=>Value.tuple [Value.pointer none,vb false].toArray | .inr r=>Value.tuple [ptr (some (g.2.1,0)) 0,vb true].toArray) (fun g=>match r with | .inl r=>[] | .inr r=>[⟨some (g.2.1,0),e8 r.1.toList⟩,⟨some (g.2.1,256),[sl (some (g.2.2,0)) r.2.1 r.2.1]⟩,⟨some (g.2.2,0),eF (fun V:Vx 8 16=>e8 V.toList) r.2.2⟩]):=by
 intro w hmem hro hd
 refine calls_of (N:=163) (m0:=[(0,vs key)]) func141 rfl ntmps141 (argM_ok [vs key]) rfl hmem hro hd ?_
 unfold aes_New at H
 refine TC_seq (TC_region (TVa ?_))
 refine TVa ?_
 refine TL_nil (TX_next (TC_seq (TC_seq (TC_region (TVm ?_)))))
 refine TLv (V_len_str rfl underlying9) ?_
 refine TLv (V_bin rfl rfl (fun w=>neqI w ((key).length:Int) 16)) ?_
 refine TVm ?_
 refine TFd (d:=16) H (fun hc H=>?_) (fun hc H=>?_)
 ·refine TLw (V_move rfl) ?_
  refine TLw (V_len_str rfl underlying9) ?_
  refine TLw (V_bin rfl rfl (fun w=>neqI w ((key).length:Int) 32)) ?_
  refine TVt ?_
  refine TL_nil (TX_next (TCd H (fun hc H=>?_) (fun hc H=>?_)))
  ·refine TC_seq (TC_region (TVa ?_))
   refine TVa ?_
   refine TL_nil (TX_next (TC_ret (TX_then_ret ?_)))
   obtain rfl:=sj H
   exact TX_ret (rs:=[.tmp 2, .tmp 3]) (vs:=[Value.pointer none,vb false]) rfl ⟨rfl,rfl,trivial⟩ (fun w' hs'=>⟨((),((default:Nat),(default:Nat))),rfl,Step.left (Step.pulled (is:=[]) (A:=[]) hs' rfl)⟩)
  ·refine TC_skip (TX_next (TC_seq (TC_region ?_)))
   obtain ⟨r_1,hr_1,H⟩:=bind_elim H
   refine TLe (E_c0 (F152_calls r_1 hr_1) call152 .z) (fun g_1=>?_)
   refine TLv (V_buildStruct (pv:=[(0,aG [(256,e8 r_1.toList)])]) (pl:=[(0,256),(256,1)]) rfl rfl underlying247 inf247 places247 zer247 (cs:=flat [(256,e8 r_1.toList),(1,[sl none 0 0])]) (fill_part [] [(1,[sl none 0 0])] rfl rfl trivial rfl (lenV (f:=v8) (replicate 256 0#8)) (lenV (f:=v8) r_1) fill_end)) ?_
   refine TLe (E_boxP [(256,e8 r_1.toList),(1,[sl none 0 0])] rfl rfl ⟨(lenV (f:=v8) r_1),rfl,trivial⟩) (fun b1=>?_)
   refine TL_gen (Lf:=fun An1=>[⟨some (b1,0),e8 r_1.toList⟩,⟨some (b1,256),[sl An1 ((([]:List (Vx 8 16))).length) ((([]:List (Vx 8 16))++([]:List (Vx 8 16))).length)]⟩]) (z:=eF (fun V:Vx 8 16=>e8 V.toList) (([]:List (Vx 8 16))++([]:List (Vx 8 16)))) rfl rfl (fun An1=>?_)
   refine TVa ?_
   refine TL_nil (TX_next (TC_seq (TC_region (TVm ?_))))
   refine TLv (V_len_str rfl underlying9) ?_
   refine TLv (V_bin rfl rfl (fun w=>quoI w ((key).length:Int) 4 (by decide))) ?_
   refine TVa ?_
   obtain ⟨n1,hn1,H⟩:=ltt_elim H
   refine TLr 5 (congrArg vi hn1) ?_
   refine TL_nil (TX_next (TC_seq (TC_region (TVm ?_))))
   refine TLv (V_bin rfl rfl (fun w=>addI w n1 7)) ?_
   refine TLv (V_bin rfl rfl (fun w=>mulI w 4 (w64 (n1+7)))) ?_
   obtain ⟨h1,H⟩:=if_elim H
   refine TLe (E_mkN rfl rfl underlying127 inf147 zer147 (by kernel_rfl) rfl rfl (B:=4) rfl h1.1 (Int.le_refl _) (mk_b 4 rfl h1) (mk_c h1) (n':=(w64 (4 * (w64 (n1+7)))).toNat) (c':=(w64 (4 * (w64 (n1+7)))).toNat) rfl rfl (cs:=eF (fun V:Vx 8 4=>e8 V.toList) (List.replicate ((w64 (4 * (w64 (n1+7)))).toNat) (replicate 4 0#8))) (rep_eF (g:=fun V:Vx 8 4=>e8 V.toList))) (fun b2=>?_)
   refine TVa ?_
   refine TL_nil (TX_next (TC_seq (TC_region (TVa ?_))))
   refine TL_nil (TX_next (TC_seq (TC_seq (TC_region (TVm ?_)))))
   refine TLv (V_len_slice rfl underlying127) ?_
   refine TVm ?_
   refine TL_nil (TX_next (TC_block ?_))
   obtain ⟨t_1,Hl,H⟩:=bind_elim H
   refine TC.sub (m':=[(0,_),(4,_),(5,_),(6,_),(7,_),(32,_),(33,_)]) ⟨rfl,rfl,rfl,rfl,rfl,rfl,rfl,trivial⟩ ?_
   refine TC.pull (is:=[2,2,1,0]) (L':=[_,_,_,_]) rfl ?_
   refine TC_loopL (id:=0) (body:=(aes_New.b0 key r_1 n1)) (σ:=BitVec 8 × Int × List (Vx 8 4)) (Γ:=Unit) (Γx:=Unit) (fun s0 g0_=>[(0,vs key),(4,ptr (some (b1,0)) 0),(5,vi n1),(6,sl (some (b2,0)) ((w64 (4 * (w64 (n1+7)))).toNat) ((w64 (4 * (w64 (n1+7)))).toNat)),(7,v8 s0.1),(32,vi ((w64 (4 * (w64 (n1+7)))).toNat:Int)),(33,vi s0.2.1)]) (fun s0 g0_=>[⟨some (b1,0),e8 r_1.toList⟩,⟨some (b1,256),[sl An1 ((([]:List (Vx 8 16))).length) ((([]:List (Vx 8 16))++([]:List (Vx 8 16))).length)]⟩,⟨An1,eF (fun V:Vx 8 16=>e8 V.toList) (([]:List (Vx 8 16))++([]:List (Vx 8 16)))⟩,⟨some (b2,0),eF (fun V:Vx 8 4=>e8 V.toList) s0.2.2⟩]) (fun t g=>[(4,ptr (some (b1,0)) 0),(5,vi n1),(6,sl (some (b2,0)) ((w64 (4 * (w64 (n1+7)))).toNat) ((w64 (4 * (w64 (n1+7)))).toNat))]) (fun t g=>[⟨some (b1,0),e8 r_1.toList⟩,⟨some (b1,256),[sl An1 ((([]:List (Vx 8 16))).length) ((([]:List (Vx 8 16))++([]:List (Vx 8 16))).length)]⟩,⟨An1,eF (fun V:Vx 8 16=>e8 V.toList) (([]:List (Vx 8 16))++([]:List (Vx 8 16)))⟩,⟨some (b2,0),eF (fun V:Vx 8 4=>e8 V.toList) t⟩]) ?_ BIG (1#8,0,List.replicate ((w64 (4 * (w64 (n1+7)))).toNat) (replicate 4 0#8)) () t_1 Hl ?_
   ·intro s0 g0_ r1 H K hK hE
    unfold aes_New.b0 at H
    refine TC_seq (TC_region (TLv (V_bin rfl rfl (fun w=>lssI w s0.2.1 ((w64 (4 * (w64 (n1+7)))).toNat:Int))) ?_))
    refine TL_nil (TX_next (TC_seq (TCd H (fun hc H=>?_) (fun hc H=>?_))))
    ·refine TC_skip (TX_next (TC_seq (TC_block (TC_seq (TC_region (TVm ?_))))))
     refine TVa ?_
     refine TL_nil (TX_next (TC_seq (TC_seq (TC_region (TVm ?_)))))
     refine TVm ?_
     refine TLv (V_bin rfl rfl (fun w=>lssI w s0.2.1 n1)) ?_
     refine TL_nil (TX_next (TCd H (fun hc H=>?_) (fun hc H=>?_)))
     ·refine TC_seq ?_
      obtain ⟨h2,H⟩:=if_elim H
      obtain ⟨h3,H⟩:=if_elim H
      obtain ⟨h4,H⟩:=if_elim H
      obtain ⟨h5,H⟩:=if_elim H
      obtain ⟨m_1,hm_1,H⟩:=ltt_elim H
      refine TA_begin [] 9 (by kernel_rfl) (N:=9) rfl ?_
      refine TA_mix (is:=[]) (done':=dn 9 255) [itV 0 39 (sl (some (b2,0)) ((w64 (4 * (w64 (n1+7)))).toNat) ((w64 (4 * (w64 (n1+7)))).toNat)) [],itV 1 40 (vi s0.2.1) [],itV 2 41 (ptr (some (b2,0)) (((s0.2.1).toNat) * 4)) [1,0],itV 3 42 (sl (sh (some (b2,0)) (((s0.2.1).toNat) * 4+0)) (4 - 0) (4 - 0)) [2],itV 4 43 (vs key) [],itV 5 44 (vi s0.2.1) [],itV 6 45 (vi (w64 (4 * s0.2.1))) [5],itV 7 46 (vs (sub key ((w64 (4 * s0.2.1)).toNat) ((key).length))) [4,6]] [] 1 (by kernel_rfl) (QP.then (QP.then (QP.block (QP.then (QP.then (QP.block (QP.then QP.body))))))) (by kernel_rfl) rfl (.v rfl (V_move rfl) (.v rfl (V_move rfl) (.v rfl (V_idxSl (i:=s0.2.1) rfl rfl underlying127 inf147 rfl (fun _ h=>by cases h) h2.1 h2.2 (k:=((s0.2.1).toNat) * 4) rfl) (.v rfl (V_sliceWin (l:=0) (h:=4) rfl (by simp) underlying147 inf5 rfl Bnd.none' Bnd.none' (Nat.zero_le _) (Nat.le_refl _) (by decide)) (.v rfl (V_move rfl) (.v rfl (V_move rfl) (.v rfl (V_bin rfl rfl (fun w=>mulI w 4 s0.2.1)) (.v rfl (V_sliceStr (l:=(w64 (4 * s0.2.1)).toNat) (h:=(key).length) rfl underlying9 (Bnd.some' (i:=w64 (4 * s0.2.1)) rfl h4) Bnd.none' h5 (Nat.le_refl _)) .nil)))))))) .nil (by kernel_rfl) rfl (fun γ=>?_)
      refine TA_cut [(46,vs (sub key ((w64 (4 * s0.2.1)).toNat) ((key).length))),(42,sl (sh (some (b2,0)) (((s0.2.1).toNat) * 4+0)) (4 - 0) (4 - 0)),(0,vs key),(4,ptr (some (b1,0)) 0),(5,vi n1),(6,sl (some (b2,0)) ((w64 (4 * (w64 (n1+7)))).toNat) ((w64 (4 * (w64 (n1+7)))).toNat)),(7,v8 s0.1),(32,vi ((w64 (4 * (w64 (n1+7)))).toNat:Int)),(33,vi s0.2.1)] [⟨some (b1,0),e8 r_1.toList⟩,⟨some (b1,256),[sl An1 ((([]:List (Vx 8 16))).length) ((([]:List (Vx 8 16))++([]:List (Vx 8 16))).length)]⟩,⟨An1,eF (fun V:Vx 8 16=>e8 V.toList) (([]:List (Vx 8 16))++([]:List (Vx 8 16)))⟩,⟨some (b2,0),eF (fun V:Vx 8 4=>e8 V.toList) s0.2.2⟩] ⟨rfl,rfl,rfl,rfl,rfl,rfl,rfl,rfl,rfl,trivial⟩ rfl ?_
      refine TA_all (rs:=[8]) (by kernel_rfl) rfl ?_
      refine ⟨?_,trivial⟩
      refine TO_e (is:=[]) (done':=dn 9 511) rfl rfl rfl rfl (by kernel_rfl) (E_copyStr (o:=((s0.2.1).toNat) * 4+0) (j:=3) rfl rfl (by simp) underlying86 inf5 rfl rfl (copy_row (n:=4) (l:=0) (d:=4 - 0) h3 (by omega)) (cs':=eF (fun V:Vx 8 4=>e8 V.toList) (s0.2.2.set ((s0.2.1).toNat) (vsp (lg s0.2.2 ((s0.2.1).toNat)) 0 ((sub key ((w64 (4 * s0.2.1)).toNat) ((key).length)).take (min ((sub key ((w64 (4 * s0.2.1)).toNat) ((key).length)).length) (4 - 0)))))) (splice_lvec h3 (take_room (n:=4) (l:=0) (d:=4 - 0) (by omega)))) (fun _ _=>rfl) (fun _=>?_)
      refine TA_reE (j:=3) (A:=some (b2,0)) (cs:=eF (fun V:Vx 8 4=>e8 V.toList) (s0.2.2.set ((s0.2.1).toNat) (vsp (lg s0.2.2 ((s0.2.1).toNat)) 0 ((sub key ((w64 (4 * s0.2.1)).toNat) ((key).length)).take (min ((sub key ((w64 (4 * s0.2.1)).toNat) ((key).length)).length) (4 - 0)))))) (cs':=eF (fun V:Vx 8 4=>e8 V.toList) m_1) rfl (congrArg (eF (fun V:Vx 8 4=>e8 V.toList)) hm_1) ?_
      refine TA_done (by kernel_rfl) ?_ 0
      refine TX_next (TC_exit (TX_then_exit (TX_block_exit (TX_next (TC_region (TLv (V_bin rfl rfl (fun w=>addI w s0.2.1 1)) ?_))))))
      refine TVm ?_
      refine TL_nil ?_
      obtain rfl:=sj H
      exact TXk [0,0,0,0] (hK (s0.1,w64 (s0.2.1+1),m_1) rfl ())
     ·refine TC_skip (TX_next (TC_seq (TC_region (TVm ?_))))
      refine TVm ?_
      refine TLv (V_bin rfl rfl (fun w=>subI w s0.2.1 1)) ?_
      obtain ⟨h6,H⟩:=if_elim H
      obtain ⟨h7,H⟩:=if_elim H
      refine TLv (V_idxSl (i:=w64 (s0.2.1 - 1)) rfl rfl underlying127 inf147 rfl (fun _ h=>by cases h) h6.1 h6.2 (k:=((w64 (s0.2.1 - 1)).toNat) * 4) rfl) ?_
      refine TLv (V_loadPart (n:=4) (ds:=e8 ((lg s0.2.2 ((w64 (s0.2.1 - 1)).toNat)).toList)) rfl (.o 3) (part_eF (g:=fun V:Vx 8 4=>e8 V.toList) (s:=4) (fun _=>by simp) s0.2.2 ((w64 (s0.2.1 - 1)).toNat) h7) (by simp) rfl isAgg147 inf147 rfl) ?_
      refine TLe (E_allocP [(4,e8 ((replicate 4 0#8).toList))] inf147 zer147 ⟨(lenV (f:=v8) (replicate 4 0#8)),trivial⟩) (fun b3=>?_)
      refine TLn (E_sv 0 inf147) (fun _=>?_)
      obtain ⟨m_2,hm_2,H⟩:=ltt_elim H
      refine TL_reE (j:=0) (A:=some (b3,0)) (cs:=e8 ((lg s0.2.2 ((w64 (s0.2.1 - 1)).toNat)).toList)) (cs':=e8 m_2.toList) rfl (congrArg (fun z:Vx 8 4=>e8 (Vector.toList z)) hm_2) ?_
      refine TL_nil (TX_next (TC_seq (TC_seq (TC_region (TVm ?_)))))
      refine TVm ?_
      obtain ⟨h8,H⟩:=if_elim H
      refine TLv (V_bin rfl rfl (fun w=>remI w s0.2.1 n1 h8)) ?_
      refine TLv (V_bin rfl rfl (fun w=>eqlI w (s0.2.1.tmod n1) 0)) ?_
      refine TL_nil (TX_next ?_)
      obtain ⟨j1,Hj,H⟩:=bind_elim H
      refine TC_join (Γ:=Unit) (fun gj1=>[(0,vs key),(4,ptr (some (b1,0)) 0),(5,vi n1),(6,sl (some (b2,0)) ((w64 (4 * (w64 (n1+7)))).toNat) ((w64 (4 * (w64 (n1+7)))).toNat)),(7,v8 j1.1),(8,vi s0.2.1),(9,ptr (some (b3,0)) 0),(32,vi ((w64 (4 * (w64 (n1+7)))).toNat:Int)),(33,vi s0.2.1)]) (fun gj1=>[⟨some (b1,0),e8 r_1.toList⟩,⟨some (b1,256),[sl An1 ((([]:List (Vx 8 16))).length) ((([]:List (Vx 8 16))++([]:List (Vx 8 16))).length)]⟩,⟨An1,eF (fun V:Vx 8 16=>e8 V.toList) (([]:List (Vx 8 16))++([]:List (Vx 8 16)))⟩,⟨some (b2,0),eF (fun V:Vx 8 4=>e8 V.toList) s0.2.2⟩,⟨some (b3,0),e8 j1.2.toList⟩]) ?_ ?_
      ·intro gj1
       refine TX_next (TC_seq (TC_region (TVm ?_)))
       refine TL_nil (TX_next (TC_block ?_))
       obtain ⟨t_2,Hl,H⟩:=bind_elim H
       refine TC.sub (m':=[(0,_),(4,_),(5,_),(6,_),(7,_),(8,_),(9,_),(32,_),(33,_),(112,_)]) ⟨rfl,rfl,rfl,rfl,rfl,rfl,rfl,rfl,rfl,rfl,trivial⟩ ?_
       refine TC.pull (is:=[0,0,0,0,0]) (L':=[_,_,_,_,_]) rfl ?_
       refine TC_loopL (id:=4) (body:=(aes_New.b1 n1 s0 j1)) (σ:=Int × List (Vx 8 4)) (Γ:=Unit) (Γx:=Unit) (fun s1 g1_=>[(0,vs key),(4,ptr (some (b1,0)) 0),(5,vi n1),(6,sl (some (b2,0)) ((w64 (4 * (w64 (n1+7)))).toNat) ((w64 (4 * (w64 (n1+7)))).toNat)),(7,v8 j1.1),(8,vi s0.2.1),(9,ptr (some (b3,0)) 0),(32,vi ((w64 (4 * (w64 (n1+7)))).toNat:Int)),(33,vi s0.2.1),(112,vi s1.1)]) (fun s1 g1_=>[⟨some (b1,0),e8 r_1.toList⟩,⟨some (b1,256),[sl An1 ((([]:List (Vx 8 16))).length) ((([]:List (Vx 8 16))++([]:List (Vx 8 16))).length)]⟩,⟨An1,eF (fun V:Vx 8 16=>e8 V.toList) (([]:List (Vx 8 16))++([]:List (Vx 8 16)))⟩,⟨some (b2,0),eF (fun V:Vx 8 4=>e8 V.toList) s1.2⟩,⟨some (b3,0),e8 j1.2.toList⟩]) (fun t g=>[(0,vs key),(4,ptr (some (b1,0)) 0),(5,vi n1),(6,sl (some (b2,0)) ((w64 (4 * (w64 (n1+7)))).toNat) ((w64 (4 * (w64 (n1+7)))).toNat)),(7,v8 j1.1),(32,vi ((w64 (4 * (w64 (n1+7)))).toNat:Int)),(33,vi s0.2.1)]) (fun t g=>[⟨some (b1,0),e8 r_1.toList⟩,⟨some (b1,256),[sl An1 ((([]:List (Vx 8 16))).length) ((([]:List (Vx 8 16))++([]:List (Vx 8 16))).length)]⟩,⟨An1,eF (fun V:Vx 8 16=>e8 V.toList) (([]:List (Vx 8 16))++([]:List (Vx 8 16)))⟩,⟨some (b2,0),eF (fun V:Vx 8 4=>e8 V.toList) t⟩]) ?_ BIG (0,s0.2.2) () t_2 Hl ?_
       ·intro s1 g1_ r1 H K hK hE
        unfold aes_New.b1 at H
        refine TC_seq (TC_region (TLv (V_bin rfl rfl (fun w=>lssI w s1.1 4)) ?_))
        refine TL_nil (TX_next (TC_seq (TCd H (fun hc H=>?_) (fun hc H=>?_))))
        ·refine TC_skip (TX_next (TC_seq (TC_block (TC_seq (TC_region (TVm ?_))))))
         refine TVa ?_
         refine TL_nil (TX_next ?_)
         obtain ⟨h9,H⟩:=if_elim H
         obtain ⟨h10,H⟩:=if_elim H
         obtain ⟨h11,H⟩:=if_elim H
         obtain ⟨h12,H⟩:=if_elim H
         obtain ⟨h13,H⟩:=if_elim H
         obtain ⟨h14,H⟩:=if_elim H
         obtain ⟨h15,H⟩:=if_elim H
         obtain ⟨m_3,hm_3,H⟩:=ltt_elim H
         refine TA_begin [] 18 (by kernel_rfl) (N:=18) rfl ?_
         refine TA_mix (is:=[]) (done':=dn 18 131071) [itV 0 115 (sl (some (b2,0)) ((w64 (4 * (w64 (n1+7)))).toNat) ((w64 (4 * (w64 (n1+7)))).toNat)) [],itV 1 116 (vi s0.2.1) [],itV 2 117 (vi s1.1) [],itV 3 118 (sl (some (b2,0)) ((w64 (4 * (w64 (n1+7)))).toNat) ((w64 (4 * (w64 (n1+7)))).toNat)) [],itV 4 119 (vi s0.2.1) [],itV 5 120 (vi n1) [],itV 6 121 (vi (w64 (s0.2.1 - n1))) [5,4],itV 7 122 (vi s1.1) [],itV 8 123 (ptr (some (b2,0)) (((w64 (s0.2.1 - n1)).toNat) * 4)) [6,3],itV 9 124 (ptr (some (b2,0)) (((w64 (s0.2.1 - n1)).toNat) * 4+(s1.1).toNat)) [7,8],itV 10 125 (v8 (vg (lg s1.2 ((w64 (s0.2.1 - n1)).toNat)) ((s1.1).toNat))) [9],itV 11 126 (vi s1.1) [],itV 12 127 (ptr (some (b3,0)) ((s1.1).toNat)) [11],itV 13 128 (v8 (vg j1.2 ((s1.1).toNat))) [12],itV 14 129 (v8 ((vg (lg s1.2 ((w64 (s0.2.1 - n1)).toNat)) ((s1.1).toNat)) ^^^ (vg j1.2 ((s1.1).toNat)))) [13,10],itV 15 130 (ptr (some (b2,0)) (((s0.2.1).toNat) * 4)) [0,1],itV 16 131 (ptr (some (b2,0)) (((s0.2.1).toNat) * 4+(s1.1).toNat)) [15,2]] [] 1 (by kernel_rfl) (QP.block (QP.then (QP.then (QP.block (QP.block (QP.then (QP.then (QP.block (QP.then QP.body))))))))) (by kernel_rfl) rfl (.v rfl (V_move rfl) (.v rfl (V_move rfl) (.v rfl (V_move rfl) (.v rfl (V_move rfl) (.v rfl (V_move rfl) (.v rfl (V_move rfl) (.v rfl (V_bin rfl rfl (fun w=>subI w s0.2.1 n1)) (.v rfl (V_move rfl) (.v rfl (V_idxSl (i:=w64 (s0.2.1 - n1)) rfl rfl underlying127 inf147 rfl (fun _ h=>by cases h) h9.1 h9.2 (k:=((w64 (s0.2.1 - n1)).toNat) * 4) rfl) (.v rfl (V_idxArr (i:=s1.1) rfl rfl underlying147 inf5 rfl h11.1 h11.2 (k:=((w64 (s0.2.1 - n1)).toNat) * 4+(s1.1).toNat) (k1 _ _)) (.v rfl (V_load rfl (.o 3) ((get_eF (g:=fun V:Vx 8 4=>e8 V.toList) (s:=4) (fun _=>by simp) s1.2 ((w64 (s0.2.1 - n1)).toNat) ((s1.1).toNat) h10 (toNat_lt h11.1 h11.2)).trans (get_vec (toNat_lt h11.1 h11.2))) isAgg5) (.v rfl (V_move rfl) (.v rfl (V_idxArr (i:=s1.1) rfl rfl underlying147 inf5 rfl h12.1 h12.2 (k:=(s1.1).toNat) (k01 _)) (.v rfl (V_load rfl (.o 4) (get_vec (f:=v8) (V:=j1.2) (toNat_lt h12.1 h12.2)) isAgg5) (.v rfl (V_bin rfl rfl (fun w=>xor8 w (vg (lg s1.2 ((w64 (s0.2.1 - n1)).toNat)) ((s1.1).toNat)) (vg j1.2 ((s1.1).toNat)))) (.v rfl (V_idxSl (i:=s0.2.1) rfl rfl underlying127 inf147 rfl (fun _ h=>by cases h) h13.1 h13.2 (k:=((s0.2.1).toNat) * 4) rfl) (.v rfl (V_idxArr (i:=s1.1) rfl rfl underlying147 inf5 rfl h15.1 h15.2 (k:=((s0.2.1).toNat) * 4+(s1.1).toNat) (k1 _ _)) .nil))))))))))))))))) .nil (by kernel_rfl) rfl (fun γ=>?_)
         refine TA_cut [(131,ptr (some (b2,0)) (((s0.2.1).toNat) * 4+(s1.1).toNat)),(129,v8 ((vg (lg s1.2 ((w64 (s0.2.1 - n1)).toNat)) ((s1.1).toNat)) ^^^ (vg j1.2 ((s1.1).toNat)))),(0,vs key),(4,ptr (some (b1,0)) 0),(5,vi n1),(6,sl (some (b2,0)) ((w64 (4 * (w64 (n1+7)))).toNat) ((w64 (4 * (w64 (n1+7)))).toNat)),(7,v8 j1.1),(8,vi s0.2.1),(9,ptr (some (b3,0)) 0),(32,vi ((w64 (4 * (w64 (n1+7)))).toNat:Int)),(33,vi s0.2.1),(112,vi s1.1)] [⟨some (b1,0),e8 r_1.toList⟩,⟨some (b1,256),[sl An1 ((([]:List (Vx 8 16))).length) ((([]:List (Vx 8 16))++([]:List (Vx 8 16))).length)]⟩,⟨An1,eF (fun V:Vx 8 16=>e8 V.toList) (([]:List (Vx 8 16))++([]:List (Vx 8 16)))⟩,⟨some (b2,0),eF (fun V:Vx 8 4=>e8 V.toList) s1.2⟩,⟨some (b3,0),e8 j1.2.toList⟩] ⟨rfl,rfl,rfl,rfl,rfl,rfl,rfl,rfl,rfl,rfl,rfl,rfl,trivial⟩ rfl ?_
         refine TA_all (rs:=[17]) (by kernel_rfl) rfl ?_
         refine ⟨?_,trivial⟩
         refine TO_n (is:=[]) (done':=dn 18 262143) rfl rfl rfl (by kernel_rfl) (E_store (j:=3) rfl rfl inf5 rfl rfl rfl (lt_eF (g:=fun V:Vx 8 4=>e8 V.toList) (s:=4) (fun _=>by simp) h14 (toNat_lt h15.1 h15.2)) (cs':=eF (fun V:Vx 8 4=>e8 V.toList) (s1.2.set ((s0.2.1).toNat) (vp (lg s1.2 ((s0.2.1).toNat)) ((s1.1).toNat) ((vg (lg s1.2 ((w64 (s0.2.1 - n1)).toNat)) ((s1.1).toNat)) ^^^ (vg j1.2 ((s1.1).toNat)))))) (set_eF (g:=fun V:Vx 8 4=>e8 V.toList) (s:=4) (fun _=>by simp) s1.2 ((s0.2.1).toNat) ((s1.1).toNat) _ _ h14 (toNat_lt h15.1 h15.2) set_vec)) (fun _ _=>rfl) (fun _=>?_)
         refine TA_reE (j:=3) (A:=some (b2,0)) (cs:=eF (fun V:Vx 8 4=>e8 V.toList) (s1.2.set ((s0.2.1).toNat) (vp (lg s1.2 ((s0.2.1).toNat)) ((s1.1).toNat) ((vg (lg s1.2 ((w64 (s0.2.1 - n1)).toNat)) ((s1.1).toNat)) ^^^ (vg j1.2 ((s1.1).toNat)))))) (cs':=eF (fun V:Vx 8 4=>e8 V.toList) m_3) rfl (congrArg (eF (fun V:Vx 8 4=>e8 V.toList)) hm_3) ?_
         refine TA_done (by kernel_rfl) ?_ 0
         refine TX_block_normal (TX_next (TC_region (TLv (V_bin rfl rfl (fun w=>addI w s1.1 1)) ?_)))
         refine TVm ?_
         refine TL_nil ?_
         obtain rfl:=sj H
         exact TXk [0,0,0,0,0] (hK (w64 (s1.1+1),m_3) rfl ())
        ·refine TC_exit (TX_then_exit (TX_then_exit ?_))
         obtain rfl:=sj H
         exact TXj [0,0,0,0] (hE s1.2 rfl ())
       ·intro g
        refine TX_block_exit (TX_block_normal (TX_next (TC_region (TLv (V_bin rfl rfl (fun w=>addI w s0.2.1 1)) ?_))))
        refine TVm ?_
        refine TL_nil ?_
        obtain rfl:=sj H
        exact TXk [0,0,0,0] (hK (j1.1,w64 (s0.2.1+1),t_2) rfl ())
      ·intro hJ
       replace H:=Hj
       refine TCd H (fun hc H=>?_) (fun hc H=>?_)
       ·refine TC_seq ?_
        obtain ⟨m_4,hm_4,H⟩:=ltt_elim H
        refine TA_begin [] 32 (by kernel_rfl) (N:=32) rfl ?_
        refine TA_mix (is:=[]) (done':=dn 32 2147483647) [itV 0 57 (ptr (some (b1,0)) 0) [],itV 1 58 (ptr (some (b3,0)) 1) [],itV 2 59 (v8 (vg m_2 1)) [1],itV 3 60 (ptr (some (b1,0)) 0) [0],itV 4 61 (ptr (some (b1,0)) 0) [3],itV 5 62 (ptr (some (b1,0)) ((vg m_2 1).toNat)) [2,4],itV 6 63 (v8 (vg r_1 ((vg m_2 1).toNat))) [5],itV 7 64 (v8 s0.1) [],itV 8 65 (v8 ((vg r_1 ((vg m_2 1).toNat)) ^^^ s0.1)) [7,6],itV 9 66 (ptr (some (b1,0)) 0) [],itV 10 67 (ptr (some (b3,0)) 2) [],itV 11 68 (v8 (vg m_2 2)) [10],itV 12 69 (ptr (some (b1,0)) 0) [9],itV 13 70 (ptr (some (b1,0)) 0) [12],itV 14 71 (ptr (some (b1,0)) ((vg m_2 2).toNat)) [11,13],itV 15 72 (v8 (vg r_1 ((vg m_2 2).toNat))) [14],itV 16 73 (ptr (some (b1,0)) 0) [],itV 17 74 (ptr (some (b3,0)) 3) [],itV 18 75 (v8 (vg m_2 3)) [17],itV 19 76 (ptr (some (b1,0)) 0) [16],itV 20 77 (ptr (some (b1,0)) 0) [19],itV 21 78 (ptr (some (b1,0)) ((vg m_2 3).toNat)) [18,20],itV 22 79 (v8 (vg r_1 ((vg m_2 3).toNat))) [21],itV 23 80 (ptr (some (b1,0)) 0) [],itV 24 81 (ptr (some (b3,0)) 0) [],itV 25 82 (v8 (vg m_2 0)) [24],itV 26 83 (ptr (some (b1,0)) 0) [23],itV 27 84 (ptr (some (b1,0)) 0) [26],itV 28 85 (ptr (some (b1,0)) ((vg m_2 0).toNat)) [25,27],itV 29 86 (v8 (vg r_1 ((vg m_2 0).toNat))) [28],itV 30 87 (aG [(4,e8 ((#v[(vg r_1 ((vg m_2 1).toNat)) ^^^ s0.1,vg r_1 ((vg m_2 2).toNat),vg r_1 ((vg m_2 3).toNat),vg r_1 ((vg m_2 0).toNat)]:Vx 8 4).toList))]) [15,8,29,22]] [] 1 (by kernel_rfl) (QP.then (QP.then (QP.block (QP.then (QP.then (QP.block (QP.then QP.body))))))) (by kernel_rfl) rfl (.v rfl (V_move rfl) (.v rfl (V_idxArr (i:=1) rfl rfl underlying147 inf5 rfl (by decide) (by decide) (k:=1) (k01 _)) (.v rfl (V_load rfl (.o 0) (get_vec (f:=v8) (V:=m_2) (by decide:1<4)) isAgg5) (.v rfl (V_nilCheck rfl) (.v rfl (V_fe underlying247 inf243) (.v rfl (V_idxArr (i:=((vg m_2 1).toNat:Int)) rfl rfl underlying243 inf5 rfl (Int.natCast_nonneg _) (zb (n:=8) (k:=256) (vg m_2 1) (by decide)) (k:=(vg m_2 1).toNat) (k01 _)) (.v rfl (V_load rfl (.o 1) (get_vec (f:=v8) (V:=r_1) (toNat_lt (Int.natCast_nonneg _) (zb (n:=8) (k:=256) (vg m_2 1) (by decide)))) isAgg5) (.v rfl (V_move rfl) (.v rfl (V_bin rfl rfl (fun w=>xor8 w (vg r_1 ((vg m_2 1).toNat)) s0.1)) (.v rfl (V_move rfl) (.v rfl (V_idxArr (i:=2) rfl rfl underlying147 inf5 rfl (by decide) (by decide) (k:=2) (k01 _)) (.v rfl (V_load rfl (.o 0) (get_vec (f:=v8) (V:=m_2) (by decide:2<4)) isAgg5) (.v rfl (V_nilCheck rfl) (.v rfl (V_fe underlying247 inf243) (.v rfl (V_idxArr (i:=((vg m_2 2).toNat:Int)) rfl rfl underlying243 inf5 rfl (Int.natCast_nonneg _) (zb (n:=8) (k:=256) (vg m_2 2) (by decide)) (k:=(vg m_2 2).toNat) (k01 _)) (.v rfl (V_load rfl (.o 1) (get_vec (f:=v8) (V:=r_1) (toNat_lt (Int.natCast_nonneg _) (zb (n:=8) (k:=256) (vg m_2 2) (by decide)))) isAgg5) (.v rfl (V_move rfl) (.v rfl (V_idxArr (i:=3) rfl rfl underlying147 inf5 rfl (by decide) (by decide) (k:=3) (k01 _)) (.v rfl (V_load rfl (.o 0) (get_vec (f:=v8) (V:=m_2) (by decide:3<4)) isAgg5) (.v rfl (V_nilCheck rfl) (.v rfl (V_fe underlying247 inf243) (.v rfl (V_idxArr (i:=((vg m_2 3).toNat:Int)) rfl rfl underlying243 inf5 rfl (Int.natCast_nonneg _) (zb (n:=8) (k:=256) (vg m_2 3) (by decide)) (k:=(vg m_2 3).toNat) (k01 _)) (.v rfl (V_load rfl (.o 1) (get_vec (f:=v8) (V:=r_1) (toNat_lt (Int.natCast_nonneg _) (zb (n:=8) (k:=256) (vg m_2 3) (by decide)))) isAgg5) (.v rfl (V_move rfl) (.v rfl (V_idxArr (i:=0) rfl rfl underlying147 inf5 rfl (by decide) (by decide) (k:=0) (k01 _)) (.v rfl (V_load rfl (.o 0) (get_vec (f:=v8) (V:=m_2) (by decide:0<4)) isAgg5) (.v rfl (V_nilCheck rfl) (.v rfl (V_fe underlying247 inf243) (.v rfl (V_idxArr (i:=((vg m_2 0).toNat:Int)) rfl rfl underlying243 inf5 rfl (Int.natCast_nonneg _) (zb (n:=8) (k:=256) (vg m_2 0) (by decide)) (k:=(vg m_2 0).toNat) (k01 _)) (.v rfl (V_load rfl (.o 1) (get_vec (f:=v8) (V:=r_1) (toNat_lt (Int.natCast_nonneg _) (zb (n:=8) (k:=256) (vg m_2 0) (by decide)))) isAgg5) (.v rfl (V_buildArr (pv:=[(0,v8 ((vg r_1 ((vg m_2 1).toNat)) ^^^ s0.1)),(1,v8 (vg r_1 ((vg m_2 2).toNat))),(2,v8 (vg r_1 ((vg m_2 3).toNat))),(3,v8 (vg r_1 ((vg m_2 0).toNat)))]) rfl rfl underlying147 inf147 inf5 rfl zer147 (cs:=e8 ((#v[(vg r_1 ((vg m_2 1).toNat)) ^^^ s0.1,vg r_1 ((vg m_2 2).toNat),vg r_1 ((vg m_2 3).toNat),vg r_1 ((vg m_2 0).toNat)]:Vx 8 4).toList)) (by kernel_rfl)) .nil))))))))))))))))))))))))))))))) .nil (by kernel_rfl) rfl (fun γ=>?_)
        refine TA_cut [(87,aG [(4,e8 ((#v[(vg r_1 ((vg m_2 1).toNat)) ^^^ s0.1,vg r_1 ((vg m_2 2).toNat),vg r_1 ((vg m_2 3).toNat),vg r_1 ((vg m_2 0).toNat)]:Vx 8 4).toList))]),(9,ptr (some (b3,0)) 0),(8,vi s0.2.1),(0,vs key),(4,ptr (some (b1,0)) 0),(5,vi n1),(6,sl (some (b2,0)) ((w64 (4 * (w64 (n1+7)))).toNat) ((w64 (4 * (w64 (n1+7)))).toNat)),(7,v8 s0.1),(32,vi ((w64 (4 * (w64 (n1+7)))).toNat:Int)),(33,vi s0.2.1)] [⟨some (b3,0),e8 m_2.toList⟩,⟨some (b1,0),e8 r_1.toList⟩,⟨some (b1,256),[sl An1 ((([]:List (Vx 8 16))).length) ((([]:List (Vx 8 16))++([]:List (Vx 8 16))).length)]⟩,⟨An1,eF (fun V:Vx 8 16=>e8 V.toList) (([]:List (Vx 8 16))++([]:List (Vx 8 16)))⟩,⟨some (b2,0),eF (fun V:Vx 8 4=>e8 V.toList) s0.2.2⟩] ⟨rfl,rfl,rfl,rfl,rfl,rfl,rfl,rfl,rfl,rfl,trivial⟩ rfl ?_
        refine TA_all (rs:=[31]) (by kernel_rfl) rfl ?_
        refine ⟨?_,trivial⟩
        refine TO_n (is:=[]) (done':=dn 32 4294967295) rfl rfl rfl (by kernel_rfl) (E_sv 0 inf147) (fun _ _=>rfl) (fun _=>?_)
        refine TA_reE (j:=0) (A:=some (b3,0)) (cs:=e8 ((#v[(vg r_1 ((vg m_2 1).toNat)) ^^^ s0.1,vg r_1 ((vg m_2 2).toNat),vg r_1 ((vg m_2 3).toNat),vg r_1 ((vg m_2 0).toNat)]:Vx 8 4).toList)) (cs':=e8 m_4.toList) rfl (congrArg (fun z:Vx 8 4=>e8 (Vector.toList z)) hm_4) ?_
        refine TA_done (by kernel_rfl) ?_ 0
        refine TX_next (TC_region (TVm ?_))
        obtain ⟨r_2,hr_2,H⟩:=bind_elim H
        refine TLe (E_c0 (F153_calls s0.1 r_2 hr_2) call153 .z) (fun g_2=>?_)
        refine TVa ?_
        refine TL_nil ?_
        obtain rfl:=sj H
        exact TXj [1,1,1,1,0] (hJ ())
       ·refine TC_seq (TC_region (TVm ?_))
        refine TLv (V_bin rfl rfl (fun w=>eqlI w n1 8)) ?_
        refine TVm ?_
        refine TFd (d:=92) H (fun hc H=>?_) (fun hc H=>?_)
        ·refine TLw (V_move rfl) ?_
         refine TLw (V_move rfl) ?_
         obtain ⟨h16,H⟩:=if_elim H
         refine TLw (V_bin rfl rfl (fun w=>remI w s0.2.1 n1 h16)) ?_
         refine TLw (V_bin rfl rfl (fun w=>eqlI w (s0.2.1.tmod n1) 4)) ?_
         refine TVt ?_
         refine TL_nil (TX_next (TC.sub (m':=[(0,_),(4,_),(5,_),(6,_),(7,_),(8,_),(9,_),(32,_),(33,_),(97,_)]) ⟨rfl,rfl,rfl,rfl,rfl,rfl,rfl,rfl,rfl,rfl,trivial⟩ ?_))
         refine TCd H (fun hc H=>?_) (fun hc H=>?_)
         ·refine TC_seq (TC_region (TVm ?_))
          refine TL_nil (TX_next (TC_block ?_))
          obtain ⟨t_3,Hl,H⟩:=bind_elim H
          refine TC.sub (m':=[(0,_),(4,_),(5,_),(6,_),(7,_),(8,_),(9,_),(32,_),(33,_),(98,_)]) ⟨rfl,rfl,rfl,rfl,rfl,rfl,rfl,rfl,rfl,rfl,trivial⟩ ?_
          refine TC.pull (is:=[1,1,1,1,0]) (L':=[_,_,_,_,_]) rfl ?_
          refine TC_loopL (id:=2) (body:=(aes_New.b2 r_1)) (σ:=Int × Vx 8 4) (Γ:=Unit) (Γx:=Unit) (fun s2 g2_=>[(0,vs key),(4,ptr (some (b1,0)) 0),(5,vi n1),(6,sl (some (b2,0)) ((w64 (4 * (w64 (n1+7)))).toNat) ((w64 (4 * (w64 (n1+7)))).toNat)),(7,v8 s0.1),(8,vi s0.2.1),(9,ptr (some (b3,0)) 0),(32,vi ((w64 (4 * (w64 (n1+7)))).toNat:Int)),(33,vi s0.2.1),(98,vi s2.1)]) (fun s2 g2_=>[⟨some (b1,0),e8 r_1.toList⟩,⟨some (b1,256),[sl An1 ((([]:List (Vx 8 16))).length) ((([]:List (Vx 8 16))++([]:List (Vx 8 16))).length)]⟩,⟨An1,eF (fun V:Vx 8 16=>e8 V.toList) (([]:List (Vx 8 16))++([]:List (Vx 8 16)))⟩,⟨some (b2,0),eF (fun V:Vx 8 4=>e8 V.toList) s0.2.2⟩,⟨some (b3,0),e8 s2.2.toList⟩]) (fun t g=>[(0,vs key),(4,ptr (some (b1,0)) 0),(5,vi n1),(6,sl (some (b2,0)) ((w64 (4 * (w64 (n1+7)))).toNat) ((w64 (4 * (w64 (n1+7)))).toNat)),(7,v8 s0.1),(8,vi s0.2.1),(9,ptr (some (b3,0)) 0),(32,vi ((w64 (4 * (w64 (n1+7)))).toNat:Int)),(33,vi s0.2.1)]) (fun t g=>[⟨some (b1,0),e8 r_1.toList⟩,⟨some (b1,256),[sl An1 ((([]:List (Vx 8 16))).length) ((([]:List (Vx 8 16))++([]:List (Vx 8 16))).length)]⟩,⟨An1,eF (fun V:Vx 8 16=>e8 V.toList) (([]:List (Vx 8 16))++([]:List (Vx 8 16)))⟩,⟨some (b2,0),eF (fun V:Vx 8 4=>e8 V.toList) s0.2.2⟩,⟨some (b3,0),e8 t.toList⟩]) ?_ BIG (0,m_2) () t_3 Hl ?_
          ·intro s2 g2_ r1 H K hK hE
           unfold aes_New.b2 at H
           refine TC_seq (TC_region (TLv (V_bin rfl rfl (fun w=>lssI w s2.1 4)) ?_))
           refine TL_nil (TX_next (TC_seq (TCd H (fun hc H=>?_) (fun hc H=>?_))))
           ·refine TC_skip (TX_next (TC_seq (TC_block (TC_seq (TC_region (TVm ?_))))))
            refine TVa ?_
            refine TL_nil (TX_next ?_)
            obtain ⟨h17,H⟩:=if_elim H
            obtain ⟨h18,H⟩:=if_elim H
            obtain ⟨m_5,hm_5,H⟩:=ltt_elim H
            refine TA_begin [] 11 (by kernel_rfl) (N:=11) rfl ?_
            refine TA_mix (is:=[]) (done':=dn 11 1023) [itV 0 101 (vi s2.1) [],itV 1 102 (ptr (some (b1,0)) 0) [],itV 2 103 (vi s2.1) [],itV 3 104 (ptr (some (b3,0)) ((s2.1).toNat)) [2],itV 4 105 (v8 (vg s2.2 ((s2.1).toNat))) [3],itV 5 106 (ptr (some (b1,0)) 0) [1],itV 6 107 (ptr (some (b1,0)) 0) [5],itV 7 108 (ptr (some (b1,0)) ((vg s2.2 ((s2.1).toNat)).toNat)) [4,6],itV 8 109 (v8 (vg r_1 ((vg s2.2 ((s2.1).toNat)).toNat))) [7],itV 9 110 (ptr (some (b3,0)) ((s2.1).toNat)) [0]] [] 1 (by kernel_rfl) (QP.block (QP.then (QP.then (QP.block (QP.then (QP.block (QP.then (QP.then (QP.block (QP.then QP.body)))))))))) (by kernel_rfl) rfl (.v rfl (V_move rfl) (.v rfl (V_move rfl) (.v rfl (V_move rfl) (.v rfl (V_idxArr (i:=s2.1) rfl rfl underlying147 inf5 rfl h17.1 h17.2 (k:=(s2.1).toNat) (k01 _)) (.v rfl (V_load rfl (.o 4) (get_vec (f:=v8) (V:=s2.2) (toNat_lt h17.1 h17.2)) isAgg5) (.v rfl (V_nilCheck rfl) (.v rfl (V_fe underlying247 inf243) (.v rfl (V_idxArr (i:=((vg s2.2 ((s2.1).toNat)).toNat:Int)) rfl rfl underlying243 inf5 rfl (Int.natCast_nonneg _) (zb (n:=8) (k:=256) (vg s2.2 ((s2.1).toNat)) (by decide)) (k:=(vg s2.2 ((s2.1).toNat)).toNat) (k01 _)) (.v rfl (V_load rfl (.o 0) (get_vec (f:=v8) (V:=r_1) (toNat_lt (Int.natCast_nonneg _) (zb (n:=8) (k:=256) (vg s2.2 ((s2.1).toNat)) (by decide)))) isAgg5) (.v rfl (V_idxArr (i:=s2.1) rfl rfl underlying147 inf5 rfl h18.1 h18.2 (k:=(s2.1).toNat) (k01 _)) .nil)))))))))) .nil (by kernel_rfl) rfl (fun γ=>?_)
            refine TA_cut [(110,ptr (some (b3,0)) ((s2.1).toNat)),(109,v8 (vg r_1 ((vg s2.2 ((s2.1).toNat)).toNat))),(0,vs key),(4,ptr (some (b1,0)) 0),(5,vi n1),(6,sl (some (b2,0)) ((w64 (4 * (w64 (n1+7)))).toNat) ((w64 (4 * (w64 (n1+7)))).toNat)),(7,v8 s0.1),(8,vi s0.2.1),(9,ptr (some (b3,0)) 0),(32,vi ((w64 (4 * (w64 (n1+7)))).toNat:Int)),(33,vi s0.2.1),(98,vi s2.1)] [⟨some (b1,0),e8 r_1.toList⟩,⟨some (b1,256),[sl An1 ((([]:List (Vx 8 16))).length) ((([]:List (Vx 8 16))++([]:List (Vx 8 16))).length)]⟩,⟨An1,eF (fun V:Vx 8 16=>e8 V.toList) (([]:List (Vx 8 16))++([]:List (Vx 8 16)))⟩,⟨some (b2,0),eF (fun V:Vx 8 4=>e8 V.toList) s0.2.2⟩,⟨some (b3,0),e8 s2.2.toList⟩] ⟨rfl,rfl,rfl,rfl,rfl,rfl,rfl,rfl,rfl,rfl,rfl,rfl,trivial⟩ rfl ?_
            refine TA_all (rs:=[10]) (by kernel_rfl) rfl ?_
            refine ⟨?_,trivial⟩
            refine TO_n (is:=[]) (done':=dn 11 2047) rfl rfl rfl (by kernel_rfl) (E_store (j:=4) rfl rfl inf5 rfl rfl rfl (by simpa using (toNat_lt h18.1 h18.2)) (cs':=e8 ((vp s2.2 ((s2.1).toNat) (vg r_1 ((vg s2.2 ((s2.1).toNat)).toNat))).toList)) set_vec) (fun _ _=>rfl) (fun _=>?_)
            refine TA_reE (j:=4) (A:=some (b3,0)) (cs:=e8 ((vp s2.2 ((s2.1).toNat) (vg r_1 ((vg s2.2 ((s2.1).toNat)).toNat))).toList)) (cs':=e8 m_5.toList) rfl (congrArg (fun z:Vx 8 4=>e8 (Vector.toList z)) hm_5) ?_
            refine TA_done (by kernel_rfl) ?_ 0
            refine TX_block_normal (TX_next (TC_region (TLv (V_bin rfl rfl (fun w=>addI w s2.1 1)) ?_)))
            refine TVm ?_
            refine TL_nil ?_
            obtain rfl:=sj H
            exact TXk [0,0,0,0,0] (hK (w64 (s2.1+1),m_5) rfl ())
           ·refine TC_exit (TX_then_exit (TX_then_exit ?_))
            obtain rfl:=sj H
            exact TXj [0,0,0,0,0] (hE s2.2 rfl ())
          ·intro g
           refine TX_block_exit ?_
           obtain rfl:=sj H
           exact TXj [0,0,0,0,0] (hJ ())
         ·refine TC_skip ?_
          obtain rfl:=sj H
          exact TXj [1,1,1,1,0] (hJ ())
        ·refine TLs ?_
         refine TLs ?_
         refine TLs ?_
         refine TLs ?_
         refine TVf ?_
         refine TL_nil (TX_next (TC.sub (m':=[(0,_),(4,_),(5,_),(6,_),(7,_),(8,_),(9,_),(32,_),(33,_),(97,_)]) ⟨rfl,rfl,rfl,rfl,rfl,rfl,rfl,rfl,rfl,rfl,trivial⟩ ?_))
         refine TC_cond_f rfl ?_
         refine TC_skip ?_
         obtain rfl:=sj H
         exact TXj [1,1,1,1,0] (hJ ())
    ·refine TC_exit (TX_then_exit (TX_then_exit ?_))
     obtain rfl:=sj H
     exact TXj [0,0,0,0] (hE s0.2.2 rfl ())
   ·intro g
    refine TX_block_exit (TX_next (TC_seq (TC_region (TVm ?_))))
    refine TVm ?_
    refine TLv (V_bin rfl rfl (fun w=>addI w n1 7)) ?_
    obtain ⟨h19,H⟩:=if_elim H
    refine TLe (E_mkN rfl rfl underlying245 inf171 zer171 (by kernel_rfl) rfl rfl (B:=16) rfl h19.1 (Int.le_refl _) (mk_b 16 rfl h19) (mk_c h19) (n':=(w64 (n1+7)).toNat) (c':=(w64 (n1+7)).toNat) rfl rfl (cs:=eF (fun V:Vx 8 16=>e8 V.toList) (List.replicate ((w64 (n1+7)).toNat) (replicate 16 0#8))) (rep_eF (g:=fun V:Vx 8 16=>e8 V.toList))) (fun b4=>?_)
    refine TLv (V_nilCheck rfl) ?_
    refine TLv (V_fieldE rfl underlying247 rfl rfl inf245 rfl (v:=ptr (some (b1,256)) 0) rfl) ?_
    refine TLn (E_store (j:=2) rfl rfl inf245 rfl rfl rfl (Nat.lt_succ_self 0) (cs':=[sl (some (b4,0)) ((w64 (n1+7)).toNat) ((w64 (n1+7)).toNat)]) rfl) (fun _=>?_)
    refine TL_nil (TX_next (TC_seq (TC_seq (TC_region (TVm ?_)))))
    refine TLv (V_len_slice rfl underlying127) ?_
    refine TVm ?_
    refine TL_nil (TX_next (TC_block ?_))
    obtain ⟨t_4,Hl,H⟩:=bind_elim H
    refine TC.sub (m':=[(4,_),(6,_),(141,_),(142,_)]) ⟨rfl,rfl,rfl,rfl,trivial⟩ ?_
    refine TC.pull (is:=[1,1,0,1]) (L':=[_,_,_,_]) rfl ?_
    refine TC_loopL (id:=6) (body:=(aes_New.b3 n1 t_1)) (σ:=Int × List (Vx 8 16)) (Γ:=Unit) (Γx:=Unit) (fun s3 g3_=>[(4,ptr (some (b1,0)) 0),(6,sl (some (b2,0)) ((w64 (4 * (w64 (n1+7)))).toNat) ((w64 (4 * (w64 (n1+7)))).toNat)),(141,vi ((w64 (4 * (w64 (n1+7)))).toNat:Int)),(142,vi s3.1)]) (fun s3 g3_=>[⟨some (b1,0),e8 r_1.toList⟩,⟨some (b1,256),[sl (some (b4,0)) ((w64 (n1+7)).toNat) ((w64 (n1+7)).toNat)]⟩,⟨some (b4,0),eF (fun V:Vx 8 16=>e8 V.toList) s3.2⟩,⟨some (b2,0),eF (fun V:Vx 8 4=>e8 V.toList) t_1⟩]) (fun t g=>[(4,ptr (some (b1,0)) 0)]) (fun t g=>[⟨some (b1,0),e8 r_1.toList⟩,⟨some (b1,256),[sl (some (b4,0)) ((w64 (n1+7)).toNat) ((w64 (n1+7)).toNat)]⟩,⟨some (b4,0),eF (fun V:Vx 8 16=>e8 V.toList) t⟩]) ?_ BIG (0,List.replicate ((w64 (n1+7)).toNat) (replicate 16 0#8)) () t_4 Hl ?_
    ·intro s3 g3_ r1 H K hK hE
     unfold aes_New.b3 at H
     refine TC_seq (TC_region (TLv (V_bin rfl rfl (fun w=>lssI w s3.1 ((w64 (4 * (w64 (n1+7)))).toNat:Int))) ?_))
     refine TL_nil (TX_next (TC_seq (TCd H (fun hc H=>?_) (fun hc H=>?_))))
     ·refine TC_skip (TX_next (TC_seq (TC_block (TC_seq (TC_region (TVm ?_))))))
      refine TVa ?_
      refine TL_nil (TX_next ?_)
      obtain ⟨h20,H⟩:=if_elim H
      obtain ⟨h21,H⟩:=if_elim H
      obtain ⟨h22,H⟩:=if_elim H
      obtain ⟨h23,H⟩:=if_elim H
      obtain ⟨h24,H⟩:=if_elim H
      obtain ⟨h25,H⟩:=if_elim H
      obtain ⟨h26,H⟩:=if_elim H
      obtain ⟨m_6,hm_6,H⟩:=ltt_elim H
      refine TA_begin [] 16 (by kernel_rfl) (N:=16) rfl ?_
      refine TA_mix (is:=[]) (done':=dn 16 32767) [itV 0 145 (ptr (some (b1,0)) 0) [],itV 1 146 (ptr (some (b1,0)) 0) [0],itV 2 147 (ptr (some (b1,256)) 0) [1],itV 3 148 (sl (some (b4,0)) ((w64 (n1+7)).toNat) ((w64 (n1+7)).toNat)) [2],itV 4 149 (vi s3.1) [],itV 5 150 (vi (w64 (s3.1.tdiv 4))) [4],itV 6 151 (ptr (some (b4,0)) (((w64 (s3.1.tdiv 4)).toNat) * 16)) [3,5],itV 7 152 (vi s3.1) [],itV 8 153 (vi (s3.1.tmod 4)) [7],itV 9 154 (vi (w64 (4 * (s3.1.tmod 4)))) [8],itV 10 155 (sl (sh (some (b4,0)) (((w64 (s3.1.tdiv 4)).toNat) * 16+((w64 (4 * (s3.1.tmod 4))).toNat))) (16 - ((w64 (4 * (s3.1.tmod 4))).toNat)) (16 - ((w64 (4 * (s3.1.tmod 4))).toNat))) [9,6],itV 11 156 (sl (some (b2,0)) ((w64 (4 * (w64 (n1+7)))).toNat) ((w64 (4 * (w64 (n1+7)))).toNat)) [],itV 12 157 (vi s3.1) [],itV 13 158 (ptr (some (b2,0)) (((s3.1).toNat) * 4)) [11,12],itV 14 159 (sl (sh (some (b2,0)) (((s3.1).toNat) * 4+0)) (4 - 0) (4 - 0)) [13]] [] 1 (by kernel_rfl) (QP.block (QP.then (QP.then (QP.block (QP.then QP.body))))) (by kernel_rfl) rfl (.v rfl (V_move rfl) (.v rfl (V_nilCheck rfl) (.v rfl (V_fe underlying247 inf245) (.v rfl (V_load rfl (.o 1) rfl isAgg245) (.v rfl (V_move rfl) (.v rfl (V_bin rfl rfl (fun w=>quoI w s3.1 4 (by decide))) (.v rfl (V_idxSl (i:=w64 (s3.1.tdiv 4)) rfl rfl underlying245 inf171 rfl (fun _ h=>by cases h) h20.1 h20.2 (k:=((w64 (s3.1.tdiv 4)).toNat) * 16) rfl) (.v rfl (V_move rfl) (.v rfl (V_bin rfl rfl (fun w=>remI w s3.1 4 (by decide))) (.v rfl (V_bin rfl rfl (fun w=>mulI w 4 (s3.1.tmod 4))) (.v rfl (V_sliceWin (l:=(w64 (4 * (s3.1.tmod 4))).toNat) (h:=16) rfl (by simp) underlying171 inf5 rfl (Bnd.some' (i:=w64 (4 * (s3.1.tmod 4))) rfl h22) Bnd.none' h23 (Nat.le_refl _) h24) (.v rfl (V_move rfl) (.v rfl (V_move rfl) (.v rfl (V_idxSl (i:=s3.1) rfl rfl underlying127 inf147 rfl (fun _ h=>by cases h) h25.1 h25.2 (k:=((s3.1).toNat) * 4) rfl) (.v rfl (V_sliceWin (l:=0) (h:=4) rfl (by simp) underlying147 inf5 rfl Bnd.none' Bnd.none' (Nat.zero_le _) (Nat.le_refl _) (by decide)) .nil))))))))))))))) .nil (by kernel_rfl) rfl (fun γ=>?_)
      refine TA_cut [(159,sl (sh (some (b2,0)) (((s3.1).toNat) * 4+0)) (4 - 0) (4 - 0)),(155,sl (sh (some (b4,0)) (((w64 (s3.1.tdiv 4)).toNat) * 16+((w64 (4 * (s3.1.tmod 4))).toNat))) (16 - ((w64 (4 * (s3.1.tmod 4))).toNat)) (16 - ((w64 (4 * (s3.1.tmod 4))).toNat))),(4,ptr (some (b1,0)) 0),(6,sl (some (b2,0)) ((w64 (4 * (w64 (n1+7)))).toNat) ((w64 (4 * (w64 (n1+7)))).toNat)),(141,vi ((w64 (4 * (w64 (n1+7)))).toNat:Int)),(142,vi s3.1)] [⟨some (b1,0),e8 r_1.toList⟩,⟨some (b1,256),[sl (some (b4,0)) ((w64 (n1+7)).toNat) ((w64 (n1+7)).toNat)]⟩,⟨some (b4,0),eF (fun V:Vx 8 16=>e8 V.toList) s3.2⟩,⟨some (b2,0),eF (fun V:Vx 8 4=>e8 V.toList) t_1⟩] ⟨rfl,rfl,rfl,rfl,rfl,rfl,trivial⟩ rfl ?_
      refine TA_all (rs:=[15]) (by kernel_rfl) rfl ?_
      refine ⟨?_,trivial⟩
      refine TO_e (is:=[]) (done':=dn 16 65535) rfl rfl rfl rfl (by kernel_rfl) (E_copyB (o:=((w64 (s3.1.tdiv 4)).toNat) * 16+((w64 (4 * (s3.1.tmod 4))).toNat)) (j:=2) (ds:=(sub ((lg t_1 ((s3.1).toNat)).toList) 0 4)) rfl rfl (by simp) underlying86 inf5 rfl (srcWin1 0 4 h26 (.o 3)) (sub_length (by simp)) rfl rfl (copy_row (n:=16) (l:=(w64 (4 * (s3.1.tmod 4))).toNat) (d:=16 - ((w64 (4 * (s3.1.tmod 4))).toNat)) h21 (by omega)) (cs':=eF (fun V:Vx 8 16=>e8 V.toList) (s3.2.set ((w64 (s3.1.tdiv 4)).toNat) (vsp (lg s3.2 ((w64 (s3.1.tdiv 4)).toNat)) ((w64 (4 * (s3.1.tmod 4))).toNat) ((sub ((lg t_1 ((s3.1).toNat)).toList) 0 4).take (min (4 - 0) (16 - ((w64 (4 * (s3.1.tmod 4))).toNat))))))) (splice_lvec h21 (take_room (n:=16) (l:=(w64 (4 * (s3.1.tmod 4))).toNat) (d:=16 - ((w64 (4 * (s3.1.tmod 4))).toNat)) (by omega)))) (fun _ _=>rfl) (fun _=>?_)
      refine TA_reE (j:=2) (A:=some (b4,0)) (cs:=eF (fun V:Vx 8 16=>e8 V.toList) (s3.2.set ((w64 (s3.1.tdiv 4)).toNat) (vsp (lg s3.2 ((w64 (s3.1.tdiv 4)).toNat)) ((w64 (4 * (s3.1.tmod 4))).toNat) ((sub ((lg t_1 ((s3.1).toNat)).toList) 0 4).take (min (4 - 0) (16 - ((w64 (4 * (s3.1.tmod 4))).toNat))))))) (cs':=eF (fun V:Vx 8 16=>e8 V.toList) m_6) rfl (congrArg (eF (fun V:Vx 8 16=>e8 V.toList)) hm_6) ?_
      refine TA_done (by kernel_rfl) ?_ 0
      refine TX_block_normal (TX_next (TC_region (TLv (V_bin rfl rfl (fun w=>addI w s3.1 1)) ?_)))
      refine TVm ?_
      refine TL_nil ?_
      obtain rfl:=sj H
      exact TXk [0,0,0,0] (hK (w64 (s3.1+1),m_6) rfl ())
     ·refine TC_exit (TX_then_exit (TX_then_exit ?_))
      obtain rfl:=sj H
      exact TXj [0,0,0] (hE s3.2 rfl ())
    ·intro g
     refine TX_block_exit (TX_next (TC_seq (TC_region (TVm ?_))))
     refine TVa ?_
     refine TVa ?_
     refine TL_nil (TX_next (TC_ret ?_))
     obtain rfl:=sj H
     exact TX_ret (rs:=[.tmp 2, .tmp 3]) (vs:=[ptr (some (b1,0)) 0,vb true]) rfl ⟨rfl,rfl,trivial⟩ (fun w' hs'=>⟨((),(b1,b4)),rfl,Step.left (Step.pulled (is:=[0,0,0]) (A:=[⟨some (b1,0),e8 r_1.toList⟩,⟨some (b1,256),[sl (some (b4,0)) ((w64 (n1+7)).toNat) ((w64 (n1+7)).toNat)]⟩,⟨some (b4,0),eF (fun V:Vx 8 16=>e8 V.toList) t_4⟩]) hs' rfl)⟩)
 ·refine TLs ?_
  refine TLs ?_
  refine TLs ?_
  refine TVf ?_
  refine TL_nil (TX_next (TC_cond_f rfl ?_))
  refine TC_skip (TX_next (TC_seq (TC_region ?_)))
  obtain ⟨r_3,hr_3,H⟩:=bind_elim H
  refine TLe (E_c0 (F152_calls r_3 hr_3) call152 .z) (fun g_3=>?_)
  refine TLv (V_buildStruct (pv:=[(0,aG [(256,e8 r_3.toList)])]) (pl:=[(0,256),(256,1)]) rfl rfl underlying247 inf247 places247 zer247 (cs:=flat [(256,e8 r_3.toList),(1,[sl none 0 0])]) (fill_part [] [(1,[sl none 0 0])] rfl rfl trivial rfl (lenV (f:=v8) (replicate 256 0#8)) (lenV (f:=v8) r_3) fill_end)) ?_
  refine TLe (E_boxP [(256,e8 r_3.toList),(1,[sl none 0 0])] rfl rfl ⟨(lenV (f:=v8) r_3),rfl,trivial⟩) (fun b5=>?_)
  refine TL_gen (Lf:=fun An2=>[⟨some (b5,0),e8 r_3.toList⟩,⟨some (b5,256),[sl An2 ((([]:List (Vx 8 16))).length) ((([]:List (Vx 8 16))++([]:List (Vx 8 16))).length)]⟩]) (z:=eF (fun V:Vx 8 16=>e8 V.toList) (([]:List (Vx 8 16))++([]:List (Vx 8 16)))) rfl rfl (fun An2=>?_)
  refine TVa ?_
  refine TL_nil (TX_next (TC_seq (TC_region (TVm ?_))))
  refine TLv (V_len_str rfl underlying9) ?_
  refine TLv (V_bin rfl rfl (fun w=>quoI w ((key).length:Int) 4 (by decide))) ?_
  refine TVa ?_
  obtain ⟨n2,hn2,H⟩:=ltt_elim H
  refine TLr 5 (congrArg vi hn2) ?_
  refine TL_nil (TX_next (TC_seq (TC_region (TVm ?_))))
  refine TLv (V_bin rfl rfl (fun w=>addI w n2 7)) ?_
  refine TLv (V_bin rfl rfl (fun w=>mulI w 4 (w64 (n2+7)))) ?_
  obtain ⟨h27,H⟩:=if_elim H
  refine TLe (E_mkN rfl rfl underlying127 inf147 zer147 (by kernel_rfl) rfl rfl (B:=4) rfl h27.1 (Int.le_refl _) (mk_b 4 rfl h27) (mk_c h27) (n':=(w64 (4 * (w64 (n2+7)))).toNat) (c':=(w64 (4 * (w64 (n2+7)))).toNat) rfl rfl (cs:=eF (fun V:Vx 8 4=>e8 V.toList) (List.replicate ((w64 (4 * (w64 (n2+7)))).toNat) (replicate 4 0#8))) (rep_eF (g:=fun V:Vx 8 4=>e8 V.toList))) (fun b6=>?_)
  refine TVa ?_
  refine TL_nil (TX_next (TC_seq (TC_region (TVa ?_))))
  refine TL_nil (TX_next (TC_seq (TC_seq (TC_region (TVm ?_)))))
  refine TLv (V_len_slice rfl underlying127) ?_
  refine TVm ?_
  refine TL_nil (TX_next (TC_block ?_))
  obtain ⟨t_5,Hl,H⟩:=bind_elim H
  refine TC.sub (m':=[(0,_),(4,_),(5,_),(6,_),(7,_),(32,_),(33,_)]) ⟨rfl,rfl,rfl,rfl,rfl,rfl,rfl,trivial⟩ ?_
  refine TC.pull (is:=[2,2,1,0]) (L':=[_,_,_,_]) rfl ?_
  refine TC_loopL (id:=0) (body:=(aes_New.b4 key r_3 n2)) (σ:=BitVec 8 × Int × List (Vx 8 4)) (Γ:=Unit) (Γx:=Unit) (fun s4 g4_=>[(0,vs key),(4,ptr (some (b5,0)) 0),(5,vi n2),(6,sl (some (b6,0)) ((w64 (4 * (w64 (n2+7)))).toNat) ((w64 (4 * (w64 (n2+7)))).toNat)),(7,v8 s4.1),(32,vi ((w64 (4 * (w64 (n2+7)))).toNat:Int)),(33,vi s4.2.1)]) (fun s4 g4_=>[⟨some (b5,0),e8 r_3.toList⟩,⟨some (b5,256),[sl An2 ((([]:List (Vx 8 16))).length) ((([]:List (Vx 8 16))++([]:List (Vx 8 16))).length)]⟩,⟨An2,eF (fun V:Vx 8 16=>e8 V.toList) (([]:List (Vx 8 16))++([]:List (Vx 8 16)))⟩,⟨some (b6,0),eF (fun V:Vx 8 4=>e8 V.toList) s4.2.2⟩]) (fun t g=>[(4,ptr (some (b5,0)) 0),(5,vi n2),(6,sl (some (b6,0)) ((w64 (4 * (w64 (n2+7)))).toNat) ((w64 (4 * (w64 (n2+7)))).toNat))]) (fun t g=>[⟨some (b5,0),e8 r_3.toList⟩,⟨some (b5,256),[sl An2 ((([]:List (Vx 8 16))).length) ((([]:List (Vx 8 16))++([]:List (Vx 8 16))).length)]⟩,⟨An2,eF (fun V:Vx 8 16=>e8 V.toList) (([]:List (Vx 8 16))++([]:List (Vx 8 16)))⟩,⟨some (b6,0),eF (fun V:Vx 8 4=>e8 V.toList) t⟩]) ?_ BIG (1#8,0,List.replicate ((w64 (4 * (w64 (n2+7)))).toNat) (replicate 4 0#8)) () t_5 Hl ?_
  ·intro s4 g4_ r1 H K hK hE
   unfold aes_New.b4 at H
   refine TC_seq (TC_region (TLv (V_bin rfl rfl (fun w=>lssI w s4.2.1 ((w64 (4 * (w64 (n2+7)))).toNat:Int))) ?_))
   refine TL_nil (TX_next (TC_seq (TCd H (fun hc H=>?_) (fun hc H=>?_))))
   ·refine TC_skip (TX_next (TC_seq (TC_block (TC_seq (TC_region (TVm ?_))))))
    refine TVa ?_
    refine TL_nil (TX_next (TC_seq (TC_seq (TC_region (TVm ?_)))))
    refine TVm ?_
    refine TLv (V_bin rfl rfl (fun w=>lssI w s4.2.1 n2)) ?_
    refine TL_nil (TX_next (TCd H (fun hc H=>?_) (fun hc H=>?_)))
    ·refine TC_seq ?_
     obtain ⟨h28,H⟩:=if_elim H
     obtain ⟨h29,H⟩:=if_elim H
     obtain ⟨h30,H⟩:=if_elim H
     obtain ⟨h31,H⟩:=if_elim H
     obtain ⟨m_7,hm_7,H⟩:=ltt_elim H
     refine TA_begin [] 9 (by kernel_rfl) (N:=9) rfl ?_
     refine TA_mix (is:=[]) (done':=dn 9 255) [itV 0 39 (sl (some (b6,0)) ((w64 (4 * (w64 (n2+7)))).toNat) ((w64 (4 * (w64 (n2+7)))).toNat)) [],itV 1 40 (vi s4.2.1) [],itV 2 41 (ptr (some (b6,0)) (((s4.2.1).toNat) * 4)) [1,0],itV 3 42 (sl (sh (some (b6,0)) (((s4.2.1).toNat) * 4+0)) (4 - 0) (4 - 0)) [2],itV 4 43 (vs key) [],itV 5 44 (vi s4.2.1) [],itV 6 45 (vi (w64 (4 * s4.2.1))) [5],itV 7 46 (vs (sub key ((w64 (4 * s4.2.1)).toNat) ((key).length))) [4,6]] [] 1 (by kernel_rfl) (QP.then (QP.then (QP.block (QP.then (QP.then (QP.block (QP.then QP.body))))))) (by kernel_rfl) rfl (.v rfl (V_move rfl) (.v rfl (V_move rfl) (.v rfl (V_idxSl (i:=s4.2.1) rfl rfl underlying127 inf147 rfl (fun _ h=>by cases h) h28.1 h28.2 (k:=((s4.2.1).toNat) * 4) rfl) (.v rfl (V_sliceWin (l:=0) (h:=4) rfl (by simp) underlying147 inf5 rfl Bnd.none' Bnd.none' (Nat.zero_le _) (Nat.le_refl _) (by decide)) (.v rfl (V_move rfl) (.v rfl (V_move rfl) (.v rfl (V_bin rfl rfl (fun w=>mulI w 4 s4.2.1)) (.v rfl (V_sliceStr (l:=(w64 (4 * s4.2.1)).toNat) (h:=(key).length) rfl underlying9 (Bnd.some' (i:=w64 (4 * s4.2.1)) rfl h30) Bnd.none' h31 (Nat.le_refl _)) .nil)))))))) .nil (by kernel_rfl) rfl (fun γ=>?_)
     refine TA_cut [(46,vs (sub key ((w64 (4 * s4.2.1)).toNat) ((key).length))),(42,sl (sh (some (b6,0)) (((s4.2.1).toNat) * 4+0)) (4 - 0) (4 - 0)),(0,vs key),(4,ptr (some (b5,0)) 0),(5,vi n2),(6,sl (some (b6,0)) ((w64 (4 * (w64 (n2+7)))).toNat) ((w64 (4 * (w64 (n2+7)))).toNat)),(7,v8 s4.1),(32,vi ((w64 (4 * (w64 (n2+7)))).toNat:Int)),(33,vi s4.2.1)] [⟨some (b5,0),e8 r_3.toList⟩,⟨some (b5,256),[sl An2 ((([]:List (Vx 8 16))).length) ((([]:List (Vx 8 16))++([]:List (Vx 8 16))).length)]⟩,⟨An2,eF (fun V:Vx 8 16=>e8 V.toList) (([]:List (Vx 8 16))++([]:List (Vx 8 16)))⟩,⟨some (b6,0),eF (fun V:Vx 8 4=>e8 V.toList) s4.2.2⟩] ⟨rfl,rfl,rfl,rfl,rfl,rfl,rfl,rfl,rfl,trivial⟩ rfl ?_
     refine TA_all (rs:=[8]) (by kernel_rfl) rfl ?_
     refine ⟨?_,trivial⟩
     refine TO_e (is:=[]) (done':=dn 9 511) rfl rfl rfl rfl (by kernel_rfl) (E_copyStr (o:=((s4.2.1).toNat) * 4+0) (j:=3) rfl rfl (by simp) underlying86 inf5 rfl rfl (copy_row (n:=4) (l:=0) (d:=4 - 0) h29 (by omega)) (cs':=eF (fun V:Vx 8 4=>e8 V.toList) (s4.2.2.set ((s4.2.1).toNat) (vsp (lg s4.2.2 ((s4.2.1).toNat)) 0 ((sub key ((w64 (4 * s4.2.1)).toNat) ((key).length)).take (min ((sub key ((w64 (4 * s4.2.1)).toNat) ((key).length)).length) (4 - 0)))))) (splice_lvec h29 (take_room (n:=4) (l:=0) (d:=4 - 0) (by omega)))) (fun _ _=>rfl) (fun _=>?_)
     refine TA_reE (j:=3) (A:=some (b6,0)) (cs:=eF (fun V:Vx 8 4=>e8 V.toList) (s4.2.2.set ((s4.2.1).toNat) (vsp (lg s4.2.2 ((s4.2.1).toNat)) 0 ((sub key ((w64 (4 * s4.2.1)).toNat) ((key).length)).take (min ((sub key ((w64 (4 * s4.2.1)).toNat) ((key).length)).length) (4 - 0)))))) (cs':=eF (fun V:Vx 8 4=>e8 V.toList) m_7) rfl (congrArg (eF (fun V:Vx 8 4=>e8 V.toList)) hm_7) ?_
     refine TA_done (by kernel_rfl) ?_ 0
     refine TX_next (TC_exit (TX_then_exit (TX_block_exit (TX_next (TC_region (TLv (V_bin rfl rfl (fun w=>addI w s4.2.1 1)) ?_))))))
     refine TVm ?_
     refine TL_nil ?_
     obtain rfl:=sj H
     exact TXk [0,0,0,0] (hK (s4.1,w64 (s4.2.1+1),m_7) rfl ())
    ·refine TC_skip (TX_next (TC_seq (TC_region (TVm ?_))))
     refine TVm ?_
     refine TLv (V_bin rfl rfl (fun w=>subI w s4.2.1 1)) ?_
     obtain ⟨h32,H⟩:=if_elim H
     obtain ⟨h33,H⟩:=if_elim H
     refine TLv (V_idxSl (i:=w64 (s4.2.1 - 1)) rfl rfl underlying127 inf147 rfl (fun _ h=>by cases h) h32.1 h32.2 (k:=((w64 (s4.2.1 - 1)).toNat) * 4) rfl) ?_
     refine TLv (V_loadPart (n:=4) (ds:=e8 ((lg s4.2.2 ((w64 (s4.2.1 - 1)).toNat)).toList)) rfl (.o 3) (part_eF (g:=fun V:Vx 8 4=>e8 V.toList) (s:=4) (fun _=>by simp) s4.2.2 ((w64 (s4.2.1 - 1)).toNat) h33) (by simp) rfl isAgg147 inf147 rfl) ?_
     refine TLe (E_allocP [(4,e8 ((replicate 4 0#8).toList))] inf147 zer147 ⟨(lenV (f:=v8) (replicate 4 0#8)),trivial⟩) (fun b7=>?_)
     refine TLn (E_sv 0 inf147) (fun _=>?_)
     obtain ⟨m_8,hm_8,H⟩:=ltt_elim H
     refine TL_reE (j:=0) (A:=some (b7,0)) (cs:=e8 ((lg s4.2.2 ((w64 (s4.2.1 - 1)).toNat)).toList)) (cs':=e8 m_8.toList) rfl (congrArg (fun z:Vx 8 4=>e8 (Vector.toList z)) hm_8) ?_
     refine TL_nil (TX_next (TC_seq (TC_seq (TC_region (TVm ?_)))))
     refine TVm ?_
     obtain ⟨h34,H⟩:=if_elim H
     refine TLv (V_bin rfl rfl (fun w=>remI w s4.2.1 n2 h34)) ?_
     refine TLv (V_bin rfl rfl (fun w=>eqlI w (s4.2.1.tmod n2) 0)) ?_
     refine TL_nil (TX_next ?_)
     obtain ⟨j2,Hj,H⟩:=bind_elim H
     refine TC_join (Γ:=Unit) (fun gj2=>[(0,vs key),(4,ptr (some (b5,0)) 0),(5,vi n2),(6,sl (some (b6,0)) ((w64 (4 * (w64 (n2+7)))).toNat) ((w64 (4 * (w64 (n2+7)))).toNat)),(7,v8 j2.1),(8,vi s4.2.1),(9,ptr (some (b7,0)) 0),(32,vi ((w64 (4 * (w64 (n2+7)))).toNat:Int)),(33,vi s4.2.1)]) (fun gj2=>[⟨some (b5,0),e8 r_3.toList⟩,⟨some (b5,256),[sl An2 ((([]:List (Vx 8 16))).length) ((([]:List (Vx 8 16))++([]:List (Vx 8 16))).length)]⟩,⟨An2,eF (fun V:Vx 8 16=>e8 V.toList) (([]:List (Vx 8 16))++([]:List (Vx 8 16)))⟩,⟨some (b6,0),eF (fun V:Vx 8 4=>e8 V.toList) s4.2.2⟩,⟨some (b7,0),e8 j2.2.toList⟩]) ?_ ?_
     ·intro gj2
      refine TX_next (TC_seq (TC_region (TVm ?_)))
      refine TL_nil (TX_next (TC_block ?_))
      obtain ⟨t_6,Hl,H⟩:=bind_elim H
      refine TC.sub (m':=[(0,_),(4,_),(5,_),(6,_),(7,_),(8,_),(9,_),(32,_),(33,_),(112,_)]) ⟨rfl,rfl,rfl,rfl,rfl,rfl,rfl,rfl,rfl,rfl,trivial⟩ ?_
      refine TC.pull (is:=[0,0,0,0,0]) (L':=[_,_,_,_,_]) rfl ?_
      refine TC_loopL (id:=4) (body:=(aes_New.b5 n2 s4 j2)) (σ:=Int × List (Vx 8 4)) (Γ:=Unit) (Γx:=Unit) (fun s5 g5_=>[(0,vs key),(4,ptr (some (b5,0)) 0),(5,vi n2),(6,sl (some (b6,0)) ((w64 (4 * (w64 (n2+7)))).toNat) ((w64 (4 * (w64 (n2+7)))).toNat)),(7,v8 j2.1),(8,vi s4.2.1),(9,ptr (some (b7,0)) 0),(32,vi ((w64 (4 * (w64 (n2+7)))).toNat:Int)),(33,vi s4.2.1),(112,vi s5.1)]) (fun s5 g5_=>[⟨some (b5,0),e8 r_3.toList⟩,⟨some (b5,256),[sl An2 ((([]:List (Vx 8 16))).length) ((([]:List (Vx 8 16))++([]:List (Vx 8 16))).length)]⟩,⟨An2,eF (fun V:Vx 8 16=>e8 V.toList) (([]:List (Vx 8 16))++([]:List (Vx 8 16)))⟩,⟨some (b6,0),eF (fun V:Vx 8 4=>e8 V.toList) s5.2⟩,⟨some (b7,0),e8 j2.2.toList⟩]) (fun t g=>[(0,vs key),(4,ptr (some (b5,0)) 0),(5,vi n2),(6,sl (some (b6,0)) ((w64 (4 * (w64 (n2+7)))).toNat) ((w64 (4 * (w64 (n2+7)))).toNat)),(7,v8 j2.1),(32,vi ((w64 (4 * (w64 (n2+7)))).toNat:Int)),(33,vi s4.2.1)]) (fun t g=>[⟨some (b5,0),e8 r_3.toList⟩,⟨some (b5,256),[sl An2 ((([]:List (Vx 8 16))).length) ((([]:List (Vx 8 16))++([]:List (Vx 8 16))).length)]⟩,⟨An2,eF (fun V:Vx 8 16=>e8 V.toList) (([]:List (Vx 8 16))++([]:List (Vx 8 16)))⟩,⟨some (b6,0),eF (fun V:Vx 8 4=>e8 V.toList) t⟩]) ?_ BIG (0,s4.2.2) () t_6 Hl ?_
      ·intro s5 g5_ r1 H K hK hE
       unfold aes_New.b5 at H
       refine TC_seq (TC_region (TLv (V_bin rfl rfl (fun w=>lssI w s5.1 4)) ?_))
       refine TL_nil (TX_next (TC_seq (TCd H (fun hc H=>?_) (fun hc H=>?_))))
       ·refine TC_skip (TX_next (TC_seq (TC_block (TC_seq (TC_region (TVm ?_))))))
        refine TVa ?_
        refine TL_nil (TX_next ?_)
        obtain ⟨h35,H⟩:=if_elim H
        obtain ⟨h36,H⟩:=if_elim H
        obtain ⟨h37,H⟩:=if_elim H
        obtain ⟨h38,H⟩:=if_elim H
        obtain ⟨h39,H⟩:=if_elim H
        obtain ⟨h40,H⟩:=if_elim H
        obtain ⟨h41,H⟩:=if_elim H
        obtain ⟨m_9,hm_9,H⟩:=ltt_elim H
        refine TA_begin [] 18 (by kernel_rfl) (N:=18) rfl ?_
        refine TA_mix (is:=[]) (done':=dn 18 131071) [itV 0 115 (sl (some (b6,0)) ((w64 (4 * (w64 (n2+7)))).toNat) ((w64 (4 * (w64 (n2+7)))).toNat)) [],itV 1 116 (vi s4.2.1) [],itV 2 117 (vi s5.1) [],itV 3 118 (sl (some (b6,0)) ((w64 (4 * (w64 (n2+7)))).toNat) ((w64 (4 * (w64 (n2+7)))).toNat)) [],itV 4 119 (vi s4.2.1) [],itV 5 120 (vi n2) [],itV 6 121 (vi (w64 (s4.2.1 - n2))) [5,4],itV 7 122 (vi s5.1) [],itV 8 123 (ptr (some (b6,0)) (((w64 (s4.2.1 - n2)).toNat) * 4)) [6,3],itV 9 124 (ptr (some (b6,0)) (((w64 (s4.2.1 - n2)).toNat) * 4+(s5.1).toNat)) [7,8],itV 10 125 (v8 (vg (lg s5.2 ((w64 (s4.2.1 - n2)).toNat)) ((s5.1).toNat))) [9],itV 11 126 (vi s5.1) [],itV 12 127 (ptr (some (b7,0)) ((s5.1).toNat)) [11],itV 13 128 (v8 (vg j2.2 ((s5.1).toNat))) [12],itV 14 129 (v8 ((vg (lg s5.2 ((w64 (s4.2.1 - n2)).toNat)) ((s5.1).toNat)) ^^^ (vg j2.2 ((s5.1).toNat)))) [13,10],itV 15 130 (ptr (some (b6,0)) (((s4.2.1).toNat) * 4)) [0,1],itV 16 131 (ptr (some (b6,0)) (((s4.2.1).toNat) * 4+(s5.1).toNat)) [15,2]] [] 1 (by kernel_rfl) (QP.block (QP.then (QP.then (QP.block (QP.block (QP.then (QP.then (QP.block (QP.then QP.body))))))))) (by kernel_rfl) rfl (.v rfl (V_move rfl) (.v rfl (V_move rfl) (.v rfl (V_move rfl) (.v rfl (V_move rfl) (.v rfl (V_move rfl) (.v rfl (V_move rfl) (.v rfl (V_bin rfl rfl (fun w=>subI w s4.2.1 n2)) (.v rfl (V_move rfl) (.v rfl (V_idxSl (i:=w64 (s4.2.1 - n2)) rfl rfl underlying127 inf147 rfl (fun _ h=>by cases h) h35.1 h35.2 (k:=((w64 (s4.2.1 - n2)).toNat) * 4) rfl) (.v rfl (V_idxArr (i:=s5.1) rfl rfl underlying147 inf5 rfl h37.1 h37.2 (k:=((w64 (s4.2.1 - n2)).toNat) * 4+(s5.1).toNat) (k1 _ _)) (.v rfl (V_load rfl (.o 3) ((get_eF (g:=fun V:Vx 8 4=>e8 V.toList) (s:=4) (fun _=>by simp) s5.2 ((w64 (s4.2.1 - n2)).toNat) ((s5.1).toNat) h36 (toNat_lt h37.1 h37.2)).trans (get_vec (toNat_lt h37.1 h37.2))) isAgg5) (.v rfl (V_move rfl) (.v rfl (V_idxArr (i:=s5.1) rfl rfl underlying147 inf5 rfl h38.1 h38.2 (k:=(s5.1).toNat) (k01 _)) (.v rfl (V_load rfl (.o 4) (get_vec (f:=v8) (V:=j2.2) (toNat_lt h38.1 h38.2)) isAgg5) (.v rfl (V_bin rfl rfl (fun w=>xor8 w (vg (lg s5.2 ((w64 (s4.2.1 - n2)).toNat)) ((s5.1).toNat)) (vg j2.2 ((s5.1).toNat)))) (.v rfl (V_idxSl (i:=s4.2.1) rfl rfl underlying127 inf147 rfl (fun _ h=>by cases h) h39.1 h39.2 (k:=((s4.2.1).toNat) * 4) rfl) (.v rfl (V_idxArr (i:=s5.1) rfl rfl underlying147 inf5 rfl h41.1 h41.2 (k:=((s4.2.1).toNat) * 4+(s5.1).toNat) (k1 _ _)) .nil))))))))))))))))) .nil (by kernel_rfl) rfl (fun γ=>?_)
        refine TA_cut [(131,ptr (some (b6,0)) (((s4.2.1).toNat) * 4+(s5.1).toNat)),(129,v8 ((vg (lg s5.2 ((w64 (s4.2.1 - n2)).toNat)) ((s5.1).toNat)) ^^^ (vg j2.2 ((s5.1).toNat)))),(0,vs key),(4,ptr (some (b5,0)) 0),(5,vi n2),(6,sl (some (b6,0)) ((w64 (4 * (w64 (n2+7)))).toNat) ((w64 (4 * (w64 (n2+7)))).toNat)),(7,v8 j2.1),(8,vi s4.2.1),(9,ptr (some (b7,0)) 0),(32,vi ((w64 (4 * (w64 (n2+7)))).toNat:Int)),(33,vi s4.2.1),(112,vi s5.1)] [⟨some (b5,0),e8 r_3.toList⟩,⟨some (b5,256),[sl An2 ((([]:List (Vx 8 16))).length) ((([]:List (Vx 8 16))++([]:List (Vx 8 16))).length)]⟩,⟨An2,eF (fun V:Vx 8 16=>e8 V.toList) (([]:List (Vx 8 16))++([]:List (Vx 8 16)))⟩,⟨some (b6,0),eF (fun V:Vx 8 4=>e8 V.toList) s5.2⟩,⟨some (b7,0),e8 j2.2.toList⟩] ⟨rfl,rfl,rfl,rfl,rfl,rfl,rfl,rfl,rfl,rfl,rfl,rfl,trivial⟩ rfl ?_
        refine TA_all (rs:=[17]) (by kernel_rfl) rfl ?_
        refine ⟨?_,trivial⟩
        refine TO_n (is:=[]) (done':=dn 18 262143) rfl rfl rfl (by kernel_rfl) (E_store (j:=3) rfl rfl inf5 rfl rfl rfl (lt_eF (g:=fun V:Vx 8 4=>e8 V.toList) (s:=4) (fun _=>by simp) h40 (toNat_lt h41.1 h41.2)) (cs':=eF (fun V:Vx 8 4=>e8 V.toList) (s5.2.set ((s4.2.1).toNat) (vp (lg s5.2 ((s4.2.1).toNat)) ((s5.1).toNat) ((vg (lg s5.2 ((w64 (s4.2.1 - n2)).toNat)) ((s5.1).toNat)) ^^^ (vg j2.2 ((s5.1).toNat)))))) (set_eF (g:=fun V:Vx 8 4=>e8 V.toList) (s:=4) (fun _=>by simp) s5.2 ((s4.2.1).toNat) ((s5.1).toNat) _ _ h40 (toNat_lt h41.1 h41.2) set_vec)) (fun _ _=>rfl) (fun _=>?_)
        refine TA_reE (j:=3) (A:=some (b6,0)) (cs:=eF (fun V:Vx 8 4=>e8 V.toList) (s5.2.set ((s4.2.1).toNat) (vp (lg s5.2 ((s4.2.1).toNat)) ((s5.1).toNat) ((vg (lg s5.2 ((w64 (s4.2.1 - n2)).toNat)) ((s5.1).toNat)) ^^^ (vg j2.2 ((s5.1).toNat)))))) (cs':=eF (fun V:Vx 8 4=>e8 V.toList) m_9) rfl (congrArg (eF (fun V:Vx 8 4=>e8 V.toList)) hm_9) ?_
        refine TA_done (by kernel_rfl) ?_ 0
        refine TX_block_normal (TX_next (TC_region (TLv (V_bin rfl rfl (fun w=>addI w s5.1 1)) ?_)))
        refine TVm ?_
        refine TL_nil ?_
        obtain rfl:=sj H
        exact TXk [0,0,0,0,0] (hK (w64 (s5.1+1),m_9) rfl ())
       ·refine TC_exit (TX_then_exit (TX_then_exit ?_))
        obtain rfl:=sj H
        exact TXj [0,0,0,0] (hE s5.2 rfl ())
      ·intro g
       refine TX_block_exit (TX_block_normal (TX_next (TC_region (TLv (V_bin rfl rfl (fun w=>addI w s4.2.1 1)) ?_))))
       refine TVm ?_
       refine TL_nil ?_
       obtain rfl:=sj H
       exact TXk [0,0,0,0] (hK (j2.1,w64 (s4.2.1+1),t_6) rfl ())
     ·intro hJ
      replace H:=Hj
      refine TCd H (fun hc H=>?_) (fun hc H=>?_)
      ·refine TC_seq ?_
       obtain ⟨m_10,hm_10,H⟩:=ltt_elim H
       refine TA_begin [] 32 (by kernel_rfl) (N:=32) rfl ?_
       refine TA_mix (is:=[]) (done':=dn 32 2147483647) [itV 0 57 (ptr (some (b5,0)) 0) [],itV 1 58 (ptr (some (b7,0)) 1) [],itV 2 59 (v8 (vg m_8 1)) [1],itV 3 60 (ptr (some (b5,0)) 0) [0],itV 4 61 (ptr (some (b5,0)) 0) [3],itV 5 62 (ptr (some (b5,0)) ((vg m_8 1).toNat)) [2,4],itV 6 63 (v8 (vg r_3 ((vg m_8 1).toNat))) [5],itV 7 64 (v8 s4.1) [],itV 8 65 (v8 ((vg r_3 ((vg m_8 1).toNat)) ^^^ s4.1)) [7,6],itV 9 66 (ptr (some (b5,0)) 0) [],itV 10 67 (ptr (some (b7,0)) 2) [],itV 11 68 (v8 (vg m_8 2)) [10],itV 12 69 (ptr (some (b5,0)) 0) [9],itV 13 70 (ptr (some (b5,0)) 0) [12],itV 14 71 (ptr (some (b5,0)) ((vg m_8 2).toNat)) [11,13],itV 15 72 (v8 (vg r_3 ((vg m_8 2).toNat))) [14],itV 16 73 (ptr (some (b5,0)) 0) [],itV 17 74 (ptr (some (b7,0)) 3) [],itV 18 75 (v8 (vg m_8 3)) [17],itV 19 76 (ptr (some (b5,0)) 0) [16],itV 20 77 (ptr (some (b5,0)) 0) [19],itV 21 78 (ptr (some (b5,0)) ((vg m_8 3).toNat)) [18,20],itV 22 79 (v8 (vg r_3 ((vg m_8 3).toNat))) [21],itV 23 80 (ptr (some (b5,0)) 0) [],itV 24 81 (ptr (some (b7,0)) 0) [],itV 25 82 (v8 (vg m_8 0)) [24],itV 26 83 (ptr (some (b5,0)) 0) [23],itV 27 84 (ptr (some (b5,0)) 0) [26],itV 28 85 (ptr (some (b5,0)) ((vg m_8 0).toNat)) [25,27],itV 29 86 (v8 (vg r_3 ((vg m_8 0).toNat))) [28],itV 30 87 (aG [(4,e8 ((#v[(vg r_3 ((vg m_8 1).toNat)) ^^^ s4.1,vg r_3 ((vg m_8 2).toNat),vg r_3 ((vg m_8 3).toNat),vg r_3 ((vg m_8 0).toNat)]:Vx 8 4).toList))]) [15,8,29,22]] [] 1 (by kernel_rfl) (QP.then (QP.then (QP.block (QP.then (QP.then (QP.block (QP.then QP.body))))))) (by kernel_rfl) rfl (.v rfl (V_move rfl) (.v rfl (V_idxArr (i:=1) rfl rfl underlying147 inf5 rfl (by decide) (by decide) (k:=1) (k01 _)) (.v rfl (V_load rfl (.o 0) (get_vec (f:=v8) (V:=m_8) (by decide:1<4)) isAgg5) (.v rfl (V_nilCheck rfl) (.v rfl (V_fe underlying247 inf243) (.v rfl (V_idxArr (i:=((vg m_8 1).toNat:Int)) rfl rfl underlying243 inf5 rfl (Int.natCast_nonneg _) (zb (n:=8) (k:=256) (vg m_8 1) (by decide)) (k:=(vg m_8 1).toNat) (k01 _)) (.v rfl (V_load rfl (.o 1) (get_vec (f:=v8) (V:=r_3) (toNat_lt (Int.natCast_nonneg _) (zb (n:=8) (k:=256) (vg m_8 1) (by decide)))) isAgg5) (.v rfl (V_move rfl) (.v rfl (V_bin rfl rfl (fun w=>xor8 w (vg r_3 ((vg m_8 1).toNat)) s4.1)) (.v rfl (V_move rfl) (.v rfl (V_idxArr (i:=2) rfl rfl underlying147 inf5 rfl (by decide) (by decide) (k:=2) (k01 _)) (.v rfl (V_load rfl (.o 0) (get_vec (f:=v8) (V:=m_8) (by decide:2<4)) isAgg5) (.v rfl (V_nilCheck rfl) (.v rfl (V_fe underlying247 inf243) (.v rfl (V_idxArr (i:=((vg m_8 2).toNat:Int)) rfl rfl underlying243 inf5 rfl (Int.natCast_nonneg _) (zb (n:=8) (k:=256) (vg m_8 2) (by decide)) (k:=(vg m_8 2).toNat) (k01 _)) (.v rfl (V_load rfl (.o 1) (get_vec (f:=v8) (V:=r_3) (toNat_lt (Int.natCast_nonneg _) (zb (n:=8) (k:=256) (vg m_8 2) (by decide)))) isAgg5) (.v rfl (V_move rfl) (.v rfl (V_idxArr (i:=3) rfl rfl underlying147 inf5 rfl (by decide) (by decide) (k:=3) (k01 _)) (.v rfl (V_load rfl (.o 0) (get_vec (f:=v8) (V:=m_8) (by decide:3<4)) isAgg5) (.v rfl (V_nilCheck rfl) (.v rfl (V_fe underlying247 inf243) (.v rfl (V_idxArr (i:=((vg m_8 3).toNat:Int)) rfl rfl underlying243 inf5 rfl (Int.natCast_nonneg _) (zb (n:=8) (k:=256) (vg m_8 3) (by decide)) (k:=(vg m_8 3).toNat) (k01 _)) (.v rfl (V_load rfl (.o 1) (get_vec (f:=v8) (V:=r_3) (toNat_lt (Int.natCast_nonneg _) (zb (n:=8) (k:=256) (vg m_8 3) (by decide)))) isAgg5) (.v rfl (V_move rfl) (.v rfl (V_idxArr (i:=0) rfl rfl underlying147 inf5 rfl (by decide) (by decide) (k:=0) (k01 _)) (.v rfl (V_load rfl (.o 0) (get_vec (f:=v8) (V:=m_8) (by decide:0<4)) isAgg5) (.v rfl (V_nilCheck rfl) (.v rfl (V_fe underlying247 inf243) (.v rfl (V_idxArr (i:=((vg m_8 0).toNat:Int)) rfl rfl underlying243 inf5 rfl (Int.natCast_nonneg _) (zb (n:=8) (k:=256) (vg m_8 0) (by decide)) (k:=(vg m_8 0).toNat) (k01 _)) (.v rfl (V_load rfl (.o 1) (get_vec (f:=v8) (V:=r_3) (toNat_lt (Int.natCast_nonneg _) (zb (n:=8) (k:=256) (vg m_8 0) (by decide)))) isAgg5) (.v rfl (V_buildArr (pv:=[(0,v8 ((vg r_3 ((vg m_8 1).toNat)) ^^^ s4.1)),(1,v8 (vg r_3 ((vg m_8 2).toNat))),(2,v8 (vg r_3 ((vg m_8 3).toNat))),(3,v8 (vg r_3 ((vg m_8 0).toNat)))]) rfl rfl underlying147 inf147 inf5 rfl zer147 (cs:=e8 ((#v[(vg r_3 ((vg m_8 1).toNat)) ^^^ s4.1,vg r_3 ((vg m_8 2).toNat),vg r_3 ((vg m_8 3).toNat),vg r_3 ((vg m_8 0).toNat)]:Vx 8 4).toList)) (by kernel_rfl)) .nil))))))))))))))))))))))))))))))) .nil (by kernel_rfl) rfl (fun γ=>?_)
       refine TA_cut [(87,aG [(4,e8 ((#v[(vg r_3 ((vg m_8 1).toNat)) ^^^ s4.1,vg r_3 ((vg m_8 2).toNat),vg r_3 ((vg m_8 3).toNat),vg r_3 ((vg m_8 0).toNat)]:Vx 8 4).toList))]),(9,ptr (some (b7,0)) 0),(8,vi s4.2.1),(0,vs key),(4,ptr (some (b5,0)) 0),(5,vi n2),(6,sl (some (b6,0)) ((w64 (4 * (w64 (n2+7)))).toNat) ((w64 (4 * (w64 (n2+7)))).toNat)),(7,v8 s4.1),(32,vi ((w64 (4 * (w64 (n2+7)))).toNat:Int)),(33,vi s4.2.1)] [⟨some (b7,0),e8 m_8.toList⟩,⟨some (b5,0),e8 r_3.toList⟩,⟨some (b5,256),[sl An2 ((([]:List (Vx 8 16))).length) ((([]:List (Vx 8 16))++([]:List (Vx 8 16))).length)]⟩,⟨An2,eF (fun V:Vx 8 16=>e8 V.toList) (([]:List (Vx 8 16))++([]:List (Vx 8 16)))⟩,⟨some (b6,0),eF (fun V:Vx 8 4=>e8 V.toList) s4.2.2⟩] ⟨rfl,rfl,rfl,rfl,rfl,rfl,rfl,rfl,rfl,rfl,trivial⟩ rfl ?_
       refine TA_all (rs:=[31]) (by kernel_rfl) rfl ?_
       refine ⟨?_,trivial⟩
       refine TO_n (is:=[]) (done':=dn 32 4294967295) rfl rfl rfl (by kernel_rfl) (E_sv 0 inf147) (fun _ _=>rfl) (fun _=>?_)
       refine TA_reE (j:=0) (A:=some (b7,0)) (cs:=e8 ((#v[(vg r_3 ((vg m_8 1).toNat)) ^^^ s4.1,vg r_3 ((vg m_8 2).toNat),vg r_3 ((vg m_8 3).toNat),vg r_3 ((vg m_8 0).toNat)]:Vx 8 4).toList)) (cs':=e8 m_10.toList) rfl (congrArg (fun z:Vx 8 4=>e8 (Vector.toList z)) hm_10) ?_
       refine TA_done (by kernel_rfl) ?_ 0
       refine TX_next (TC_region (TVm ?_))
       obtain ⟨r_4,hr_4,H⟩:=bind_elim H
       refine TLe (E_c0 (F153_calls s4.1 r_4 hr_4) call153 .z) (fun g_4=>?_)
       refine TVa ?_
       refine TL_nil ?_
       obtain rfl:=sj H
       exact TXj [1,1,1,1,0] (hJ ())
      ·refine TC_seq (TC_region (TVm ?_))
       refine TLv (V_bin rfl rfl (fun w=>eqlI w n2 8)) ?_
       refine TVm ?_
       refine TFd (d:=92) H (fun hc H=>?_) (fun hc H=>?_)
       ·refine TLw (V_move rfl) ?_
        refine TLw (V_move rfl) ?_
        obtain ⟨h42,H⟩:=if_elim H
        refine TLw (V_bin rfl rfl (fun w=>remI w s4.2.1 n2 h42)) ?_
        refine TLw (V_bin rfl rfl (fun w=>eqlI w (s4.2.1.tmod n2) 4)) ?_
        refine TVt ?_
        refine TL_nil (TX_next (TC.sub (m':=[(0,_),(4,_),(5,_),(6,_),(7,_),(8,_),(9,_),(32,_),(33,_),(97,_)]) ⟨rfl,rfl,rfl,rfl,rfl,rfl,rfl,rfl,rfl,rfl,trivial⟩ ?_))
        refine TCd H (fun hc H=>?_) (fun hc H=>?_)
        ·refine TC_seq (TC_region (TVm ?_))
         refine TL_nil (TX_next (TC_block ?_))
         obtain ⟨t_7,Hl,H⟩:=bind_elim H
         refine TC.sub (m':=[(0,_),(4,_),(5,_),(6,_),(7,_),(8,_),(9,_),(32,_),(33,_),(98,_)]) ⟨rfl,rfl,rfl,rfl,rfl,rfl,rfl,rfl,rfl,rfl,trivial⟩ ?_
         refine TC.pull (is:=[1,1,1,1,0]) (L':=[_,_,_,_,_]) rfl ?_
         refine TC_loopL (id:=2) (body:=(aes_New.b6 r_3)) (σ:=Int × Vx 8 4) (Γ:=Unit) (Γx:=Unit) (fun s6 g6_=>[(0,vs key),(4,ptr (some (b5,0)) 0),(5,vi n2),(6,sl (some (b6,0)) ((w64 (4 * (w64 (n2+7)))).toNat) ((w64 (4 * (w64 (n2+7)))).toNat)),(7,v8 s4.1),(8,vi s4.2.1),(9,ptr (some (b7,0)) 0),(32,vi ((w64 (4 * (w64 (n2+7)))).toNat:Int)),(33,vi s4.2.1),(98,vi s6.1)]) (fun s6 g6_=>[⟨some (b5,0),e8 r_3.toList⟩,⟨some (b5,256),[sl An2 ((([]:List (Vx 8 16))).length) ((([]:List (Vx 8 16))++([]:List (Vx 8 16))).length)]⟩,⟨An2,eF (fun V:Vx 8 16=>e8 V.toList) (([]:List (Vx 8 16))++([]:List (Vx 8 16)))⟩,⟨some (b6,0),eF (fun V:Vx 8 4=>e8 V.toList) s4.2.2⟩,⟨some (b7,0),e8 s6.2.toList⟩]) (fun t g=>[(0,vs key),(4,ptr (some (b5,0)) 0),(5,vi n2),(6,sl (some (b6,0)) ((w64 (4 * (w64 (n2+7)))).toNat) ((w64 (4 * (w64 (n2+7)))).toNat)),(7,v8 s4.1),(8,vi s4.2.1),(9,ptr (some (b7,0)) 0),(32,vi ((w64 (4 * (w64 (n2+7)))).toNat:Int)),(33,vi s4.2.1)]) (fun t g=>[⟨some (b5,0),e8 r_3.toList⟩,⟨some (b5,256),[sl An2 ((([]:List (Vx 8 16))).length) ((([]:List (Vx 8 16))++([]:List (Vx 8 16))).length)]⟩,⟨An2,eF (fun V:Vx 8 16=>e8 V.toList) (([]:List (Vx 8 16))++([]:List (Vx 8 16)))⟩,⟨some (b6,0),eF (fun V:Vx 8 4=>e8 V.toList) s4.2.2⟩,⟨some (b7,0),e8 t.toList⟩]) ?_ BIG (0,m_8) () t_7 Hl ?_
         ·intro s6 g6_ r1 H K hK hE
          unfold aes_New.b6 at H
          refine TC_seq (TC_region (TLv (V_bin rfl rfl (fun w=>lssI w s6.1 4)) ?_))
          refine TL_nil (TX_next (TC_seq (TCd H (fun hc H=>?_) (fun hc H=>?_))))
          ·refine TC_skip (TX_next (TC_seq (TC_block (TC_seq (TC_region (TVm ?_))))))
           refine TVa ?_
           refine TL_nil (TX_next ?_)
           obtain ⟨h43,H⟩:=if_elim H
           obtain ⟨h44,H⟩:=if_elim H
           obtain ⟨m_11,hm_11,H⟩:=ltt_elim H
           refine TA_begin [] 11 (by kernel_rfl) (N:=11) rfl ?_
           refine TA_mix (is:=[]) (done':=dn 11 1023) [itV 0 101 (vi s6.1) [],itV 1 102 (ptr (some (b5,0)) 0) [],itV 2 103 (vi s6.1) [],itV 3 104 (ptr (some (b7,0)) ((s6.1).toNat)) [2],itV 4 105 (v8 (vg s6.2 ((s6.1).toNat))) [3],itV 5 106 (ptr (some (b5,0)) 0) [1],itV 6 107 (ptr (some (b5,0)) 0) [5],itV 7 108 (ptr (some (b5,0)) ((vg s6.2 ((s6.1).toNat)).toNat)) [4,6],itV 8 109 (v8 (vg r_3 ((vg s6.2 ((s6.1).toNat)).toNat))) [7],itV 9 110 (ptr (some (b7,0)) ((s6.1).toNat)) [0]] [] 1 (by kernel_rfl) (QP.block (QP.then (QP.then (QP.block (QP.then (QP.block (QP.then (QP.then (QP.block (QP.then QP.body)))))))))) (by kernel_rfl) rfl (.v rfl (V_move rfl) (.v rfl (V_move rfl) (.v rfl (V_move rfl) (.v rfl (V_idxArr (i:=s6.1) rfl rfl underlying147 inf5 rfl h43.1 h43.2 (k:=(s6.1).toNat) (k01 _)) (.v rfl (V_load rfl (.o 4) (get_vec (f:=v8) (V:=s6.2) (toNat_lt h43.1 h43.2)) isAgg5) (.v rfl (V_nilCheck rfl) (.v rfl (V_fe underlying247 inf243) (.v rfl (V_idxArr (i:=((vg s6.2 ((s6.1).toNat)).toNat:Int)) rfl rfl underlying243 inf5 rfl (Int.natCast_nonneg _) (zb (n:=8) (k:=256) (vg s6.2 ((s6.1).toNat)) (by decide)) (k:=(vg s6.2 ((s6.1).toNat)).toNat) (k01 _)) (.v rfl (V_load rfl (.o 0) (get_vec (f:=v8) (V:=r_3) (toNat_lt (Int.natCast_nonneg _) (zb (n:=8) (k:=256) (vg s6.2 ((s6.1).toNat)) (by decide)))) isAgg5) (.v rfl (V_idxArr (i:=s6.1) rfl rfl underlying147 inf5 rfl h44.1 h44.2 (k:=(s6.1).toNat) (k01 _)) .nil)))))))))) .nil (by kernel_rfl) rfl (fun γ=>?_)
           refine TA_cut [(110,ptr (some (b7,0)) ((s6.1).toNat)),(109,v8 (vg r_3 ((vg s6.2 ((s6.1).toNat)).toNat))),(0,vs key),(4,ptr (some (b5,0)) 0),(5,vi n2),(6,sl (some (b6,0)) ((w64 (4 * (w64 (n2+7)))).toNat) ((w64 (4 * (w64 (n2+7)))).toNat)),(7,v8 s4.1),(8,vi s4.2.1),(9,ptr (some (b7,0)) 0),(32,vi ((w64 (4 * (w64 (n2+7)))).toNat:Int)),(33,vi s4.2.1),(98,vi s6.1)] [⟨some (b5,0),e8 r_3.toList⟩,⟨some (b5,256),[sl An2 ((([]:List (Vx 8 16))).length) ((([]:List (Vx 8 16))++([]:List (Vx 8 16))).length)]⟩,⟨An2,eF (fun V:Vx 8 16=>e8 V.toList) (([]:List (Vx 8 16))++([]:List (Vx 8 16)))⟩,⟨some (b6,0),eF (fun V:Vx 8 4=>e8 V.toList) s4.2.2⟩,⟨some (b7,0),e8 s6.2.toList⟩] ⟨rfl,rfl,rfl,rfl,rfl,rfl,rfl,rfl,rfl,rfl,rfl,rfl,trivial⟩ rfl ?_
           refine TA_all (rs:=[10]) (by kernel_rfl) rfl ?_
           refine ⟨?_,trivial⟩
           refine TO_n (is:=[]) (done':=dn 11 2047) rfl rfl rfl (by kernel_rfl) (E_store (j:=4) rfl rfl inf5 rfl rfl rfl (by simpa using (toNat_lt h44.1 h44.2)) (cs':=e8 ((vp s6.2 ((s6.1).toNat) (vg r_3 ((vg s6.2 ((s6.1).toNat)).toNat))).toList)) set_vec) (fun _ _=>rfl) (fun _=>?_)
           refine TA_reE (j:=4) (A:=some (b7,0)) (cs:=e8 ((vp s6.2 ((s6.1).toNat) (vg r_3 ((vg s6.2 ((s6.1).toNat)).toNat))).toList)) (cs':=e8 m_11.toList) rfl (congrArg (fun z:Vx 8 4=>e8 (Vector.toList z)) hm_11) ?_
           refine TA_done (by kernel_rfl) ?_ 0
           refine TX_block_normal (TX_next (TC_region (TLv (V_bin rfl rfl (fun w=>addI w s6.1 1)) ?_)))
           refine TVm ?_
           refine TL_nil ?_
           obtain rfl:=sj H
           exact TXk [0,0,0,0,0] (hK (w64 (s6.1+1),m_11) rfl ())
          ·refine TC_exit (TX_then_exit (TX_then_exit ?_))
           obtain rfl:=sj H
           exact TXj [0,0,0,0,0] (hE s6.2 rfl ())
         ·intro g
          refine TX_block_exit ?_
          obtain rfl:=sj H
          exact TXj [0,0,0,0,0] (hJ ())
        ·refine TC_skip ?_
         obtain rfl:=sj H
         exact TXj [1,1,1,1,0] (hJ ())
       ·refine TLs ?_
        refine TLs ?_
        refine TLs ?_
        refine TLs ?_
        refine TVf ?_
        refine TL_nil (TX_next (TC.sub (m':=[(0,_),(4,_),(5,_),(6,_),(7,_),(8,_),(9,_),(32,_),(33,_),(97,_)]) ⟨rfl,rfl,rfl,rfl,rfl,rfl,rfl,rfl,rfl,rfl,trivial⟩ ?_))
        refine TC_cond_f rfl ?_
        refine TC_skip ?_
        obtain rfl:=sj H
        exact TXj [1,1,1,1,0] (hJ ())
   ·refine TC_exit (TX_then_exit (TX_then_exit ?_))
    obtain rfl:=sj H
    exact TXj [0,0,0,0] (hE s4.2.2 rfl ())
  ·intro g
   refine TX_block_exit (TX_next (TC_seq (TC_region (TVm ?_))))
   refine TVm ?_
   refine TLv (V_bin rfl rfl (fun w=>addI w n2 7)) ?_
   obtain ⟨h45,H⟩:=if_elim H
   refine TLe (E_mkN rfl rfl underlying245 inf171 zer171 (by kernel_rfl) rfl rfl (B:=16) rfl h45.1 (Int.le_refl _) (mk_b 16 rfl h45) (mk_c h45) (n':=(w64 (n2+7)).toNat) (c':=(w64 (n2+7)).toNat) rfl rfl (cs:=eF (fun V:Vx 8 16=>e8 V.toList) (List.replicate ((w64 (n2+7)).toNat) (replicate 16 0#8))) (rep_eF (g:=fun V:Vx 8 16=>e8 V.toList))) (fun b8=>?_)
   refine TLv (V_nilCheck rfl) ?_
   refine TLv (V_fieldE rfl underlying247 rfl rfl inf245 rfl (v:=ptr (some (b5,256)) 0) rfl) ?_
   refine TLn (E_store (j:=2) rfl rfl inf245 rfl rfl rfl (Nat.lt_succ_self 0) (cs':=[sl (some (b8,0)) ((w64 (n2+7)).toNat) ((w64 (n2+7)).toNat)]) rfl) (fun _=>?_)
   refine TL_nil (TX_next (TC_seq (TC_seq (TC_region (TVm ?_)))))
   refine TLv (V_len_slice rfl underlying127) ?_
   refine TVm ?_
   refine TL_nil (TX_next (TC_block ?_))
   obtain ⟨t_8,Hl,H⟩:=bind_elim H
   refine TC.sub (m':=[(4,_),(6,_),(141,_),(142,_)]) ⟨rfl,rfl,rfl,rfl,trivial⟩ ?_
   refine TC.pull (is:=[1,1,0,1]) (L':=[_,_,_,_]) rfl ?_
   refine TC_loopL (id:=6) (body:=(aes_New.b7 n2 t_5)) (σ:=Int × List (Vx 8 16)) (Γ:=Unit) (Γx:=Unit) (fun s7 g7_=>[(4,ptr (some (b5,0)) 0),(6,sl (some (b6,0)) ((w64 (4 * (w64 (n2+7)))).toNat) ((w64 (4 * (w64 (n2+7)))).toNat)),(141,vi ((w64 (4 * (w64 (n2+7)))).toNat:Int)),(142,vi s7.1)]) (fun s7 g7_=>[⟨some (b5,0),e8 r_3.toList⟩,⟨some (b5,256),[sl (some (b8,0)) ((w64 (n2+7)).toNat) ((w64 (n2+7)).toNat)]⟩,⟨some (b8,0),eF (fun V:Vx 8 16=>e8 V.toList) s7.2⟩,⟨some (b6,0),eF (fun V:Vx 8 4=>e8 V.toList) t_5⟩]) (fun t g=>[(4,ptr (some (b5,0)) 0)]) (fun t g=>[⟨some (b5,0),e8 r_3.toList⟩,⟨some (b5,256),[sl (some (b8,0)) ((w64 (n2+7)).toNat) ((w64 (n2+7)).toNat)]⟩,⟨some (b8,0),eF (fun V:Vx 8 16=>e8 V.toList) t⟩]) ?_ BIG (0,List.replicate ((w64 (n2+7)).toNat) (replicate 16 0#8)) () t_8 Hl ?_
   ·intro s7 g7_ r1 H K hK hE
    unfold aes_New.b7 at H
    refine TC_seq (TC_region (TLv (V_bin rfl rfl (fun w=>lssI w s7.1 ((w64 (4 * (w64 (n2+7)))).toNat:Int))) ?_))
    refine TL_nil (TX_next (TC_seq (TCd H (fun hc H=>?_) (fun hc H=>?_))))
    ·refine TC_skip (TX_next (TC_seq (TC_block (TC_seq (TC_region (TVm ?_))))))
     refine TVa ?_
     refine TL_nil (TX_next ?_)
     obtain ⟨h46,H⟩:=if_elim H
     obtain ⟨h47,H⟩:=if_elim H
     obtain ⟨h48,H⟩:=if_elim H
     obtain ⟨h49,H⟩:=if_elim H
     obtain ⟨h50,H⟩:=if_elim H
     obtain ⟨h51,H⟩:=if_elim H
     obtain ⟨h52,H⟩:=if_elim H
     obtain ⟨m_12,hm_12,H⟩:=ltt_elim H
     refine TA_begin [] 16 (by kernel_rfl) (N:=16) rfl ?_
     refine TA_mix (is:=[]) (done':=dn 16 32767) [itV 0 145 (ptr (some (b5,0)) 0) [],itV 1 146 (ptr (some (b5,0)) 0) [0],itV 2 147 (ptr (some (b5,256)) 0) [1],itV 3 148 (sl (some (b8,0)) ((w64 (n2+7)).toNat) ((w64 (n2+7)).toNat)) [2],itV 4 149 (vi s7.1) [],itV 5 150 (vi (w64 (s7.1.tdiv 4))) [4],itV 6 151 (ptr (some (b8,0)) (((w64 (s7.1.tdiv 4)).toNat) * 16)) [3,5],itV 7 152 (vi s7.1) [],itV 8 153 (vi (s7.1.tmod 4)) [7],itV 9 154 (vi (w64 (4 * (s7.1.tmod 4)))) [8],itV 10 155 (sl (sh (some (b8,0)) (((w64 (s7.1.tdiv 4)).toNat) * 16+((w64 (4 * (s7.1.tmod 4))).toNat))) (16 - ((w64 (4 * (s7.1.tmod 4))).toNat)) (16 - ((w64 (4 * (s7.1.tmod 4))).toNat))) [9,6],itV 11 156 (sl (some (b6,0)) ((w64 (4 * (w64 (n2+7)))).toNat) ((w64 (4 * (w64 (n2+7)))).toNat)) [],itV 12 157 (vi s7.1) [],itV 13 158 (ptr (some (b6,0)) (((s7.1).toNat) * 4)) [11,12],itV 14 159 (sl (sh (some (b6,0)) (((s7.1).toNat) * 4+0)) (4 - 0) (4 - 0)) [13]] [] 1 (by kernel_rfl) (QP.block (QP.then (QP.then (QP.block (QP.then QP.body))))) (by kernel_rfl) rfl (.v rfl (V_move rfl) (.v rfl (V_nilCheck rfl) (.v rfl (V_fe underlying247 inf245) (.v rfl (V_load rfl (.o 1) rfl isAgg245) (.v rfl (V_move rfl) (.v rfl (V_bin rfl rfl (fun w=>quoI w s7.1 4 (by decide))) (.v rfl (V_idxSl (i:=w64 (s7.1.tdiv 4)) rfl rfl underlying245 inf171 rfl (fun _ h=>by cases h) h46.1 h46.2 (k:=((w64 (s7.1.tdiv 4)).toNat) * 16) rfl) (.v rfl (V_move rfl) (.v rfl (V_bin rfl rfl (fun w=>remI w s7.1 4 (by decide))) (.v rfl (V_bin rfl rfl (fun w=>mulI w 4 (s7.1.tmod 4))) (.v rfl (V_sliceWin (l:=(w64 (4 * (s7.1.tmod 4))).toNat) (h:=16) rfl (by simp) underlying171 inf5 rfl (Bnd.some' (i:=w64 (4 * (s7.1.tmod 4))) rfl h48) Bnd.none' h49 (Nat.le_refl _) h50) (.v rfl (V_move rfl) (.v rfl (V_move rfl) (.v rfl (V_idxSl (i:=s7.1) rfl rfl underlying127 inf147 rfl (fun _ h=>by cases h) h51.1 h51.2 (k:=((s7.1).toNat) * 4) rfl) (.v rfl (V_sliceWin (l:=0) (h:=4) rfl (by simp) underlying147 inf5 rfl Bnd.none' Bnd.none' (Nat.zero_le _) (Nat.le_refl _) (by decide)) .nil))))))))))))))) .nil (by kernel_rfl) rfl (fun γ=>?_)
     refine TA_cut [(159,sl (sh (some (b6,0)) (((s7.1).toNat) * 4+0)) (4 - 0) (4 - 0)),(155,sl (sh (some (b8,0)) (((w64 (s7.1.tdiv 4)).toNat) * 16+((w64 (4 * (s7.1.tmod 4))).toNat))) (16 - ((w64 (4 * (s7.1.tmod 4))).toNat)) (16 - ((w64 (4 * (s7.1.tmod 4))).toNat))),(4,ptr (some (b5,0)) 0),(6,sl (some (b6,0)) ((w64 (4 * (w64 (n2+7)))).toNat) ((w64 (4 * (w64 (n2+7)))).toNat)),(141,vi ((w64 (4 * (w64 (n2+7)))).toNat:Int)),(142,vi s7.1)] [⟨some (b5,0),e8 r_3.toList⟩,⟨some (b5,256),[sl (some (b8,0)) ((w64 (n2+7)).toNat) ((w64 (n2+7)).toNat)]⟩,⟨some (b8,0),eF (fun V:Vx 8 16=>e8 V.toList) s7.2⟩,⟨some (b6,0),eF (fun V:Vx 8 4=>e8 V.toList) t_5⟩] ⟨rfl,rfl,rfl,rfl,rfl,rfl,trivial⟩ rfl ?_
     refine TA_all (rs:=[15]) (by kernel_rfl) rfl ?_
     refine ⟨?_,trivial⟩
     refine TO_e (is:=[]) (done':=dn 16 65535) rfl rfl rfl rfl (by kernel_rfl) (E_copyB (o:=((w64 (s7.1.tdiv 4)).toNat) * 16+((w64 (4 * (s7.1.tmod 4))).toNat)) (j:=2) (ds:=(sub ((lg t_5 ((s7.1).toNat)).toList) 0 4)) rfl rfl (by simp) underlying86 inf5 rfl (srcWin1 0 4 h52 (.o 3)) (sub_length (by simp)) rfl rfl (copy_row (n:=16) (l:=(w64 (4 * (s7.1.tmod 4))).toNat) (d:=16 - ((w64 (4 * (s7.1.tmod 4))).toNat)) h47 (by omega)) (cs':=eF (fun V:Vx 8 16=>e8 V.toList) (s7.2.set ((w64 (s7.1.tdiv 4)).toNat) (vsp (lg s7.2 ((w64 (s7.1.tdiv 4)).toNat)) ((w64 (4 * (s7.1.tmod 4))).toNat) ((sub ((lg t_5 ((s7.1).toNat)).toList) 0 4).take (min (4 - 0) (16 - ((w64 (4 * (s7.1.tmod 4))).toNat))))))) (splice_lvec h47 (take_room (n:=16) (l:=(w64 (4 * (s7.1.tmod 4))).toNat) (d:=16 - ((w64 (4 * (s7.1.tmod 4))).toNat)) (by omega)))) (fun _ _=>rfl) (fun _=>?_)
     refine TA_reE (j:=2) (A:=some (b8,0)) (cs:=eF (fun V:Vx 8 16=>e8 V.toList) (s7.2.set ((w64 (s7.1.tdiv 4)).toNat) (vsp (lg s7.2 ((w64 (s7.1.tdiv 4)).toNat)) ((w64 (4 * (s7.1.tmod 4))).toNat) ((sub ((lg t_5 ((s7.1).toNat)).toList) 0 4).take (min (4 - 0) (16 - ((w64 (4 * (s7.1.tmod 4))).toNat))))))) (cs':=eF (fun V:Vx 8 16=>e8 V.toList) m_12) rfl (congrArg (eF (fun V:Vx 8 16=>e8 V.toList)) hm_12) ?_
     refine TA_done (by kernel_rfl) ?_ 0
     refine TX_block_normal (TX_next (TC_region (TLv (V_bin rfl rfl (fun w=>addI w s7.1 1)) ?_)))
     refine TVm ?_
     refine TL_nil ?_
     obtain rfl:=sj H
     exact TXk [0,0,0,0] (hK (w64 (s7.1+1),m_12) rfl ())
    ·refine TC_exit (TX_then_exit (TX_then_exit ?_))
     obtain rfl:=sj H
     exact TXj [0,0,0] (hE s7.2 rfl ())
   ·intro g
    refine TX_block_exit (TX_next (TC_seq (TC_region (TVm ?_))))
    refine TVa ?_
    refine TVa ?_
    refine TL_nil (TX_next (TC_ret ?_))
    obtain rfl:=sj H
    exact TX_ret (rs:=[.tmp 2, .tmp 3]) (vs:=[ptr (some (b5,0)) 0,vb true]) rfl ⟨rfl,rfl,trivial⟩ (fun w' hs'=>⟨((),(b5,b8)),rfl,Step.left (Step.pulled (is:=[0,0,0]) (A:=[⟨some (b5,0),e8 r_3.toList⟩,⟨some (b5,256),[sl (some (b8,0)) ((w64 (n2+7)).toNat) ((w64 (n2+7)).toNat)]⟩,⟨some (b8,0),eF (fun V:Vx 8 16=>e8 V.toList) t_8⟩]) hs' rfl)⟩)
end Go.Proofs
end

/-
  Part 30 of the proof of what several laws share.
-/
import Derived.SizedLaws
import Derived.ChangeSlices
import Derived.SliceStrings
import Derived.WideShapes
import Derived.ChangeShapes
import Derived.Test.YtkgeoekcnlgfnaaGreatDoorKf1
import Derived.Test.YtkgeoekcnlgfnaaGreatDoorKf2
import Derived.Test.YtkgeoekcnlgfnaaGreatDoorKf3
import Derived.Test.YtkgeoekcnlgfnaaGreatDoorKf4
import Derived.Test.YtkgeoekcnlgfnaaGreatDoorKf5
import Derived.Test.YtkgeoekcnlgfnaaGreatDoorKf6
import Derived.Test.YtkgeoekcnlgfnaaGreatDoorKf7
import Derived.Test.YtkgeoekcnlgfnaaGreatDoorKf8
import Derived.Test.YtkgeoekcnlgfnaaGreatDoorKf9
import Derived.Test.YtkgeoekcnlgfnaaGreatDoorKf10
import Derived.Test.YtkgeoekcnlgfnaaGreatDoorKf11
import Derived.Test.YtkgeoekcnlgfnaaGreatDoorKf12
import Derived.Test.YtkgeoekcnlgfnaaGreatDoorKf13
import Derived.Test.YtkgeoekcnlgfnaaGreatDoorKf14
import Derived.Test.YtkgeoekcnlgfnaaGreatDoorKf15
import Derived.Test.YtkgeoekcnlgfnaaGreatDoorKf16
import Derived.Test.YtkgeoekcnlgfnaaGreatDoorKf17
import Derived.Test.YtkgeoekcnlgfnaaGreatDoorKf18
import Derived.Test.YtkgeoekcnlgfnaaGreatDoorKf19
import Derived.Test.YtkgeoekcnlgfnaaGreatDoorKf20
import Derived.Test.YtkgeoekcnlgfnaaGreatDoorKf21
import Derived.Test.YtkgeoekcnlgfnaaGreatDoorKf22
import Derived.Test.YtkgeoekcnlgfnaaGreatDoorKf23
import Derived.Test.YtkgeoekcnlgfnaaGreatDoorKf24
import Derived.Test.YtkgeoekcnlgfnaaGreatDoorKf25
import Derived.Test.YtkgeoekcnlgfnaaGreatDoorKf26
import Derived.Test.YtkgeoekcnlgfnaaGreatDoorKf27
import Derived.Test.YtkgeoekcnlgfnaaGreatDoorKf28
import Derived.Test.YtkgeoekcnlgfnaaGreatDoorKf29
set_option linter.unusedVariables false
set_option linter.unusedSimpArgs false
section
namespace Go.Proofs
open Go Go.Kx
set_option maxRecDepth 100000 in
theorem awake24:halberdlaw24_awake=some true:=by kernel_rfl
end Go.Proofs
end

section
namespace Go.Proofs
open Go Go.Kx
open TryzI Tryz
def halberdref1_Be.b0 (size:Int) (s0:Int × Int × List (BitVec 8)):Option ((Int × Int × List (BitVec 8)) ⊕ (List (BitVec 8))) :=
 if 0≤s0.2.1 then (if 0≤s0.2.1∧s0.2.1<((size).toNat:Int) then (if (s0.2.1).toNat<(s0.2.2).length then (ltt (s0.2.2.set ((s0.2.1).toNat) (BitVec.ofInt 8 (iop (· &&& ·) s0.1 255))) fun (m_1:List (BitVec 8))=>(ltt (w64 (s0.2.1 - 1)) fun (i2:Int)=>(some (.inl (shrI' s0.1 8,i2,m_1))))) else none) else none) else (some (.inr s0.2.2))
def halberdref1_Be (x:Int) (size:Int):Option (Str) :=
 if 0≤size∧size≤17592186044416 then (ltt (w64 (size - 1)) fun (i1:Int)=>((loop (halberdref1_Be.b0 size) BIG (x,i1,List.replicate ((size).toNat) 0#8)).bind fun (t_1:List (BitVec 8))=>(if (t_1).length=(size).toNat then (some t_1) else none))) else none
end Go.Proofs
end

section
namespace Go.Proofs
open Go Go.Kx
theorem iop_nat (f:BitVec 64 → BitVec 64 → BitVec 64) (a b:Int) (h:(f (BitVec.ofInt 64 a) (BitVec.ofInt 64 b)).toNat<9223372036854775808):iop f a b=((f (BitVec.ofInt 64 a) (BitVec.ofInt 64 b)).toNat:Int):=by
 unfold iop
 exact w64_nat h
theorem and_mask (x:Int) (n:Nat) (hn:n<63):iop (· &&& ·) x ((2 ^ n - 1:Nat):Int)=x % ((2 ^ n:Nat):Int):=by
 have hp:2 ^ n<2 ^ 63:=Nat.pow_lt_pow_right (by omega) (by omega)
 have hp0:0<2 ^ n:=Nat.two_pow_pos n
 have e:((BitVec.ofInt 64 x) &&& (BitVec.ofInt 64 ((2 ^ n - 1:Nat):Int))).toNat=(x % ((2 ^ n:Nat):Int)).toNat:=by
  have e1:(BitVec.ofInt 64 ((2 ^ n - 1:Nat):Int)).toNat=2 ^ n - 1:=by
   rw [BitVec.ofInt_natCast,BitVec.toNat_ofNat,Nat.mod_eq_of_lt (by omega)]
  rw [BitVec.toNat_and,e1,Nat.and_two_pow_sub_one_eq_mod,BitVec.toNat_ofInt]
  have h1:((x % ((2 ^ 64:Nat):Int)).toNat:Int)=x % ((2 ^ 64:Nat):Int):=Int.toNat_of_nonneg (Int.emod_nonneg _ (by decide))
  have h2:((x % ((2 ^ n:Nat):Int)).toNat:Int)=x % ((2 ^ n:Nat):Int):=Int.toNat_of_nonneg (Int.emod_nonneg _ (by omega))
  apply Int.ofNat.inj
  show (((x % ((2 ^ 64:Nat):Int)).toNat % 2 ^ n:Nat):Int)=_
  rw [Int.natCast_emod,h1]
  show x % ((2 ^ 64:Nat):Int) % ((2 ^ n:Nat):Int)=((x % ((2 ^ n:Nat):Int)).toNat:Int)
  rw [h2]
  refine Int.emod_emod_of_dvd x ?_
  rw [Int.natCast_dvd_natCast]
  exact Nat.pow_dvd_pow 2 (by omega)
 have hlt:(x % ((2 ^ n:Nat):Int)).toNat<2 ^ n:=by
  have:=Int.emod_lt_of_pos x (show (0:Int)<((2 ^ n:Nat):Int) by omega)
  omega
 have:=iop_nat (· &&& ·) x ((2 ^ n - 1:Nat):Int) (by show BitVec.toNat (_ &&& _)<_; rw [e]; omega)
 rw [this]
 show ((BitVec.toNat (_ &&& _):Nat):Int)=_
 rw [e]
 exact Int.toNat_of_nonneg (Int.emod_nonneg _ (by omega))
end Go.Proofs
end

section
namespace Go.Proofs
open Go Go.Kx
open TryzI Tryz
def halberdlaw0_SameInts.b0 (a_:List (Int)) (b:List (Int)) (s0:Int):Option ((Int) ⊕ ((Unit) ⊕ (Bool))) :=
 if s0<((a_).length:Int) then (if 0≤s0∧s0<((a_).length:Int) then (if 0≤s0∧s0<((b).length:Int) then (if (lg a_ ((s0).toNat)) ≠ (lg b ((s0).toNat)) then (some (.inr (.inr false))) else (some (.inl (w64 (s0+1))))) else none) else none) else (some (.inr (.inl ())))
def halberdlaw0_SameInts (a_:List (Int)) (b:List (Int)):Option (Bool) :=
 if ((a_).length:Int) ≠ ((b).length:Int) then (some false) else ((loop (halberdlaw0_SameInts.b0 a_ b) BIG 0).bind fun (t_1:(Unit) ⊕ (Bool))=>(match t_1 with | .inl t_1=>(some true) | .inr rv=>some rv))
set_option maxHeartbeats 4000000 in
set_option maxRecDepth 20000 in
theorem F27_calls (Aa_:Adr) (ca_:Nat) (Ab:Adr) (cb:Nat) (a_:List (Int)) (b:List (Int)) (hca_:(a_).length≤ca_) (hcb:(b).length≤cb) (r:Bool) (H:halberdlaw0_SameInts a_ b=some r) :
  Does Tryz.prog 27 [sl Aa_ ((a_).length) ca_,sl Ab ((b).length) cb] [] [⟨Aa_,eI a_⟩,⟨Ab,eI b⟩] (Γ:=Unit) (fun g=>vb r) (fun g=>[]):=by
 intro w hmem hro hd
 refine calls_of (N:=26) (m0:=[(0,sl Aa_ ((a_).length) ca_),(1,sl Ab ((b).length) cb)]) func27 rfl ntmps27 (argM_ok [sl Aa_ ((a_).length) ca_,sl Ab ((b).length) cb]) rfl hmem hro hd ?_
 unfold halberdlaw0_SameInts at H
 refine TC_seq (TC_region (TVa ?_))
 refine TL_nil (TX_next (TC_seq (TC_seq (TC_region (TVm ?_)))))
 refine TLv (V_len_slice rfl underlying22) ?_
 refine TVm ?_
 refine TLv (V_len_slice rfl underlying22) ?_
 refine TLv (V_bin rfl rfl (fun w=>neqI w ((a_).length:Int) ((b).length:Int))) ?_
 refine TL_nil (TX_next (TCd H (fun hc H=>?_) (fun hc H=>?_)))
 ·refine TC_seq (TC_region (TVa ?_))
  refine TL_nil (TX_next (TC_ret (TX_then_ret ?_)))
  obtain rfl:=sj H
  exact TX1
 ·refine TC_skip (TX_next (TC_seq (TC_seq (TC_region (TVa ?_)))))
  refine TL_nil (TX_next (TC_block ?_))
  obtain ⟨t_1,Hl,H⟩:=bind_elim H
  refine TC.sub (m':=[(0,_),(1,_),(5,_)]) ⟨rfl,rfl,rfl,trivial⟩ ?_
  refine TC.pull (is:=[]) (L':=[]) rfl ?_
  refine TC_loopR (id:=0) (body:=(halberdlaw0_SameInts.b0 a_ b)) (σ:=Int) (Γ:=Unit) (Γx:=Unit) (fun s0 g0_=>[(0,sl Aa_ ((a_).length) ca_),(1,sl Ab ((b).length) cb),(5,vi s0)]) (fun s0 g0_=>[]) (fun t g=>[]) (fun t g=>[]) r ?_ BIG 0 () t_1 Hl ?_
  ·intro s0 g0_ r1 H K hK hE hR1
   unfold halberdlaw0_SameInts.b0 at H
   refine TC_seq (TC_seq (TC_region (TVm ?_)))
   refine TVm ?_
   refine TLv (V_len_slice rfl underlying22) ?_
   refine TLv (V_bin rfl rfl (fun w=>lssI w s0 ((a_).length:Int))) ?_
   refine TL_nil (TX_next (TCd H (fun hc H=>?_) (fun hc H=>?_)))
   ·refine TC_skip (TX_next (TC_seq (TC_block (TC_seq ?_))))
    obtain ⟨h1,H⟩:=if_elim H
    obtain ⟨h2,H⟩:=if_elim H
    refine TA_begin [] 9 (by kernel_rfl) (N:=9) rfl ?_
    refine TA_mix (is:=[]) (done':=dn 9 511) [itV 0 17 (sl Aa_ ((a_).length) ca_) [],itV 1 18 (vi s0) [],itV 2 19 (ptr Aa_ ((s0).toNat)) [0,1],itV 3 20 (vi (lg a_ ((s0).toNat))) [2],itV 4 21 (sl Ab ((b).length) cb) [],itV 5 22 (vi s0) [],itV 6 23 (ptr Ab ((s0).toNat)) [4,5],itV 7 24 (vi (lg b ((s0).toNat))) [6],itV 8 25 (vb (decide ((lg a_ ((s0).toNat)) ≠ (lg b ((s0).toNat))))) [7,3]] [] 0 (by kernel_rfl) (QP.then (QP.block (QP.then (QP.then (QP.block (QP.then QP.body)))))) (by kernel_rfl) rfl (.v rfl (V_move rfl) (.v rfl (V_move rfl) (.v rfl (V_idxSlS (i:=s0) rfl rfl underlying22 inf3 rfl (.r 0) (map_ne (toNat_lt h1.1 h1.2)) h1.1 h1.2 (k:=(s0).toNat) (km1 _)) (.v rfl (V_load rfl (.r 0) (get_map (f:=vi) (l:=a_) (toNat_lt h1.1 h1.2)) isAgg3) (.v rfl (V_move rfl) (.v rfl (V_move rfl) (.v rfl (V_idxSlS (i:=s0) rfl rfl underlying22 inf3 rfl (.r 1) (map_ne (toNat_lt h2.1 h2.2)) h2.1 h2.2 (k:=(s0).toNat) (km1 _)) (.v rfl (V_load rfl (.r 1) (get_map (f:=vi) (l:=b) (toNat_lt h2.1 h2.2)) isAgg3) (.v rfl (V_bin rfl rfl (fun w=>neqI w (lg a_ ((s0).toNat)) (lg b ((s0).toNat)))) .nil))))))))) .nil (by kernel_rfl) rfl (fun γ=>?_)
    refine TA_cut [(25,vb (decide ((lg a_ ((s0).toNat)) ≠ (lg b ((s0).toNat))))),(0,sl Aa_ ((a_).length) ca_),(1,sl Ab ((b).length) cb),(5,vi s0)] [] ⟨rfl,rfl,rfl,rfl,trivial⟩ rfl ?_
    refine TA_done (by kernel_rfl) ?_ 0
    refine TX_next (TCd H (fun hc H=>?_) (fun hc H=>?_))
    ·refine TC_seq (TC_region (TVa ?_))
     refine TL_nil (TX_next (TC_ret (TX_block_ret (TX_then_ret (TX_then_ret (TX_block_ret (TX_then_ret ?_)))))))
     have hrv:=(hR1 _ (Option.some.inj H).symm)
     subst hrv
     exact TX1
    ·refine TC_skip (TX_block_normal (TX_next (TC_region (TVm ?_))))
     refine TLv (V_bin rfl rfl (fun w=>addI w s0 1)) ?_
     refine TVa ?_
     refine TL_nil ?_
     obtain rfl:=sj H
     exact TXk [] (hK (w64 (s0+1)) rfl ())
   ·refine TC_exit (TX_then_exit (TX_then_exit ?_))
    obtain rfl:=sj H
    exact TXj [] (hE () rfl ())
  ·rcases t_1 with t_1 | rv
   ·intro gx1
    dsimp only at H
    refine TX_block_exit (TX_next (TC_seq (TC_region (TVa ?_))))
    refine TL_nil (TX_next (TC_ret ?_))
    obtain rfl:=sj H
    exact TX1
   ·exact (Option.some.inj H)
end Go.Proofs
end

section
namespace Go.Proofs
open Go Go.Kx
open TryzI Tryz
def halberdlaw0_SameTexts.b0 (a_:List (Str)) (b:List (Str)) (s0:Int):Option ((Int) ⊕ ((Unit) ⊕ (Bool))) :=
 if s0<((a_).length:Int) then (if 0≤s0∧s0<((a_).length:Int) then (if 0≤s0∧s0<((b).length:Int) then (if lg a_ ((s0).toNat) ≠ lg b ((s0).toNat) then (some (.inr (.inr false))) else (some (.inl (w64 (s0+1))))) else none) else none) else (some (.inr (.inl ())))
def halberdlaw0_SameTexts (a_:List (Str)) (b:List (Str)):Option (Bool) :=
 if ((a_).length:Int) ≠ ((b).length:Int) then (some false) else ((loop (halberdlaw0_SameTexts.b0 a_ b) BIG 0).bind fun (t_1:(Unit) ⊕ (Bool))=>(match t_1 with | .inl t_1=>(some true) | .inr rv=>some rv))
set_option maxHeartbeats 4000000 in
set_option maxRecDepth 20000 in
theorem F28_calls (Aa_:Adr) (ca_:Nat) (Ab:Adr) (cb:Nat) (a_:List (Str)) (b:List (Str)) (hca_:(a_).length≤ca_) (hcb:(b).length≤cb) (r:Bool) (H:halberdlaw0_SameTexts a_ b=some r) :
  Does Tryz.prog 28 [sl Aa_ ((a_).length) ca_,sl Ab ((b).length) cb] [] [⟨Aa_,eS a_⟩,⟨Ab,eS b⟩] (Γ:=Unit) (fun g=>vb r) (fun g=>[]):=by
 intro w hmem hro hd
 refine calls_of (N:=26) (m0:=[(0,sl Aa_ ((a_).length) ca_),(1,sl Ab ((b).length) cb)]) func28 rfl ntmps28 (argM_ok [sl Aa_ ((a_).length) ca_,sl Ab ((b).length) cb]) rfl hmem hro hd ?_
 unfold halberdlaw0_SameTexts at H
 refine TC_seq (TC_region (TVa ?_))
 refine TL_nil (TX_next (TC_seq (TC_seq (TC_region (TVm ?_)))))
 refine TLv (V_len_slice rfl underlying23) ?_
 refine TVm ?_
 refine TLv (V_len_slice rfl underlying23) ?_
 refine TLv (V_bin rfl rfl (fun w=>neqI w ((a_).length:Int) ((b).length:Int))) ?_
 refine TL_nil (TX_next (TCd H (fun hc H=>?_) (fun hc H=>?_)))
 ·refine TC_seq (TC_region (TVa ?_))
  refine TL_nil (TX_next (TC_ret (TX_then_ret ?_)))
  obtain rfl:=sj H
  exact TX1
 ·refine TC_skip (TX_next (TC_seq (TC_seq (TC_region (TVa ?_)))))
  refine TL_nil (TX_next (TC_block ?_))
  obtain ⟨t_1,Hl,H⟩:=bind_elim H
  refine TC.sub (m':=[(0,_),(1,_),(5,_)]) ⟨rfl,rfl,rfl,trivial⟩ ?_
  refine TC.pull (is:=[]) (L':=[]) rfl ?_
  refine TC_loopR (id:=0) (body:=(halberdlaw0_SameTexts.b0 a_ b)) (σ:=Int) (Γ:=Unit) (Γx:=Unit) (fun s0 g0_=>[(0,sl Aa_ ((a_).length) ca_),(1,sl Ab ((b).length) cb),(5,vi s0)]) (fun s0 g0_=>[]) (fun t g=>[]) (fun t g=>[]) r ?_ BIG 0 () t_1 Hl ?_
  ·intro s0 g0_ r1 H K hK hE hR1
   unfold halberdlaw0_SameTexts.b0 at H
   refine TC_seq (TC_seq (TC_region (TVm ?_)))
   refine TVm ?_
   refine TLv (V_len_slice rfl underlying23) ?_
   refine TLv (V_bin rfl rfl (fun w=>lssI w s0 ((a_).length:Int))) ?_
   refine TL_nil (TX_next (TCd H (fun hc H=>?_) (fun hc H=>?_)))
   ·refine TC_skip (TX_next (TC_seq (TC_block (TC_seq ?_))))
    obtain ⟨h1,H⟩:=if_elim H
    obtain ⟨h2,H⟩:=if_elim H
    refine TA_begin [] 9 (by kernel_rfl) (N:=9) rfl ?_
    refine TA_mix (is:=[]) (done':=dn 9 511) [itV 0 17 (sl Aa_ ((a_).length) ca_) [],itV 1 18 (vi s0) [],itV 2 19 (ptr Aa_ ((s0).toNat)) [0,1],itV 3 20 (vs (lg a_ ((s0).toNat))) [2],itV 4 21 (sl Ab ((b).length) cb) [],itV 5 22 (vi s0) [],itV 6 23 (ptr Ab ((s0).toNat)) [4,5],itV 7 24 (vs (lg b ((s0).toNat))) [6],itV 8 25 (vb (decide (lg a_ ((s0).toNat) ≠ lg b ((s0).toNat)))) [7,3]] [] 0 (by kernel_rfl) (QP.then (QP.block (QP.then (QP.then (QP.block (QP.then QP.body)))))) (by kernel_rfl) rfl (.v rfl (V_move rfl) (.v rfl (V_move rfl) (.v rfl (V_idxSlS (i:=s0) rfl rfl underlying23 inf9 rfl (.r 0) (map_ne (toNat_lt h1.1 h1.2)) h1.1 h1.2 (k:=(s0).toNat) (km1 _)) (.v rfl (V_load rfl (.r 0) (get_map (f:=vs) (l:=a_) (toNat_lt h1.1 h1.2)) isAgg9) (.v rfl (V_move rfl) (.v rfl (V_move rfl) (.v rfl (V_idxSlS (i:=s0) rfl rfl underlying23 inf9 rfl (.r 1) (map_ne (toNat_lt h2.1 h2.2)) h2.1 h2.2 (k:=(s0).toNat) (km1 _)) (.v rfl (V_load rfl (.r 1) (get_map (f:=vs) (l:=b) (toNat_lt h2.1 h2.2)) isAgg9) (.v rfl (V_bin rfl rfl (fun w=>neqS w (lg a_ ((s0).toNat)) (lg b ((s0).toNat)))) .nil))))))))) .nil (by kernel_rfl) rfl (fun γ=>?_)
    refine TA_cut [(25,vb (decide (lg a_ ((s0).toNat) ≠ lg b ((s0).toNat)))),(0,sl Aa_ ((a_).length) ca_),(1,sl Ab ((b).length) cb),(5,vi s0)] [] ⟨rfl,rfl,rfl,rfl,trivial⟩ rfl ?_
    refine TA_done (by kernel_rfl) ?_ 0
    refine TX_next (TCd H (fun hc H=>?_) (fun hc H=>?_))
    ·refine TC_seq (TC_region (TVa ?_))
     refine TL_nil (TX_next (TC_ret (TX_block_ret (TX_then_ret (TX_then_ret (TX_block_ret (TX_then_ret ?_)))))))
     have hrv:=(hR1 _ (Option.some.inj H).symm)
     subst hrv
     exact TX1
    ·refine TC_skip (TX_block_normal (TX_next (TC_region (TVm ?_))))
     refine TLv (V_bin rfl rfl (fun w=>addI w s0 1)) ?_
     refine TVa ?_
     refine TL_nil ?_
     obtain rfl:=sj H
     exact TXk [] (hK (w64 (s0+1)) rfl ())
   ·refine TC_exit (TX_then_exit (TX_then_exit ?_))
    obtain rfl:=sj H
    exact TXj [] (hE () rfl ())
  ·rcases t_1 with t_1 | rv
   ·intro gx1
    dsimp only at H
    refine TX_block_exit (TX_next (TC_seq (TC_region (TVa ?_))))
    refine TL_nil (TX_next (TC_ret ?_))
    obtain rfl:=sj H
    exact TX1
   ·exact (Option.some.inj H)
end Go.Proofs
end

section
namespace Go.Kx
open Go Go.RowKit Go.ChangeShapes Go.WideShapes
theorem Does.law2 {P:Program} {f:FuncId} {args:List Value} {Ro:Mem} (h:Does P f args [] Ro (Γ:=Unit) (fun _=>vb true) (fun _=>[])) (w:World) (hr : ∀ e ∈ Ro,Has w e) :
  Calls P f args.toArray w fun e w'=>e = .returned (.bool true)∧Below w.heap.size w w':=by
 refine (h w ⟨fun e he=>(List.not_mem_nil he).elim,List.Pairwise.nil⟩ hr (fun e he=>(List.not_mem_nil he).elim)).mono fun e w' ⟨_,he,hs⟩=>⟨he,hs.below⟩
section
variable {H:Type} {enc:TypeId × Value → H} {P:Program} {w:World} {base:Nat} {held:Bool} {t e:TypeId} {v:Value} {d:DataW H} {p:List MemPlace}
end
end Go.Kx
end

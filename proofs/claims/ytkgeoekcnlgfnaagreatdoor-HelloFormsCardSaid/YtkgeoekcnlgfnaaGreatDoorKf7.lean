/-
  Part 7 of the proof of what several laws share.
-/
import Derived.Laws.Externs
import Derived.Shelf.Spec.BitsCarry
import Derived.Test.YtkgeoekcnlgfnaaGreatDoorKf1
import Derived.Test.YtkgeoekcnlgfnaaGreatDoorKf2
import Derived.Test.YtkgeoekcnlgfnaaGreatDoorKf3
import Derived.Test.YtkgeoekcnlgfnaaGreatDoorKf4
import Derived.Test.YtkgeoekcnlgfnaaGreatDoorKf5
import Derived.Test.YtkgeoekcnlgfnaaGreatDoorKf6
set_option linter.unusedVariables false
set_option linter.unusedSimpArgs false
section
namespace Go.Proofs
open Go Go.Kx
open TryzI Tryz
def hello_each_fn2_44.b0 (xs:List (Int)) (s0:Int):Option ((Int) ⊕ ((Unit) ⊕ (Bool))) :=
 if s0<((xs).length:Int) then (if 0≤s0∧s0<((xs).length:Int) then (ltt (lg xs ((s0).toNat)) fun (x1:Int)=>((hello_suite x1).bind fun (r_2:Bool)=>((if (!r_2)=true then (some true) else (if 0≤s0 then (if (s0).toNat≤(xs).length then (if (s0).toNat≤(xs).length then (if (s0).toNat≤(xs).length then ((slices_Contains___int_int_ (subL xs 0 ((s0).toNat)) x1).bind fun (r_3:Bool)=>(some r_3)) else none) else none) else none) else none)).bind fun (j1:Bool)=>(if j1=true then (some (.inr (.inr false))) else (some (.inl (w64 (s0+1)))))))) else none) else (some (.inr (.inl ())))
def hello_each_fn2_44 (xs:List (Int)) (most:Int):Option (Bool) :=
 (hello_in ((xs).length:Int) 1 most).bind fun (r_1:Bool)=>(if (!r_1)=true then (some false) else ((loop (hello_each_fn2_44.b0 xs) BIG 0).bind fun (t_1:(Unit) ⊕ (Bool))=>(match t_1 with | .inl t_1=>(some true) | .inr rv=>some rv)))
def hello_each_fn2_45.b0 (xs:List (Int)) (s0:Int):Option ((Int) ⊕ ((Unit) ⊕ (Bool))) :=
 if s0<((xs).length:Int) then (if 0≤s0∧s0<((xs).length:Int) then (ltt (lg xs ((s0).toNat)) fun (x1:Int)=>((hello_group x1).bind fun (r_2:Bool)=>((if (!r_2)=true then (some true) else (if 0≤s0 then (if (s0).toNat≤(xs).length then (if (s0).toNat≤(xs).length then (if (s0).toNat≤(xs).length then ((slices_Contains___int_int_ (subL xs 0 ((s0).toNat)) x1).bind fun (r_3:Bool)=>(some r_3)) else none) else none) else none) else none)).bind fun (j1:Bool)=>(if j1=true then (some (.inr (.inr false))) else (some (.inl (w64 (s0+1)))))))) else none) else (some (.inr (.inl ())))
def hello_each_fn2_45 (xs:List (Int)) (most:Int):Option (Bool) :=
 (hello_in ((xs).length:Int) 1 most).bind fun (r_1:Bool)=>(if (!r_1)=true then (some false) else ((loop (hello_each_fn2_45.b0 xs) BIG 0).bind fun (t_1:(Unit) ⊕ (Bool))=>(match t_1 with | .inl t_1=>(some true) | .inr rv=>some rv)))
set_option maxHeartbeats 4000000 in
set_option maxRecDepth 20000 in
theorem F43_fn2_44_calls (Axs:Adr) (cxs:Nat) (xs:List (Int)) (most:Int) (hcxs:(xs).length≤cxs) (r:Bool) (H:hello_each_fn2_44 xs most=some r) :
  Does Tryz.prog 43 [sl Axs ((xs).length) cxs,vi most,Value.func (.func 44) #[] #[]] [] [⟨Axs,eI xs⟩] (Γ:=Unit) (fun g=>vb r) (fun g=>[]):=by
 intro w hmem hro hd
 refine calls_of (N:=33) (m0:=[(0,sl Axs ((xs).length) cxs),(1,vi most),(2,Value.func (.func 44) #[] #[])]) func43 rfl ntmps43 (argM_ok [sl Axs ((xs).length) cxs,vi most,Value.func (.func 44) #[] #[]]) rfl hmem hro hd ?_
 unfold hello_each_fn2_44 at H
 refine TC_seq (TC_region (TVa ?_))
 refine TL_nil (TX_next (TC_seq (TC_seq (TC_region (TVm ?_)))))
 refine TLv (V_len_slice rfl underlying22) ?_
 refine TVm ?_
 obtain ⟨r_1,hr_1,H⟩:=bind_elim H
 refine TLe (E_c0 (F46_calls ((xs).length:Int) 1 most r_1 hr_1) call46 .z) (fun g_1=>?_)
 refine TLv (V_un rfl (fun w=>notB w r_1)) ?_
 refine TL_nil (TX_next (TCb H (fun hc H=>?_) (fun hc H=>?_)))
 ·refine TC_seq (TC_region (TVa ?_))
  refine TL_nil (TX_next (TC_ret (TX_then_ret ?_)))
  obtain rfl:=sj H
  exact TX1
 ·refine TC_skip (TX_next (TC_seq (TC_seq (TC_region (TVm ?_)))))
  refine TLv (V_len_slice rfl underlying22) ?_
  refine TVm ?_
  refine TL_nil (TX_next (TC_block ?_))
  obtain ⟨t_1,Hl,H⟩:=bind_elim H
  refine TC.sub (m':=[(0,_),(2,_),(14,_),(15,_),(16,_)]) ⟨rfl,rfl,rfl,rfl,rfl,trivial⟩ ?_
  refine TC.pull (is:=[]) (L':=[]) rfl ?_
  refine TC_loopR (id:=0) (body:=(hello_each_fn2_44.b0 xs)) (σ:=Int) (Γ:=Unit) (Γx:=Unit) (fun s0 g0_=>[(0,sl Axs ((xs).length) cxs),(2,Value.func (.func 44) #[] #[]),(14,sl Axs ((xs).length) cxs),(15,vi ((xs).length:Int)),(16,vi s0)]) (fun s0 g0_=>[]) (fun t g=>[]) (fun t g=>[]) r ?_ BIG 0 () t_1 Hl ?_
  ·intro s0 g0_ r1 H K hK hE hR1
   unfold hello_each_fn2_44.b0 at H
   refine TC_seq (TC_region (TLv (V_bin rfl rfl (fun w=>lssI w s0 ((xs).length:Int))) ?_))
   refine TL_nil (TX_next (TC_seq (TCd H (fun hc H=>?_) (fun hc H=>?_))))
   ·refine TC_skip (TX_next (TC_seq (TC_block (TC_seq (TC_region (TVm ?_))))))
    obtain ⟨h1,H⟩:=if_elim H
    refine TLv (V_idxSlS (i:=s0) rfl rfl underlying22 inf3 rfl (.r 0) (map_ne (toNat_lt h1.1 h1.2)) h1.1 h1.2 (k:=(s0).toNat) (km1 _)) ?_
    refine TLv (V_load rfl (.r 0) (get_map (f:=vi) (l:=xs) (toNat_lt h1.1 h1.2)) isAgg3) ?_
    refine TVa ?_
    refine TVa ?_
    obtain ⟨x1,hx1,H⟩:=ltt_elim H
    refine TLr 8 (congrArg vi hx1) ?_
    refine TL_nil (TX_next (TC_seq (TC_region (TVm ?_))))
    refine TVm ?_
    obtain ⟨r_2,hr_2,H⟩:=bind_elim H
    refine TLe (E_c0V (vs:=[vi x1]) (cap:=[]) (F44_calls x1 r_2 hr_2) call44 .z) (fun g_2=>?_)
    refine TLv (V_un rfl (fun w=>notB w r_2)) ?_
    refine TVm ?_
    obtain ⟨j1,Hj,H⟩:=bind_elim H
    refine TL_join (Γ:=Unit) (fun gj1=>[(0,sl Axs ((xs).length) cxs),(2,Value.func (.func 44) #[] #[]),(14,sl Axs ((xs).length) cxs),(15,vi ((xs).length:Int)),(16,vi s0),(31,vb j1)]) (fun gj1=>[]) ?_ ?_
    ·intro gj1
     refine TX_next (TCb H (fun hc H=>?_) (fun hc H=>?_))
     ·refine TC_seq (TC_region (TVa ?_))
      refine TL_nil (TX_next (TC_ret (TX_block_ret (TX_then_ret (TX_then_ret (TX_block_ret (TX_then_ret ?_)))))))
      have hrv:=(hR1 _ (Option.some.inj H).symm)
      subst hrv
      exact TX1
     ·refine TC_skip (TX_block_normal (TX_next (TC_region (TLv (V_bin rfl rfl (fun w=>addI w s0 1)) ?_))))
      refine TVm ?_
      refine TL_nil ?_
      obtain rfl:=sj H
      exact TXk [] (hK (w64 (s0+1)) rfl ())
    ·intro hJ
     replace H:=Hj
     refine TFb (d:=25) H (fun hc H=>?_) (fun hc H=>?_)
     ·refine TLs ?_
      refine TLs ?_
      refine TLs ?_
      refine TLs ?_
      refine TLs ?_
      refine TVt ?_
      refine TL_nil ?_
      obtain rfl:=sj H
      exact TXj [] (hJ ())
     ·refine TLw (V_move rfl) ?_
      refine TLw (V_move rfl) ?_
      obtain ⟨h2,H⟩:=if_elim H
      obtain ⟨h3,H⟩:=if_elim H
      refine TLw (V_sliceVw0 (l:=0) (h:=(s0).toNat) rfl underlying22 inf3 rfl Bnd.none' (Bnd.some' (i:=s0) rfl h2) (Nat.zero_le _) (Nat.le_trans h3 hcxs)) ?_
      refine TLw (V_move rfl) ?_
      obtain ⟨h4,H⟩:=if_elim H
      obtain ⟨h5,H⟩:=if_elim H
      refine TL_re (d:=28) (v:=sl (cutB Axs cxs 0 0 1) (((s0).toNat) - 0) (cxs - 0)) (v':=sl (cutB Axs cxs 0 0 1) ((subL xs 0 ((s0).toNat)).length) (cxs - 0)) rfl (congrArg (fun n=>sl (cutB Axs cxs 0 0 1) n (cxs - 0)) (subL_length h5).symm) ?_
      obtain ⟨r_3,hr_3,H⟩:=bind_elim H
      refine TLu (E_c0 (F62_calls (cutB Axs cxs 0 0 1) (cxs - 0) (subL xs 0 ((s0).toNat)) x1 (vwL_cap h4 (Nat.le_trans h3 hcxs)) r_3 hr_3) call62 ⟨(srcdVwL (f:=vi) (lst:=xs) (SrcD.ro (j:=0) rfl) (Nat.le_trans h3 hcxs)),trivial⟩) (fun g_3=>?_)
      refine TL_re (d:=28) (v:=sl (cutB Axs cxs 0 0 1) ((subL xs 0 ((s0).toNat)).length) (cxs - 0)) (v':=sl (cutB Axs cxs 0 0 1) (((s0).toNat) - 0) (cxs - 0)) rfl (congrArg (fun n=>sl (cutB Axs cxs 0 0 1) n (cxs - 0)) (subL_length h5)) ?_
      refine TVf ?_
      refine TL_nil ?_
      obtain rfl:=sj H
      exact TXj [] (hJ ())
   ·refine TC_exit (TX_then_exit (TX_then_exit ?_))
    obtain rfl:=sj H
    exact TXj [] (hE () rfl ())
  ·rcases t_1 with t_1 | rv
   ·intro gx1
    dsimp only at H
    refine TX_block_exit (TX_next (TC_seq (TC_region (TVa ?_))))
    refine TL_nil (TX_next (TC_ret ?_))
    obtain rfl:=sj H
    exact TX1
   ·exact (Option.some.inj H)
set_option maxHeartbeats 4000000 in
set_option maxRecDepth 20000 in
theorem F43_fn2_45_calls (Axs:Adr) (cxs:Nat) (xs:List (Int)) (most:Int) (hcxs:(xs).length≤cxs) (r:Bool) (H:hello_each_fn2_45 xs most=some r) :
  Does Tryz.prog 43 [sl Axs ((xs).length) cxs,vi most,Value.func (.func 45) #[] #[]] [] [⟨Axs,eI xs⟩] (Γ:=Unit) (fun g=>vb r) (fun g=>[]):=by
 intro w hmem hro hd
 refine calls_of (N:=33) (m0:=[(0,sl Axs ((xs).length) cxs),(1,vi most),(2,Value.func (.func 45) #[] #[])]) func43 rfl ntmps43 (argM_ok [sl Axs ((xs).length) cxs,vi most,Value.func (.func 45) #[] #[]]) rfl hmem hro hd ?_
 unfold hello_each_fn2_45 at H
 refine TC_seq (TC_region (TVa ?_))
 refine TL_nil (TX_next (TC_seq (TC_seq (TC_region (TVm ?_)))))
 refine TLv (V_len_slice rfl underlying22) ?_
 refine TVm ?_
 obtain ⟨r_1,hr_1,H⟩:=bind_elim H
 refine TLe (E_c0 (F46_calls ((xs).length:Int) 1 most r_1 hr_1) call46 .z) (fun g_1=>?_)
 refine TLv (V_un rfl (fun w=>notB w r_1)) ?_
 refine TL_nil (TX_next (TCb H (fun hc H=>?_) (fun hc H=>?_)))
 ·refine TC_seq (TC_region (TVa ?_))
  refine TL_nil (TX_next (TC_ret (TX_then_ret ?_)))
  obtain rfl:=sj H
  exact TX1
 ·refine TC_skip (TX_next (TC_seq (TC_seq (TC_region (TVm ?_)))))
  refine TLv (V_len_slice rfl underlying22) ?_
  refine TVm ?_
  refine TL_nil (TX_next (TC_block ?_))
  obtain ⟨t_1,Hl,H⟩:=bind_elim H
  refine TC.sub (m':=[(0,_),(2,_),(14,_),(15,_),(16,_)]) ⟨rfl,rfl,rfl,rfl,rfl,trivial⟩ ?_
  refine TC.pull (is:=[]) (L':=[]) rfl ?_
  refine TC_loopR (id:=0) (body:=(hello_each_fn2_45.b0 xs)) (σ:=Int) (Γ:=Unit) (Γx:=Unit) (fun s0 g0_=>[(0,sl Axs ((xs).length) cxs),(2,Value.func (.func 45) #[] #[]),(14,sl Axs ((xs).length) cxs),(15,vi ((xs).length:Int)),(16,vi s0)]) (fun s0 g0_=>[]) (fun t g=>[]) (fun t g=>[]) r ?_ BIG 0 () t_1 Hl ?_
  ·intro s0 g0_ r1 H K hK hE hR1
   unfold hello_each_fn2_45.b0 at H
   refine TC_seq (TC_region (TLv (V_bin rfl rfl (fun w=>lssI w s0 ((xs).length:Int))) ?_))
   refine TL_nil (TX_next (TC_seq (TCd H (fun hc H=>?_) (fun hc H=>?_))))
   ·refine TC_skip (TX_next (TC_seq (TC_block (TC_seq (TC_region (TVm ?_))))))
    obtain ⟨h1,H⟩:=if_elim H
    refine TLv (V_idxSlS (i:=s0) rfl rfl underlying22 inf3 rfl (.r 0) (map_ne (toNat_lt h1.1 h1.2)) h1.1 h1.2 (k:=(s0).toNat) (km1 _)) ?_
    refine TLv (V_load rfl (.r 0) (get_map (f:=vi) (l:=xs) (toNat_lt h1.1 h1.2)) isAgg3) ?_
    refine TVa ?_
    refine TVa ?_
    obtain ⟨x1,hx1,H⟩:=ltt_elim H
    refine TLr 8 (congrArg vi hx1) ?_
    refine TL_nil (TX_next (TC_seq (TC_region (TVm ?_))))
    refine TVm ?_
    obtain ⟨r_2,hr_2,H⟩:=bind_elim H
    refine TLe (E_c0V (vs:=[vi x1]) (cap:=[]) (F45_calls x1 r_2 hr_2) call45 .z) (fun g_2=>?_)
    refine TLv (V_un rfl (fun w=>notB w r_2)) ?_
    refine TVm ?_
    obtain ⟨j1,Hj,H⟩:=bind_elim H
    refine TL_join (Γ:=Unit) (fun gj1=>[(0,sl Axs ((xs).length) cxs),(2,Value.func (.func 45) #[] #[]),(14,sl Axs ((xs).length) cxs),(15,vi ((xs).length:Int)),(16,vi s0),(31,vb j1)]) (fun gj1=>[]) ?_ ?_
    ·intro gj1
     refine TX_next (TCb H (fun hc H=>?_) (fun hc H=>?_))
     ·refine TC_seq (TC_region (TVa ?_))
      refine TL_nil (TX_next (TC_ret (TX_block_ret (TX_then_ret (TX_then_ret (TX_block_ret (TX_then_ret ?_)))))))
      have hrv:=(hR1 _ (Option.some.inj H).symm)
      subst hrv
      exact TX1
     ·refine TC_skip (TX_block_normal (TX_next (TC_region (TLv (V_bin rfl rfl (fun w=>addI w s0 1)) ?_))))
      refine TVm ?_
      refine TL_nil ?_
      obtain rfl:=sj H
      exact TXk [] (hK (w64 (s0+1)) rfl ())
    ·intro hJ
     replace H:=Hj
     refine TFb (d:=25) H (fun hc H=>?_) (fun hc H=>?_)
     ·refine TLs ?_
      refine TLs ?_
      refine TLs ?_
      refine TLs ?_
      refine TLs ?_
      refine TVt ?_
      refine TL_nil ?_
      obtain rfl:=sj H
      exact TXj [] (hJ ())
     ·refine TLw (V_move rfl) ?_
      refine TLw (V_move rfl) ?_
      obtain ⟨h2,H⟩:=if_elim H
      obtain ⟨h3,H⟩:=if_elim H
      refine TLw (V_sliceVw0 (l:=0) (h:=(s0).toNat) rfl underlying22 inf3 rfl Bnd.none' (Bnd.some' (i:=s0) rfl h2) (Nat.zero_le _) (Nat.le_trans h3 hcxs)) ?_
      refine TLw (V_move rfl) ?_
      obtain ⟨h4,H⟩:=if_elim H
      obtain ⟨h5,H⟩:=if_elim H
      refine TL_re (d:=28) (v:=sl (cutB Axs cxs 0 0 1) (((s0).toNat) - 0) (cxs - 0)) (v':=sl (cutB Axs cxs 0 0 1) ((subL xs 0 ((s0).toNat)).length) (cxs - 0)) rfl (congrArg (fun n=>sl (cutB Axs cxs 0 0 1) n (cxs - 0)) (subL_length h5).symm) ?_
      obtain ⟨r_3,hr_3,H⟩:=bind_elim H
      refine TLu (E_c0 (F62_calls (cutB Axs cxs 0 0 1) (cxs - 0) (subL xs 0 ((s0).toNat)) x1 (vwL_cap h4 (Nat.le_trans h3 hcxs)) r_3 hr_3) call62 ⟨(srcdVwL (f:=vi) (lst:=xs) (SrcD.ro (j:=0) rfl) (Nat.le_trans h3 hcxs)),trivial⟩) (fun g_3=>?_)
      refine TL_re (d:=28) (v:=sl (cutB Axs cxs 0 0 1) ((subL xs 0 ((s0).toNat)).length) (cxs - 0)) (v':=sl (cutB Axs cxs 0 0 1) (((s0).toNat) - 0) (cxs - 0)) rfl (congrArg (fun n=>sl (cutB Axs cxs 0 0 1) n (cxs - 0)) (subL_length h5)) ?_
      refine TVf ?_
      refine TL_nil ?_
      obtain rfl:=sj H
      exact TXj [] (hJ ())
   ·refine TC_exit (TX_then_exit (TX_then_exit ?_))
    obtain rfl:=sj H
    exact TXj [] (hE () rfl ())
  ·rcases t_1 with t_1 | rv
   ·intro gx1
    dsimp only at H
    refine TX_block_exit (TX_next (TC_seq (TC_region (TVa ?_))))
    refine TL_nil (TX_next (TC_ret ?_))
    obtain rfl:=sj H
    exact TX1
   ·exact (Option.some.inj H)
end Go.Proofs
end

section
namespace Go.Proofs
open Go Go.Kx
open Vector (replicate)
open TryzI Tryz
def num_modulus (which:Int):Option (Vx 64 4 × Bool) :=
 ltt (decide (which=0)) fun (x1:Bool)=>(if x1=true then (ltt ((#v[18446744073709551615#64,4294967295#64,0#64,18446744069414584321#64]:Vx 64 4)) fun (m_1:Vx 64 4)=>(some (m_1,true))) else (ltt (decide (which=1)) fun (x2:Bool)=>(if x2=true then (ltt ((#v[17562291160714782033#64,13611842547513532036#64,18446744073709551615#64,18446744069414584320#64]:Vx 64 4)) fun (m_2:Vx 64 4)=>(some (m_2,true))) else (ltt (decide (which=2)) fun (x3:Bool)=>(if x3=true then (ltt ((#v[18446744073709551597#64,18446744073709551615#64,18446744073709551615#64,9223372036854775807#64]:Vx 64 4)) fun (m_3:Vx 64 4)=>(some (m_3,true))) else (ltt ((replicate 4 0#64:Vx 64 4)) fun (m_4:Vx 64 4)=>(some (m_4,false))))))))
set_option maxHeartbeats 4000000 in
set_option maxRecDepth 20000 in
theorem F104_calls (which:Int) (r:Vx 64 4 × Bool) (H:num_modulus which=some r) :
  Does Tryz.prog 104 [vi which] [] [] (Γ:=Unit) (fun g=>Value.tuple [aG [(4,e64 r.1.toList)],vb r.2].toArray) (fun g=>[]):=by
 intro w hmem hro hd
 refine calls_of (N:=15) (m0:=[(0,vi which)]) func104 rfl ntmps104 (argM_ok [vi which]) rfl hmem hro hd ?_
 unfold num_modulus at H
 refine TC_seq (TC_region (TLe (E_al64 4 inf117 zer117) (fun b1=>?_)))
 refine TVa ?_
 refine TL_nil (TX_next (TC_seq (TC_seq (TC_region (TVm ?_)))))
 refine TL_nil (TX_next (TC_block (TC_seq (TC_region (TLv (V_bin rfl rfl (fun w=>eqlI w which 0)) ?_)))))
 refine TVa ?_
 obtain ⟨x1,hx1,H⟩:=ltt_elim H
 refine TLr 5 (congrArg vb hx1) ?_
 refine TL_nil (TX_next (TCb H (fun hc H=>?_) (fun hc H=>?_)))
 ·refine TC_seq (TC_region (TLv (V_buildArr (pv:=[(0,v64 18446744073709551615#64),(1,v64 4294967295#64),(2,v64 0#64),(3,v64 18446744069414584321#64)]) rfl rfl underlying117 inf117 inf115 rfl zer117 (cs:=e64 ((#v[18446744073709551615#64,4294967295#64,0#64,18446744069414584321#64]:Vx 64 4).toList)) (by kernel_rfl)) ?_))
  refine TLn (E_sv 0 inf117) (fun _=>?_)
  obtain ⟨m_1,hm_1,H⟩:=ltt_elim H
  refine TL_reE (j:=0) (A:=some (b1,0)) (cs:=e64 ((#v[18446744073709551615#64,4294967295#64,0#64,18446744069414584321#64]:Vx 64 4).toList)) (cs':=e64 m_1.toList) rfl (congrArg (fun z:Vx 64 4=>e64 (Vector.toList z)) hm_1) ?_
  refine TVa ?_
  refine TL_nil (TX_next (TC_ret (TX_block_ret (TX_then_ret ?_))))
  obtain rfl:=sj H
  exact TXr (vs:=[_,_]) rfl ⟨(Res_agg (n:=4) rfl (by simp) (.o 0) isAgg117 inf117 rfl (lenV (f:=v64) m_1)),rfl,trivial⟩
 ·refine TC_seq (TC_region (TLv (V_bin rfl rfl (fun w=>eqlI w which 1)) ?_))
  refine TVa ?_
  obtain ⟨x2,hx2,H⟩:=ltt_elim H
  refine TLr 8 (congrArg vb hx2) ?_
  refine TL_nil (TX_next (TCb H (fun hc H=>?_) (fun hc H=>?_)))
  ·refine TC_seq (TC_region (TLv (V_buildArr (pv:=[(0,v64 17562291160714782033#64),(1,v64 13611842547513532036#64),(2,v64 18446744073709551615#64),(3,v64 18446744069414584320#64)]) rfl rfl underlying117 inf117 inf115 rfl zer117 (cs:=e64 ((#v[17562291160714782033#64,13611842547513532036#64,18446744073709551615#64,18446744069414584320#64]:Vx 64 4).toList)) (by kernel_rfl)) ?_))
   refine TLn (E_sv 0 inf117) (fun _=>?_)
   obtain ⟨m_2,hm_2,H⟩:=ltt_elim H
   refine TL_reE (j:=0) (A:=some (b1,0)) (cs:=e64 ((#v[17562291160714782033#64,13611842547513532036#64,18446744073709551615#64,18446744069414584320#64]:Vx 64 4).toList)) (cs':=e64 m_2.toList) rfl (congrArg (fun z:Vx 64 4=>e64 (Vector.toList z)) hm_2) ?_
   refine TVa ?_
   refine TL_nil (TX_next (TC_ret (TX_block_ret (TX_then_ret ?_))))
   obtain rfl:=sj H
   exact TXr (vs:=[_,_]) rfl ⟨(Res_agg (n:=4) rfl (by simp) (.o 0) isAgg117 inf117 rfl (lenV (f:=v64) m_2)),rfl,trivial⟩
  ·refine TC_seq (TC_region (TLv (V_bin rfl rfl (fun w=>eqlI w which 2)) ?_))
   refine TVa ?_
   obtain ⟨x3,hx3,H⟩:=ltt_elim H
   refine TLr 11 (congrArg vb hx3) ?_
   refine TL_nil (TX_next (TCb H (fun hc H=>?_) (fun hc H=>?_)))
   ·refine TC_seq (TC_region (TLv (V_buildArr (pv:=[(0,v64 18446744073709551597#64),(1,v64 18446744073709551615#64),(2,v64 18446744073709551615#64),(3,v64 9223372036854775807#64)]) rfl rfl underlying117 inf117 inf115 rfl zer117 (cs:=e64 ((#v[18446744073709551597#64,18446744073709551615#64,18446744073709551615#64,9223372036854775807#64]:Vx 64 4).toList)) (by kernel_rfl)) ?_))
    refine TLn (E_sv 0 inf117) (fun _=>?_)
    obtain ⟨m_3,hm_3,H⟩:=ltt_elim H
    refine TL_reE (j:=0) (A:=some (b1,0)) (cs:=e64 ((#v[18446744073709551597#64,18446744073709551615#64,18446744073709551615#64,9223372036854775807#64]:Vx 64 4).toList)) (cs':=e64 m_3.toList) rfl (congrArg (fun z:Vx 64 4=>e64 (Vector.toList z)) hm_3) ?_
    refine TVa ?_
    refine TL_nil (TX_next (TC_ret (TX_block_ret (TX_then_ret ?_))))
    obtain rfl:=sj H
    exact TXr (vs:=[_,_]) rfl ⟨(Res_agg (n:=4) rfl (by simp) (.o 0) isAgg117 inf117 rfl (lenV (f:=v64) m_3)),rfl,trivial⟩
   ·refine TC_skip (TX_block_normal (TX_next (TC_seq (TC_region (TLv (V_buildArr (pv:=[]) rfl rfl underlying117 inf117 inf115 rfl zer117 (cs:=e64 ((replicate 4 0#64:Vx 64 4).toList)) (by kernel_rfl)) ?_)))))
    refine TLn (E_sv 0 inf117) (fun _=>?_)
    obtain ⟨m_4,hm_4,H⟩:=ltt_elim H
    refine TL_reE (j:=0) (A:=some (b1,0)) (cs:=e64 ((replicate 4 0#64:Vx 64 4).toList)) (cs':=e64 m_4.toList) rfl (congrArg (fun z:Vx 64 4=>e64 (Vector.toList z)) hm_4) ?_
    refine TVa ?_
    refine TL_nil (TX_next (TC_ret ?_))
    obtain rfl:=sj H
    exact TXr (vs:=[_,_]) rfl ⟨(Res_agg (n:=4) rfl (by simp) (.o 0) isAgg117 inf117 rfl (lenV (f:=v64) m_4)),rfl,trivial⟩
end Go.Proofs
end

section
namespace Go.Kx
open Go Go.Proofs
theorem V_ext {C:Ctx} {m:Sl} {L:Mem} {dst ty pos af gd} {xs:List Operand} {ats:Array TypeId} {f:FuncId} {vs:List Value} {v:Value}
  (hxs:evs m xs=some vs) (hx : ∀ w,(callFunc f vs.toArray).run C.P w = .ok (.value v) w) :
  OpV C ⟨dst, .call ⟨.value (.func f),xs.toArray,ats⟩,ty,pos,af,gd⟩ m L v:=fun a w hs=>by
 have hargs:xs.toArray.map a.eval=vs.toArray:=by simp [hs.slots.evs hxs]
 have hfv:a.eval (.func f) = .func (.func f) #[] #[]:=rfl
 simp only [execOp,resolve,hargs,hfv,Deferred.ofValue]
 simp [invoke,hx]
def math_bits_Add64 (x y c:BitVec 64):Option (BitVec 64 × BitVec 64) :=
 if c.toNat≤1 then some (BitVec.ofNat 64 (x.toNat+y.toNat+c.toNat),BitVec.ofNat 64 ((x.toNat+y.toNat+c.toNat) / 18446744073709551616)) else none
def math_bits_Sub64 (x y c:BitVec 64):Option (BitVec 64 × BitVec 64) :=
 if c.toNat≤1 then some (BitVec.ofNat 64 (x.toNat+18446744073709551616 - y.toNat - c.toNat),if x.toNat<y.toNat+c.toNat then 1#64 else 0#64) else none
theorem ext_add {P:Program} {f:FuncId} {fn:Func} (hf:P.funcs[f]? = some fn) (h1:(fn.name == "runtime.NumGoroutine")=false) (h2:fn.body.isNone=true) (h3:Extern.findNext fn=none)
  (h4:Extern.find fn=some add64Entry) {x y c:BitVec 64} {r:BitVec 64 × BitVec 64} (H:math_bits_Add64 x y c=some r) (w:World) :
  (callFunc f ([v64 x,v64 y,v64 c]:List Value).toArray).run P w = .ok (.value (.tuple #[v64 r.1,v64 r.2])) w:=by
 unfold math_bits_Add64 at H
 split at H
 ·rename_i hc
  cases H
  have hx:=x.isLt
  have hy:=y.isLt
  refine (run_callFunc_extern hf h1 h2 h3 h4 _ w).trans ?_
  have:=run_add64 (P:=P) (x.toNat:Int) y.toNat c.toNat (by omega) (by omega) (by omega) (by omega) w
  refine (congrArg (fun r=>Result.andThen r _) this).trans ?_
  have e1:((x.toNat:Int)+y.toNat+c.toNat) % 18446744073709551616=(((x.toNat+y.toNat+c.toNat) % 2 ^ 64:Nat):Int):=by omega
  have e2:((x.toNat:Int)+y.toNat+c.toNat) / 18446744073709551616=(((x.toNat+y.toNat+c.toNat) / 18446744073709551616 % 2 ^ 64:Nat):Int):=by omega
  rw [e1,e2]
  simp only [Result.andThen,v64,BitVec.toNat_ofNat]
 ·cases H
theorem ext_sub {P:Program} {f:FuncId} {fn:Func} (hf:P.funcs[f]? = some fn) (h1:(fn.name == "runtime.NumGoroutine")=false) (h2:fn.body.isNone=true) (h3:Extern.findNext fn=none)
  (h4:Extern.find fn=some sub64Entry) {x y c:BitVec 64} {r:BitVec 64 × BitVec 64} (H:math_bits_Sub64 x y c=some r) (w:World) :
  (callFunc f ([v64 x,v64 y,v64 c]:List Value).toArray).run P w = .ok (.value (.tuple #[v64 r.1,v64 r.2])) w:=by
 unfold math_bits_Sub64 at H
 split at H
 ·rename_i hc
  cases H
  refine (run_callFunc_extern hf h1 h2 h3 h4 _ w).trans ?_
  have:=run_sub64 (P:=P) x.toNat y.toNat c.toNat hc w
  refine (congrArg (fun r=>Result.andThen r _) this).trans ?_
  simp only [Result.andThen,v64,BitVec.toNat_ofNat]
  congr 5
  split <;> rfl
 ·cases H
end Go.Kx
end

section
namespace Go.Kx
open Go
variable {P:Program} {t e:TypeId} {x y:Operand}
theorem run_part {cs:Array Value} {off:Nat} {k:IntKind} {v:Value} (w:World) (he:P.underlying e=some (.int k)) (hv:cs[off]? = some v):(part e cs off).run P w = .ok v w:=by
 simp [part,isAgg,Sem.run_bind,run_underlying he,hv]
theorem eq_int (w:World) (d:Nat) {k:IntKind} (a b:Int) (he:P.underlying e=some (.int k)):(Op.equalIn (d+1) e (.int k a) (.int k b)).run P w = .ok (a == b) w:=by
 simp [Op.equalIn,Sem.run_bind,run_underlying he]
theorem eq_loop (w:World) (d:Nat) {k:IntKind} (he:P.underlying e=some (.int k)) (xs ys:List Int) :
  ∀ (l:List Nat),(∀ i ∈ l,i<xs.length∧i<ys.length) →
  (forIn (m:=Sem) l (none,PUnit.unit) (fun i (_:Option Bool × PUnit)=>do
   if !(← Op.equalIn (d+1) e (← part e (xs.map (Value.int k)).toArray (i * 1)) (← part e (ys.map (Value.int k)).toArray (i * 1))) then pure (ForInStep.done (some false,PUnit.unit))
   else pure (ForInStep.yield (none,PUnit.unit)))).run P w = .ok (if l.all (fun i=>xs.getD i 0 == ys.getD i 0) then none else some false,PUnit.unit) w
 | [],_=>by simp [Sem.run]
 | i :: l,h=>by
  have hi:=h i (by simp)
  have h1:(xs.map (Value.int k)).toArray[i * 1]? = some (.int k (xs.getD i 0)):=by simp [hi.1,List.getD]
  have h2:(ys.map (Value.int k)).toArray[i * 1]? = some (.int k (ys.getD i 0)):=by simp [hi.2,List.getD]
  have ih:=eq_loop w d he xs ys l (fun j hj=>h j (by simp [hj]))
  rw [List.forIn_cons]
  simp only [Sem.run_bind,run_part w he h1,run_part w he h2,eq_int w d _ _ he,Result.andThen_ok]
  cases hb:xs.getD i 0 == ys.getD i 0
  ·have e0:(i :: l).all (fun i=>xs.getD i 0 == ys.getD i 0)=false:=by rw [List.all_cons,hb]; rfl
   rw [e0]; rfl
  ·have e0:(i :: l).all (fun i=>xs.getD i 0 == ys.getD i 0)=l.all (fun i=>xs.getD i 0 == ys.getD i 0):=by rw [List.all_cons,hb]; rfl
   rw [e0]; exact ih
theorem eqA0 (w:World) (d:Nat) {n:Nat} {k:IntKind} (ht:P.underlying t=some (.array n e)) (he:P.underlying e=some (.int k)) (hs:(sizeOf e).run P w = .ok 1 w) (xs ys:List Int) (hx:xs.length=n) (hy:ys.length=n) :
  (Op.equalIn (d+2) t (.agg (xs.map (Value.int k)).toArray) (.agg (ys.map (Value.int k)).toArray)).run P w = .ok (decide (xs=ys)) w:=by
 have hl:=eq_loop (P:=P) w d he xs ys (List.range' 0 n) (fun i hi=>by simp at hi; omega)
 have hq:(List.range' 0 n).all (fun i=>xs.getD i 0 == ys.getD i 0)=decide (xs=ys):=by
  rw [Bool.eq_iff_iff,List.all_eq_true,decide_eq_true_eq]
  constructor
  ·intro h
   refine List.ext_getElem (by omega) fun i h1 h2=>?_
   have:=h i (by simp; omega)
   simpa [List.getD,h1,h2] using this
  ·rintro rfl i _
   simp
 rw [hq] at hl
 have hz:(List.range' 0 [:n].size)=List.range' 0 n:=by simp [Std.Legacy.Range.size]
 unfold Op.equalIn
 simp only [Sem.run_bind,run_underlying ht,Result.andThen_ok,hs]
 simp only [Std.Legacy.Range.forIn_eq_forIn_range']
 rw [hz]
 refine (congrArg (fun r=>Result.andThen r _) hl).trans ?_
 simp only [Result.andThen_ok]
 by_cases c:xs=ys
 ·simp [c,Sem.run]
 ·simp [c,Sem.run]
theorem guard_agg (w:World) {op:BinOp} {xs ys:Array Value} (hg:P.eqGuardType P.depth t=false):(eqGuard op t x y (.agg xs) (.agg ys)).run P w = .ok () w:=by
 cases op <;> simp [eqGuard,Sem.run_bind,program,Sem.run,hg]
theorem e64_ints (l:List (BitVec 64)):e64 l=(l.map fun v=>(v.toNat:Int)).map (Value.int .u64):=by simp [e64,v64,Function.comp_def]
theorem inj64 {n:Nat} (a b:Vector (BitVec 64) n):(a.toList.map fun v=>(v.toNat:Int))=(b.toList.map fun v=>(v.toNat:Int)) ↔ a=b:=by
 constructor
 ·intro h
  have:=List.map_inj_right (f:=fun v:BitVec 64=>(v.toNat:Int)) (fun x y hxy=>BitVec.eq_of_toNat_eq (Int.ofNat_inj.1 hxy)) |>.1 h
  exact Vector.toList_inj.1 this
 ·rintro rfl; rfl
theorem eqlA (w:World) {n:Nat} (ht:P.underlying t=some (.array n e)) (he:P.underlying e=some (.int .u64)) (hs:(sizeOf e).run P w = .ok 1 w) (hg:P.eqGuardType P.depth t=false) (a b:Vector (BitVec 64) n) :
  (binG .eql t x y (.agg (e64 a.toList).toArray) (.agg (e64 b.toList).toArray)).run P w = .ok (vb (decide (a=b))) w:=binG_of w (guard_agg w hg) (by
 rw [e64_ints,e64_ints]
 have h:=eqA0 w 9998 ht he hs (a.toList.map fun v=>(v.toNat:Int)) (b.toList.map fun v=>(v.toNat:Int)) (by simp) (by simp)
 show ((Op.equalIn (9998+2) t _ _) >>= fun r=>pure (Value.bool r)).run P w=_
 rw [Sem.run_bind,h]; simp [vb,inj64])
end Go.Kx
end

section
namespace Go.Proofs
open Go Go.Kx
open Vector (replicate)
open TryzI Tryz
def num_add.b0 (x:Vx 64 4) (y:Vx 64 4) (s0:BitVec 64 × Int × Vx 64 4):Option ((BitVec 64 × Int × Vx 64 4) ⊕ (BitVec 64 × Vx 64 4)) :=
 if s0.2.1<4 then (if 0≤s0.2.1∧s0.2.1<(4:Int) then (if 0≤s0.2.1∧s0.2.1<(4:Int) then ((math_bits_Add64 (vg x ((s0.2.1).toNat)) (vg y ((s0.2.1).toNat)) s0.1).bind fun (r_1:BitVec 64 × BitVec 64)=>(if 0≤s0.2.1∧s0.2.1<(4:Int) then (ltt (vp s0.2.2 ((s0.2.1).toNat) r_1.1) fun (m_1:Vx 64 4)=>(some (.inl (r_1.2,w64 (s0.2.1+1),m_1)))) else none)) else none) else none) else (some (.inr (s0.1,s0.2.2)))
def num_add (x:Vx 64 4) (y:Vx 64 4):Option (Vx 64 4 × BitVec 64) :=
 (loop (num_add.b0 x y) BIG (0#64,0,replicate 4 0#64)).bind fun (t_1:BitVec 64 × Vx 64 4)=>(some (t_1.2,t_1.1))
set_option maxHeartbeats 4000000 in
set_option maxRecDepth 20000 in
theorem F124_calls (x:Vx 64 4) (y:Vx 64 4) (r:Vx 64 4 × BitVec 64) (H:num_add x y=some r) :
  Does Tryz.prog 124 [aG [(4,e64 x.toList)],aG [(4,e64 y.toList)]] [] [] (Γ:=Unit) (fun g=>Value.tuple [aG [(4,e64 r.1.toList)],v64 r.2].toArray) (fun g=>[]):=by
 intro w hmem hro hd
 refine calls_of (N:=28) (m0:=[(0,aG [(4,e64 x.toList)]),(1,aG [(4,e64 y.toList)])]) func124 rfl ntmps124 (argM_ok [aG [(4,e64 x.toList)],aG [(4,e64 y.toList)]]) rfl hmem hro hd ?_
 unfold num_add at H
 refine TC_seq (TC_region (TLe (E_boxP [(4,e64 x.toList)] rfl rfl ⟨(lenV (f:=v64) x),trivial⟩) (fun b1=>?_)))
 refine TLe (E_boxP [(4,e64 y.toList)] rfl rfl ⟨(lenV (f:=v64) y),trivial⟩) (fun b2=>?_)
 refine TLe (E_al64 4 inf117 zer117) (fun b3=>?_)
 refine TVa ?_
 refine TL_nil (TX_next (TC_seq (TC_region (TLe (E_al64 4 inf117 zer117) (fun b4=>?_)))))
 refine TL_nil (TX_next (TC_seq (TC_region (TVa ?_))))
 refine TL_nil (TX_next (TC_seq (TC_seq (TC_region (TVm ?_)))))
 refine TL_nil (TX_next (TC_block ?_))
 obtain ⟨t_1,Hl,H⟩:=bind_elim H
 refine TC.sub (m':=[(2,_),(3,_),(4,_),(6,_),(7,_),(9,_)]) ⟨rfl,rfl,rfl,rfl,rfl,rfl,trivial⟩ ?_
 refine TC.pull (is:=[3,2,1,0]) (L':=[_,_,_,_]) rfl ?_
 refine TC_loopL (id:=0) (body:=(num_add.b0 x y)) (σ:=BitVec 64 × Int × Vx 64 4) (Γ:=Unit) (Γx:=Unit) (fun s0 g0_=>[(2,ptr (some (b1,0)) 0),(3,ptr (some (b2,0)) 0),(4,ptr (some (b3,0)) 0),(6,ptr (some (b4,0)) 0),(7,v64 s0.1),(9,vi s0.2.1)]) (fun s0 g0_=>[⟨some (b1,0),e64 x.toList⟩,⟨some (b2,0),e64 y.toList⟩,⟨some (b3,0),e64 ((replicate 4 0#64).toList)⟩,⟨some (b4,0),e64 s0.2.2.toList⟩]) (fun t g=>[(4,ptr (some (b3,0)) 0),(6,ptr (some (b4,0)) 0),(7,v64 t.1)]) (fun t g=>[⟨some (b3,0),e64 ((replicate 4 0#64).toList)⟩,⟨some (b4,0),e64 t.2.toList⟩]) ?_ BIG (0#64,0,replicate 4 0#64) () t_1 Hl ?_
 ·intro s0 g0_ r1 H K hK hE
  unfold num_add.b0 at H
  refine TC_seq (TC_region (TLv (V_bin rfl rfl (fun w=>lssI w s0.2.1 4)) ?_))
  refine TL_nil (TX_next (TC_seq (TCd H (fun hc H=>?_) (fun hc H=>?_))))
  ·refine TC_skip (TX_next (TC_seq (TC_block (TC_seq (TC_region (TVm ?_))))))
   refine TVa ?_
   refine TL_nil (TX_next ?_)
   obtain ⟨h1,H⟩:=if_elim H
   obtain ⟨h2,H⟩:=if_elim H
   obtain ⟨r_1,hr_1,H⟩:=bind_elim H
   obtain ⟨h3,H⟩:=if_elim H
   obtain ⟨m_1,hm_1,H⟩:=ltt_elim H
   refine TA_begin [⟨some (b1,0),e64 x.toList⟩,⟨some (b2,0),e64 y.toList⟩,⟨some (b3,0),e64 ((replicate 4 0#64).toList)⟩] 14 (by kernel_rfl) (N:=15) rfl ?_
   refine TA_tk 0 [0,0,0] (dn 15 1) rfl rfl (V_move rfl) ?_
   refine TA_tk 1 [0,0,0] (dn 15 3) rfl rfl (V_move rfl) ?_
   refine TA_tk 2 [0,0,0] (dn 15 7) rfl rfl (V_idxArr (i:=s0.2.1) rfl rfl underlying117 inf115 rfl h1.1 h1.2 (k:=(s0.2.1).toNat) (k01 _)) ?_
   refine TA_tk 3 [0,0,0] (dn 15 15) rfl rfl (V_load rfl (.o 0) (get_vec (f:=v64) (V:=x) (toNat_lt h1.1 h1.2)) isAgg115) ?_
   refine TA_tk 4 [0,0,0] (dn 15 31) rfl rfl (V_move rfl) ?_
   refine TA_tk 5 [0,0,0] (dn 15 63) rfl rfl (V_idxArr (i:=s0.2.1) rfl rfl underlying117 inf115 rfl h2.1 h2.2 (k:=(s0.2.1).toNat) (k01 _)) ?_
   refine TA_tk 6 [0,0,0] (dn 15 127) rfl rfl (V_load rfl (.o 1) (get_vec (f:=v64) (V:=y) (toNat_lt h2.1 h2.2)) isAgg115) ?_
   refine TA_tk 7 [0,0,0] (dn 15 255) rfl rfl (V_move rfl) ?_
   refine TA_tk 8 [0,0,0] (dn 15 511) rfl rfl (V_ext rfl (ext_add Tryz.func139 rfl rfl rfl rfl hr_1)) ?_
   refine TA_tk 9 [0,0,0] (dn 15 1023) rfl rfl (V_move rfl) ?_
   refine TA_tk 10 [0,0,0] (dn 15 2047) rfl rfl V_ex ?_
   refine TA_tk 11 [0,0,0] (dn 15 4095) rfl rfl V_ex ?_
   refine TA_tk 12 [0,0,0] (dn 15 8191) rfl rfl (V_idxArr (i:=s0.2.1) rfl rfl underlying117 inf115 rfl h3.1 h3.2 (k:=(s0.2.1).toNat) (k01 _)) ?_
   refine TA_all (rs:=[13]) (by kernel_rfl) rfl ?_
   refine ⟨?_,trivial⟩
   refine TO_n (is:=[0,0,0]) (done':=dn 15 16383) rfl rfl rfl (by kernel_rfl) (E_store (j:=3) rfl rfl inf115 rfl rfl rfl (by simpa using (toNat_lt h3.1 h3.2)) (cs':=e64 ((vp s0.2.2 ((s0.2.1).toNat) r_1.1).toList)) set_vec) (fun _ _=>rfl) (fun _=>?_)
   refine TA_reE (j:=3) (A:=some (b4,0)) (cs:=e64 ((vp s0.2.2 ((s0.2.1).toNat) r_1.1).toList)) (cs':=e64 m_1.toList) rfl (congrArg (fun z:Vx 64 4=>e64 (Vector.toList z)) hm_1) ?_
   refine TA_all (rs:=[14]) (by kernel_rfl) rfl ?_
   refine ⟨?_,trivial⟩
   refine TO_v (is:=[]) (R:=[]) (done':=dn 15 32767) rfl rfl rfl rfl (by kernel_rfl) (V_assign rfl) (fun h=>by cases h) ?_
   refine TA_done (by kernel_rfl) ?_ 0
   refine TX_block_normal (TX_next (TC_region (TLv (V_bin rfl rfl (fun w=>addI w s0.2.1 1)) ?_)))
   refine TVm ?_
   refine TL_nil ?_
   obtain rfl:=sj H
   exact TXk [0,0,0,0] (hK (r_1.2,w64 (s0.2.1+1),m_1) rfl ())
  ·refine TC_exit (TX_then_exit (TX_then_exit ?_))
   obtain rfl:=sj H
   exact TXj [2,2] (hE (s0.1,s0.2.2) rfl ())
 ·intro g
  refine TX_block_exit (TX_next (TC_seq (TC_region (TLv (V_lag (.o 1) isAgg117 inf117) ?_))))
  refine TVm ?_
  refine TLn (E_sv (vs:=e64 t_1.2.toList) 0 inf117) (fun _=>?_)
  refine TVa ?_
  refine TL_nil (TX_next (TC_ret ?_))
  obtain rfl:=sj H
  exact TXr (vs:=[_,_]) rfl ⟨(Res_agg (n:=4) rfl (by simp) (.o 0) isAgg117 inf117 rfl (lenV (f:=v64) t_1.2)),rfl,trivial⟩
end Go.Proofs
end

section
namespace Go.Proofs
open Go Go.Kx
open Vector (replicate)
open TryzI Tryz
def num_sub.b0 (x:Vx 64 4) (y:Vx 64 4) (s0:BitVec 64 × Int × Vx 64 4):Option ((BitVec 64 × Int × Vx 64 4) ⊕ (BitVec 64 × Vx 64 4)) :=
 if s0.2.1<4 then (if 0≤s0.2.1∧s0.2.1<(4:Int) then (if 0≤s0.2.1∧s0.2.1<(4:Int) then ((math_bits_Sub64 (vg x ((s0.2.1).toNat)) (vg y ((s0.2.1).toNat)) s0.1).bind fun (r_1:BitVec 64 × BitVec 64)=>(if 0≤s0.2.1∧s0.2.1<(4:Int) then (ltt (vp s0.2.2 ((s0.2.1).toNat) r_1.1) fun (m_1:Vx 64 4)=>(some (.inl (r_1.2,w64 (s0.2.1+1),m_1)))) else none)) else none) else none) else (some (.inr (s0.1,s0.2.2)))
def num_sub (x:Vx 64 4) (y:Vx 64 4):Option (Vx 64 4 × BitVec 64) :=
 (loop (num_sub.b0 x y) BIG (0#64,0,replicate 4 0#64)).bind fun (t_1:BitVec 64 × Vx 64 4)=>(some (t_1.2,t_1.1))
set_option maxHeartbeats 4000000 in
set_option maxRecDepth 20000 in
theorem F125_calls (x:Vx 64 4) (y:Vx 64 4) (r:Vx 64 4 × BitVec 64) (H:num_sub x y=some r) :
  Does Tryz.prog 125 [aG [(4,e64 x.toList)],aG [(4,e64 y.toList)]] [] [] (Γ:=Unit) (fun g=>Value.tuple [aG [(4,e64 r.1.toList)],v64 r.2].toArray) (fun g=>[]):=by
 intro w hmem hro hd
 refine calls_of (N:=28) (m0:=[(0,aG [(4,e64 x.toList)]),(1,aG [(4,e64 y.toList)])]) func125 rfl ntmps125 (argM_ok [aG [(4,e64 x.toList)],aG [(4,e64 y.toList)]]) rfl hmem hro hd ?_
 unfold num_sub at H
 refine TC_seq (TC_region (TLe (E_boxP [(4,e64 x.toList)] rfl rfl ⟨(lenV (f:=v64) x),trivial⟩) (fun b1=>?_)))
 refine TLe (E_boxP [(4,e64 y.toList)] rfl rfl ⟨(lenV (f:=v64) y),trivial⟩) (fun b2=>?_)
 refine TLe (E_al64 4 inf117 zer117) (fun b3=>?_)
 refine TVa ?_
 refine TL_nil (TX_next (TC_seq (TC_region (TLe (E_al64 4 inf117 zer117) (fun b4=>?_)))))
 refine TL_nil (TX_next (TC_seq (TC_region (TVa ?_))))
 refine TL_nil (TX_next (TC_seq (TC_seq (TC_region (TVm ?_)))))
 refine TL_nil (TX_next (TC_block ?_))
 obtain ⟨t_1,Hl,H⟩:=bind_elim H
 refine TC.sub (m':=[(2,_),(3,_),(4,_),(6,_),(7,_),(9,_)]) ⟨rfl,rfl,rfl,rfl,rfl,rfl,trivial⟩ ?_
 refine TC.pull (is:=[3,2,1,0]) (L':=[_,_,_,_]) rfl ?_
 refine TC_loopL (id:=0) (body:=(num_sub.b0 x y)) (σ:=BitVec 64 × Int × Vx 64 4) (Γ:=Unit) (Γx:=Unit) (fun s0 g0_=>[(2,ptr (some (b1,0)) 0),(3,ptr (some (b2,0)) 0),(4,ptr (some (b3,0)) 0),(6,ptr (some (b4,0)) 0),(7,v64 s0.1),(9,vi s0.2.1)]) (fun s0 g0_=>[⟨some (b1,0),e64 x.toList⟩,⟨some (b2,0),e64 y.toList⟩,⟨some (b3,0),e64 ((replicate 4 0#64).toList)⟩,⟨some (b4,0),e64 s0.2.2.toList⟩]) (fun t g=>[(4,ptr (some (b3,0)) 0),(6,ptr (some (b4,0)) 0),(7,v64 t.1)]) (fun t g=>[⟨some (b3,0),e64 ((replicate 4 0#64).toList)⟩,⟨some (b4,0),e64 t.2.toList⟩]) ?_ BIG (0#64,0,replicate 4 0#64) () t_1 Hl ?_
 ·intro s0 g0_ r1 H K hK hE
  unfold num_sub.b0 at H
  refine TC_seq (TC_region (TLv (V_bin rfl rfl (fun w=>lssI w s0.2.1 4)) ?_))
  refine TL_nil (TX_next (TC_seq (TCd H (fun hc H=>?_) (fun hc H=>?_))))
  ·refine TC_skip (TX_next (TC_seq (TC_block (TC_seq (TC_region (TVm ?_))))))
   refine TVa ?_
   refine TL_nil (TX_next ?_)
   obtain ⟨h1,H⟩:=if_elim H
   obtain ⟨h2,H⟩:=if_elim H
   obtain ⟨r_1,hr_1,H⟩:=bind_elim H
   obtain ⟨h3,H⟩:=if_elim H
   obtain ⟨m_1,hm_1,H⟩:=ltt_elim H
   refine TA_begin [⟨some (b1,0),e64 x.toList⟩,⟨some (b2,0),e64 y.toList⟩,⟨some (b3,0),e64 ((replicate 4 0#64).toList)⟩] 14 (by kernel_rfl) (N:=15) rfl ?_
   refine TA_tk 0 [0,0,0] (dn 15 1) rfl rfl (V_move rfl) ?_
   refine TA_tk 1 [0,0,0] (dn 15 3) rfl rfl (V_move rfl) ?_
   refine TA_tk 2 [0,0,0] (dn 15 7) rfl rfl (V_idxArr (i:=s0.2.1) rfl rfl underlying117 inf115 rfl h1.1 h1.2 (k:=(s0.2.1).toNat) (k01 _)) ?_
   refine TA_tk 3 [0,0,0] (dn 15 15) rfl rfl (V_load rfl (.o 0) (get_vec (f:=v64) (V:=x) (toNat_lt h1.1 h1.2)) isAgg115) ?_
   refine TA_tk 4 [0,0,0] (dn 15 31) rfl rfl (V_move rfl) ?_
   refine TA_tk 5 [0,0,0] (dn 15 63) rfl rfl (V_idxArr (i:=s0.2.1) rfl rfl underlying117 inf115 rfl h2.1 h2.2 (k:=(s0.2.1).toNat) (k01 _)) ?_
   refine TA_tk 6 [0,0,0] (dn 15 127) rfl rfl (V_load rfl (.o 1) (get_vec (f:=v64) (V:=y) (toNat_lt h2.1 h2.2)) isAgg115) ?_
   refine TA_tk 7 [0,0,0] (dn 15 255) rfl rfl (V_move rfl) ?_
   refine TA_tk 8 [0,0,0] (dn 15 511) rfl rfl (V_ext rfl (ext_sub Tryz.func140 rfl rfl rfl rfl hr_1)) ?_
   refine TA_tk 9 [0,0,0] (dn 15 1023) rfl rfl (V_move rfl) ?_
   refine TA_tk 10 [0,0,0] (dn 15 2047) rfl rfl V_ex ?_
   refine TA_tk 11 [0,0,0] (dn 15 4095) rfl rfl V_ex ?_
   refine TA_tk 12 [0,0,0] (dn 15 8191) rfl rfl (V_idxArr (i:=s0.2.1) rfl rfl underlying117 inf115 rfl h3.1 h3.2 (k:=(s0.2.1).toNat) (k01 _)) ?_
   refine TA_all (rs:=[13]) (by kernel_rfl) rfl ?_
   refine ⟨?_,trivial⟩
   refine TO_n (is:=[0,0,0]) (done':=dn 15 16383) rfl rfl rfl (by kernel_rfl) (E_store (j:=3) rfl rfl inf115 rfl rfl rfl (by simpa using (toNat_lt h3.1 h3.2)) (cs':=e64 ((vp s0.2.2 ((s0.2.1).toNat) r_1.1).toList)) set_vec) (fun _ _=>rfl) (fun _=>?_)
   refine TA_reE (j:=3) (A:=some (b4,0)) (cs:=e64 ((vp s0.2.2 ((s0.2.1).toNat) r_1.1).toList)) (cs':=e64 m_1.toList) rfl (congrArg (fun z:Vx 64 4=>e64 (Vector.toList z)) hm_1) ?_
   refine TA_all (rs:=[14]) (by kernel_rfl) rfl ?_
   refine ⟨?_,trivial⟩
   refine TO_v (is:=[]) (R:=[]) (done':=dn 15 32767) rfl rfl rfl rfl (by kernel_rfl) (V_assign rfl) (fun h=>by cases h) ?_
   refine TA_done (by kernel_rfl) ?_ 0
   refine TX_block_normal (TX_next (TC_region (TLv (V_bin rfl rfl (fun w=>addI w s0.2.1 1)) ?_)))
   refine TVm ?_
   refine TL_nil ?_
   obtain rfl:=sj H
   exact TXk [0,0,0,0] (hK (r_1.2,w64 (s0.2.1+1),m_1) rfl ())
  ·refine TC_exit (TX_then_exit (TX_then_exit ?_))
   obtain rfl:=sj H
   exact TXj [2,2] (hE (s0.1,s0.2.2) rfl ())
 ·intro g
  refine TX_block_exit (TX_next (TC_seq (TC_region (TLv (V_lag (.o 1) isAgg117 inf117) ?_))))
  refine TVm ?_
  refine TLn (E_sv (vs:=e64 t_1.2.toList) 0 inf117) (fun _=>?_)
  refine TVa ?_
  refine TL_nil (TX_next (TC_ret ?_))
  obtain rfl:=sj H
  exact TXr (vs:=[_,_]) rfl ⟨(Res_agg (n:=4) rfl (by simp) (.o 0) isAgg117 inf117 rfl (lenV (f:=v64) t_1.2)),rfl,trivial⟩
end Go.Proofs
end

section
namespace Go.Proofs
open Go Go.Kx
open Vector (replicate)
open TryzI Tryz
def num_Field_Add (f_M:Vx 64 4) (f_inv:BitVec 64) (f_one:Vx 64 4) (f_two:Vx 64 4) (x:Vx 64 4) (y:Vx 64 4):Option (Vx 64 4) :=
 (num_add x y).bind fun (r_1:Vx 64 4 × BitVec 64)=>((num_sub r_1.1 f_M).bind fun (r_2:Vx 64 4 × BitVec 64)=>((if r_1.2=1#64 then (some true) else (some (decide (r_2.2=0#64)))).bind fun (j1:Bool)=>(if j1=true then (some r_2.1) else (some r_1.1))))
set_option maxHeartbeats 4000000 in
set_option maxRecDepth 20000 in
theorem F105_calls (bf:Nat) (obf:Nat) (f_M:Vx 64 4) (f_inv:BitVec 64) (f_one:Vx 64 4) (f_two:Vx 64 4) (x:Vx 64 4) (y:Vx 64 4) (r:Vx 64 4) (H:num_Field_Add f_M f_inv f_one f_two x y=some r) :
  Does Tryz.prog 105 [ptr (some (bf,obf)) 0,aG [(4,e64 x.toList)],aG [(4,e64 y.toList)]] [] [⟨some (bf,obf),e64 f_M.toList⟩,⟨some (bf,obf+4),[v64 f_inv]⟩,⟨some (bf,obf+5),e64 f_one.toList⟩,⟨some (bf,obf+9),e64 f_two.toList⟩] (Γ:=Unit) (fun g=>aG [(4,e64 r.toList)]) (fun g=>[]):=by
 intro w hmem hro hd
 refine calls_of (N:=34) (m0:=[(0,ptr (some (bf,obf)) 0),(1,aG [(4,e64 x.toList)]),(2,aG [(4,e64 y.toList)])]) func105 rfl ntmps105 (argM_ok [ptr (some (bf,obf)) 0,aG [(4,e64 x.toList)],aG [(4,e64 y.toList)]]) rfl hmem hro hd ?_
 unfold num_Field_Add at H
 refine TC_seq (TC_region (TLe (E_boxP [(4,e64 x.toList)] rfl rfl ⟨(lenV (f:=v64) x),trivial⟩) (fun b1=>?_)))
 refine TLe (E_boxP [(4,e64 y.toList)] rfl rfl ⟨(lenV (f:=v64) y),trivial⟩) (fun b2=>?_)
 refine TLe (E_al64 4 inf117 zer117) (fun b3=>?_)
 refine TL_nil (TX_next (TC_seq (TC_region (TLv (V_lag (.o 2) isAgg117 inf117) ?_))))
 refine TLv (V_lag (.o 1) isAgg117 inf117) ?_
 obtain ⟨r_1,hr_1,H⟩:=bind_elim H
 refine TLe (E_c0 (F124_calls x y r_1 hr_1) call124 .z) (fun g_1=>?_)
 refine TVm ?_
 refine TLv V_ex ?_
 refine TLv V_ex ?_
 refine TLe (E_al64 4 inf117 zer117) (fun b4=>?_)
 refine TLn (E_sv (vs:=e64 r_1.1.toList) 0 inf117) (fun _=>?_)
 refine TVa ?_
 refine TL_nil (TX_next (TC_seq (TC.sub (m':=[(0,_),(6,_),(7,_),(8,_)]) ⟨rfl,rfl,rfl,rfl,trivial⟩ ?_)))
 refine TC.pull (is:=[1,0]) (L':=[_,_]) rfl ?_
 obtain ⟨r_2,hr_2,H⟩:=bind_elim H
 refine TA_begin [⟨some (b3,0),e64 ((replicate 4 0#64).toList)⟩,⟨some (b4,0),e64 r_1.1.toList⟩] 11 (by kernel_rfl) (N:=12) rfl ?_
 refine TA_tk 0 [0,0] (dn 12 1) rfl rfl (V_lag (.o 1) isAgg117 inf117) ?_
 refine TA_tk 1 [0,0] (dn 12 3) rfl rfl (V_move rfl) ?_
 refine TA_tk 2 [0,0] (dn 12 7) rfl rfl (V_nilCheck rfl) ?_
 refine TA_tk 3 [0,0] (dn 12 15) rfl rfl (V_fieldE rfl underlying159 rfl rfl inf117 rfl (v:=ptr (some (bf,obf)) 0) rfl) ?_
 refine TA_tk 4 [0,0] (dn 12 31) rfl rfl (V_lag (.r 0) isAgg117 inf117) ?_
 refine TA_mix (is:=[0,0]) (done':=dn 12 1023) [itV 5 23 (Value.tuple [aG [(4,e64 r_2.1.toList)],v64 r_2.2].toArray) [],itV 6 17 (Value.tuple [aG [(4,e64 r_2.1.toList)],v64 r_2.2].toArray) [5],itV 7 24 (aG [(4,e64 r_2.1.toList)]) [6],itA64 9 9 4] [itV 8 25 (v64 r_2.2) [6]] 2 (by kernel_rfl) (QP.then QP.body) (by kernel_rfl) rfl (.e rfl (E_cu (F125_calls r_1.1 f_M r_2 hr_2) call125 .z) (.v rfl (V_move rfl) (.v rfl V_ex (.c rfl (fun _ _=>(E_al64 4 inf117 zer117)) .nil)))) (.c rfl (fun _=>V_ex) .nil) (by kernel_rfl) rfl (fun γ=>?_)
 refine TA_cut [(25,v64 r_2.2),(9,ptr (some ((γ 9),0)) 0),(24,aG [(4,e64 r_2.1.toList)]),(6,ptr (some (b3,0)) 0),(7,ptr (some (b4,0)) 0),(8,v64 r_1.2)] [⟨some ((γ 9),0),e64 ((replicate 4 0#64).toList)⟩,⟨some (b3,0),e64 ((replicate 4 0#64).toList)⟩,⟨some (b4,0),e64 r_1.1.toList⟩] ⟨rfl,rfl,rfl,rfl,rfl,rfl,trivial⟩ rfl ?_
 generalize γ 9=b5
 refine TA_all (rs:=[10]) (by kernel_rfl) rfl ?_
 refine ⟨?_,trivial⟩
 refine TO_n (is:=[1,1]) (done':=dn 12 2047) rfl rfl rfl (by kernel_rfl) (E_sv (vs:=e64 r_2.1.toList) 0 inf117) (fun _ _=>rfl) (fun _=>?_)
 refine TA_all (rs:=[11]) (by kernel_rfl) rfl ?_
 refine ⟨?_,trivial⟩
 refine TO_v (is:=[]) (R:=[]) (done':=dn 12 4095) rfl rfl rfl rfl (by kernel_rfl) (V_assign rfl) (fun h=>by cases h) ?_
 refine TA_done (by kernel_rfl) ?_ 0
 refine TX_next (TC_seq (TC_seq (TC_region (TVm ?_))))
 refine TLv (V_bin rfl rfl (fun w=>eql64 w r_1.2 1#64)) ?_
 refine TVm ?_
 obtain ⟨j1,Hj,H⟩:=bind_elim H
 refine TL_join (Γ:=Unit) (fun gj1=>[(6,ptr (some (b3,0)) 0),(7,ptr (some (b4,0)) 0),(9,ptr (some (b5,0)) 0),(31,vb j1)]) (fun gj1=>[⟨some (b3,0),e64 ((replicate 4 0#64).toList)⟩,⟨some (b4,0),e64 r_1.1.toList⟩,⟨some (b5,0),e64 r_2.1.toList⟩]) ?_ ?_
 ·intro gj1
  refine TX_next (TCb H (fun hc H=>?_) (fun hc H=>?_))
  ·refine TC_seq (TC_region (TLv (V_lag (.o 2) isAgg117 inf117) ?_))
   refine TLn (E_sv (vs:=e64 r_2.1.toList) 0 inf117) (fun _=>?_)
   refine TL_nil (TX_next (TC_ret (TX_then_ret ?_)))
   obtain rfl:=sj H
   exact TXr (vs:=[_]) rfl ⟨(Res_agg (n:=4) rfl (by simp) (.o 0) isAgg117 inf117 rfl (lenV (f:=v64) r_2.1)),trivial⟩
  ·refine TC_skip (TX_next (TC_seq (TC_region (TLv (V_lag (.o 1) isAgg117 inf117) ?_))))
   refine TLn (E_sv (vs:=e64 r_1.1.toList) 0 inf117) (fun _=>?_)
   refine TL_nil (TX_next (TC_ret ?_))
   obtain rfl:=sj H
   exact TXr (vs:=[_]) rfl ⟨(Res_agg (n:=4) rfl (by simp) (.o 0) isAgg117 inf117 rfl (lenV (f:=v64) r_1.1)),trivial⟩
 ·intro hJ
  replace H:=Hj
  refine TFd (d:=28) H (fun hc H=>?_) (fun hc H=>?_)
  ·refine TLs ?_
   refine TLs ?_
   refine TVt ?_
   refine TL_nil ?_
   obtain rfl:=sj H
   exact TXj [1,1,0] (hJ ())
  ·refine TLw (V_move rfl) ?_
   refine TLw (V_bin rfl rfl (fun w=>eql64 w r_2.2 0#64)) ?_
   refine TVf ?_
   refine TL_nil ?_
   obtain rfl:=sj H
   exact TXj [1,1,0] (hJ ())
end Go.Proofs
end

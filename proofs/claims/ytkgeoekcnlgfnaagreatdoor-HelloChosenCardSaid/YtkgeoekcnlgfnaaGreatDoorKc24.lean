/-
  Part 24 of the proof of what several laws share.
-/
import Derived.Test.YtkgeoekcnlgfnaaGreatDoorKc1
import Derived.Test.YtkgeoekcnlgfnaaGreatDoorKc2
import Derived.Test.YtkgeoekcnlgfnaaGreatDoorKc3
import Derived.Test.YtkgeoekcnlgfnaaGreatDoorKc4
import Derived.Test.YtkgeoekcnlgfnaaGreatDoorKc5
import Derived.Test.YtkgeoekcnlgfnaaGreatDoorKc6
import Derived.Test.YtkgeoekcnlgfnaaGreatDoorKc7
import Derived.Test.YtkgeoekcnlgfnaaGreatDoorKc8
import Derived.Test.YtkgeoekcnlgfnaaGreatDoorKc9
import Derived.Test.YtkgeoekcnlgfnaaGreatDoorKc10
import Derived.Test.YtkgeoekcnlgfnaaGreatDoorKc11
import Derived.Test.YtkgeoekcnlgfnaaGreatDoorKc12
import Derived.Test.YtkgeoekcnlgfnaaGreatDoorKc13
import Derived.Test.YtkgeoekcnlgfnaaGreatDoorKc14
import Derived.Test.YtkgeoekcnlgfnaaGreatDoorKc15
import Derived.Test.YtkgeoekcnlgfnaaGreatDoorKc16
import Derived.Test.YtkgeoekcnlgfnaaGreatDoorKc17
import Derived.Test.YtkgeoekcnlgfnaaGreatDoorKc18
import Derived.Test.YtkgeoekcnlgfnaaGreatDoorKc19
import Derived.Test.YtkgeoekcnlgfnaaGreatDoorKc20
import Derived.Test.YtkgeoekcnlgfnaaGreatDoorKc21
import Derived.Test.YtkgeoekcnlgfnaaGreatDoorKc22
import Derived.Test.YtkgeoekcnlgfnaaGreatDoorKc23
set_option linter.unusedVariables false
set_option linter.unusedSimpArgs false
section
namespace Go.Proofs
open Go Go.Kx
theorem hin_eq (x l m:Int):hello_in x l m=some (decide (l≤x∧x≤m)):=by
 unfold hello_in ltt
 by_cases h:l≤x
 ·rw [if_pos h]; simp [h]
 ·rw [if_neg h]; simp [h]
def inB (x l m:Int):Bool:=decide (l≤x∧x≤m)
theorem May_cut {s:Bool} {S G:List Int} {ch:List Str} {key:Str} {ro:List Str} {nm:Str} {tk:Int} {seal_:Str} {psk:List (Str × Str × Int × Int × Int × Int)} {tape:Str} {clock pad limit ring:Int} {b1 b2:Bool}
  (h1:hello_each_fn2_44 S 3=some b1) (h2:hello_each_fn2_45 G 2=some b2) :
  hello_May s S G ch key ro nm tk seal_ psk tape clock pad limit ring=if (b1 && b2 && inB clock 0 4294967295 && inB pad 0 16384 && inB limit 4 16777216 && inB ring 33290 262144 && decide (tape.length≤65536))=true then
   (if s=true then hello_server s S G ch key ro nm tk seal_ psk tape clock pad limit ring else hello_client s S G ch key ro nm tk seal_ psk tape clock pad limit ring) else some false:=by
 unfold hello_May
 rw [h1]
 have e (o:Option Bool):(o.bind fun r=>some r)=o:=by cases o <;> rfl
 have hb : ∀ (c:Bool) (X Y:Option Bool),(some (!c)).bind (fun j=>if j=true then X else Y)=if c=true then Y else X:=by intro c X Y; cases c <;> rfl
 have hkey:((if (!b1)=true then (some true) else ((hello_each_fn2_45 G 2).bind fun (r_4:Bool)=>(if (!r_4)=true then (some true) else ((hello_in clock 0 4294967295).bind fun (r_5:Bool)=>(if (!r_5)=true then (some true) else ((hello_in pad 0 16384).bind fun (r_6:Bool)=>(if (!r_6)=true then (some true) else ((hello_in limit 4 16777216).bind fun (r_7:Bool)=>(if (!r_7)=true then (some true) else ((hello_in ring 33290 262144).bind fun (r_8:Bool)=>(if (!r_8)=true then (some true) else (some (decide (65536<((tape).length:Int))))))))))))))))=some (!(b1 && b2 && inB clock 0 4294967295 && inB pad 0 16384 && inB limit 4 16777216 && inB ring 33290 262144 && decide (tape.length≤65536))):=by
  rw [h2]
  simp only [hin_eq,Option.bind_some]
  have ht:decide (65536<(tape.length:Int)) = !decide (tape.length≤65536):=by
   by_cases c:tape.length≤65536
   ·rw [decide_eq_true c,decide_eq_false (by omega)]; rfl
   ·rw [decide_eq_false c,decide_eq_true (by omega)]; rfl
  rw [ht]
  show _=some (!(b1 && b2 && inB clock 0 4294967295 && inB pad 0 16384 && inB limit 4 16777216 && inB ring 33290 262144 && decide (tape.length≤65536)))
  change (if (!b1)=true then some true else if (!b2)=true then some true else if (!inB clock 0 4294967295)=true then some true else if (!inB pad 0 16384)=true then some true else if (!inB limit 4 16777216)=true then some true else if (!inB ring 33290 262144)=true then some true else some (!decide (tape.length≤65536)))=_
  generalize inB clock 0 4294967295=x1
  generalize inB pad 0 16384=x2
  generalize inB limit 4 16777216=x3
  generalize inB ring 33290 262144=x4
  generalize decide (tape.length≤65536)=x5
  cases b1 <;> cases b2 <;> cases x1 <;> cases x2 <;> cases x3 <;> cases x4 <;> cases x5 <;> rfl
 rw [Option.bind_some,hkey,hb]
 simp only [e]
end Go.Proofs
end

section
namespace Go.Proofs
open Go Go.Kx
open TryzI Tryz
def halberdlaw24_has.b0 (xs:List (Int)) (x:Int) (s0:Int):Option ((Int) ⊕ ((Unit) ⊕ (Bool))) :=
 if s0<((xs).length:Int) then (if 0≤s0∧s0<((xs).length:Int) then (if (lg xs ((s0).toNat))=x then (some (.inr (.inr true))) else (some (.inl (w64 (s0+1))))) else none) else (some (.inr (.inl ())))
def halberdlaw24_has (xs:List (Int)) (x:Int):Option (Bool) :=
 (loop (halberdlaw24_has.b0 xs x) BIG 0).bind fun (t_1:(Unit) ⊕ (Bool))=>(match t_1 with | .inl t_1=>(some false) | .inr rv=>some rv)
set_option maxHeartbeats 4000000 in
set_option maxRecDepth 20000 in
theorem F23_calls (Axs:Adr) (cxs:Nat) (xs:List (Int)) (x:Int) (hcxs:(xs).length≤cxs) (r:Bool) (H:halberdlaw24_has xs x=some r) :
  Does Tryz.prog 23 [sl Axs ((xs).length) cxs,vi x] [] [⟨Axs,eI xs⟩] (Γ:=Unit) (fun g=>vb r) (fun g=>[]):=by
 intro w hmem hro hd
 refine calls_of (N:=18) (m0:=[(0,sl Axs ((xs).length) cxs),(1,vi x)]) func23 rfl ntmps23 (argM_ok [sl Axs ((xs).length) cxs,vi x]) rfl hmem hro hd ?_
 unfold halberdlaw24_has at H
 refine TC_seq (TC_region (TVa ?_))
 refine TL_nil (TX_next (TC_seq (TC_seq (TC_region (TVa ?_)))))
 refine TL_nil (TX_next (TC_block ?_))
 obtain ⟨t_1,Hl,H⟩:=bind_elim H
 refine TC.sub (m':=[(0,_),(1,_),(5,_)]) ⟨rfl,rfl,rfl,trivial⟩ ?_
 refine TC.pull (is:=[]) (L':=[]) rfl ?_
 refine TC_loopR (id:=0) (body:=(halberdlaw24_has.b0 xs x)) (σ:=Int) (Γ:=Unit) (Γx:=Unit) (fun s0 g0_=>[(0,sl Axs ((xs).length) cxs),(1,vi x),(5,vi s0)]) (fun s0 g0_=>[]) (fun t g=>[]) (fun t g=>[]) r ?_ BIG 0 () t_1 Hl ?_
 ·intro s0 g0_ r1 H K hK hE hR1
  unfold halberdlaw24_has.b0 at H
  refine TC_seq (TC_seq (TC_region (TVm ?_)))
  refine TVm ?_
  refine TLv (V_len_slice rfl underlying22) ?_
  refine TLv (V_bin rfl rfl (fun w=>lssI w s0 ((xs).length:Int))) ?_
  refine TL_nil (TX_next (TCd H (fun hc H=>?_) (fun hc H=>?_)))
  ·refine TC_skip (TX_next (TC_seq (TC_block (TC_seq (TC_region (TVm ?_))))))
   refine TVm ?_
   obtain ⟨h1,H⟩:=if_elim H
   refine TLv (V_idxSlS (i:=s0) rfl rfl underlying22 inf3 rfl (.r 0) (map_ne (toNat_lt h1.1 h1.2)) h1.1 h1.2 (k:=(s0).toNat) (km1 _)) ?_
   refine TLv (V_load rfl (.r 0) (get_map (f:=vi) (l:=xs) (toNat_lt h1.1 h1.2)) isAgg3) ?_
   refine TVm ?_
   refine TLv (V_bin rfl rfl (fun w=>eqlI w (lg xs ((s0).toNat)) x)) ?_
   refine TL_nil (TX_next (TCd H (fun hc H=>?_) (fun hc H=>?_)))
   ·refine TC_seq (TC_region (TVa ?_))
    refine TL_nil (TX_next (TC_ret (TX_block_ret (TX_then_ret (TX_then_ret (TX_block_ret (TX_then_ret ?_)))))))
    have hrv:=(hR1 _ (Option.some.inj H).symm)
    subst hrv
    exact TX1
   ·refine TC_skip (TX_block_normal (TX_next (TC_region (TVm ?_))))
    refine TLv (V_bin rfl rfl (fun w=>addI w s0 1)) ?_
    refine TVa ?_
    refine TL_nil ?_
    obtain rfl:=sj H
    exact TXk [] (hK (w64 (s0+1)) rfl ())
  ·refine TC_exit (TX_then_exit (TX_then_exit ?_))
   obtain rfl:=sj H
   exact TXj [] (hE () rfl ())
 ·rcases t_1 with t_1 | rv
  ·intro gx1
   dsimp only at H
   refine TX_block_exit (TX_next (TC_seq (TC_region (TVa ?_))))
   refine TL_nil (TX_next (TC_ret ?_))
   obtain rfl:=sj H
   exact TX1
  ·exact (Option.some.inj H)
end Go.Proofs
end

section
namespace Go.Proofs
open Go Go.Kx
theorem first_or (p:Nat → Bool) : ∀ n,(∃ k,k<n∧p k=true ∧ ∀ j,j<k → p j=false) ∨ ∀ j,j<n → p j=false
 | 0 => .inr fun j hj=>by omega
 | n+1=>by
  rcases first_or p n with ⟨k,h1,h2,h3⟩ | h
  ·exact .inl ⟨k,by omega,h2,h3⟩
  ·cases hp:p n with
   | true=>exact .inl ⟨n,by omega,hp,h⟩
   | false =>
    refine .inr fun j hj=>?_
    by_cases c:j<n
    ·exact h j c
    ·obtain rfl:j=n:=by omega
     exact hp
theorem find_loop {τ:Type} {body:Int → Option (Int ⊕ τ)} {len:Nat} (p:Nat → Bool) (hit:Nat → τ) (miss:τ) (hl:len<1152921504606846976)
  (hb : ∀ j,j<len → body (j:Int)=some (if p j=true then .inr (hit j) else .inl ((j+1:Nat):Int))) (he:body (len:Int)=some (.inr miss)) :
  (∃ k,k<len∧p k=true∧(∀ j,j<k → p j=false)∧loop body BIG 0=some (hit k)) ∨ ((∀ j,j<len → p j=false)∧loop body BIG 0=some miss):=by
 rcases first_or p len with ⟨k,h1,h2,h3⟩ | h
 ·refine .inl ⟨k,h1,h2,h3,loop_fn (fun j=>(j:Int)) k _ (by omega) rfl (fun j hj=>?_) ?_⟩
  ·rw [hb j (by omega),if_neg (by rw [h3 j hj]; decide)]
  ·rw [hb k h1,if_pos h2]
 ·refine .inr ⟨h,loop_fn (fun j=>(j:Int)) len _ hl rfl (fun j hj=>?_) he⟩
  rw [hb j hj,if_neg (by rw [h j hj]; decide)]
theorem mem_lg {xs:List Int} {x:Int}:x ∈ xs ↔ ∃ n,n<xs.length∧lg xs n=x:=by
 constructor
 ·intro h
  obtain ⟨n,hn,h2⟩:=List.mem_iff_getElem.1 h
  exact ⟨n,hn,by unfold lg; rw [List.getD_eq_getElem?_getD,List.getElem?_eq_getElem hn,h2]; rfl⟩
 ·rintro ⟨n,hn,rfl⟩
  have e:lg xs n=xs[n]:=by unfold lg; rw [List.getD_eq_getElem?_getD,List.getElem?_eq_getElem hn]; rfl
  rw [e]
  exact List.getElem_mem hn
theorem w64_n {j n:Nat} (h:j<n) (hn:n<1152921504606846976):w64 ((j:Int)+1)=((j+1:Nat):Int):=w64_add (b:=1) (by omega)
theorem has_eq {xs:List Int} (x:Int) (hl:xs.length<1152921504606846976):halberdlaw24_has xs x=some (decide (x ∈ xs)):=by
 unfold halberdlaw24_has
 have hb : ∀ j,j<xs.length → halberdlaw24_has.b0 xs x (j:Int)=some (if decide (lg xs j=x)=true then .inr (.inr true) else .inl ((j+1:Nat):Int)):=fun j hj=>by
  have e:=w64_n hj hl
  unfold halberdlaw24_has.b0
  rw [e,if_pos (by omega),if_pos (by omega),Int.toNat_natCast]
  clear e
  by_cases c:lg xs j=x
  ·rw [if_pos c,if_pos (decide_eq_true c)]
  ·rw [if_neg c,if_neg (by rw [decide_eq_false c]; decide)]
 have he:halberdlaw24_has.b0 xs x (xs.length:Int)=some (.inr (.inl ())):=by
  unfold halberdlaw24_has.b0
  exact if_neg (by omega)
 rcases find_loop (fun j=>decide (lg xs j=x)) (fun _=>Sum.inr true) (Sum.inl ()) hl hb he with ⟨k,h1,h2,_,h3⟩ | ⟨h1,h3⟩
 ·rw [h3,decide_eq_true (mem_lg.2 ⟨k,h1,of_decide_eq_true h2⟩)]; rfl
 ·rw [h3,decide_eq_false (fun h=>by obtain ⟨n,hn,he⟩:=mem_lg.1 h; exact of_decide_eq_false (h1 n hn) he)]; rfl
theorem index_eq {xs:List Int} (x:Int) (hl:xs.length<1152921504606846976):(∃ k:Nat,k<xs.length∧lg xs k=x∧slices_Index___int_int_ xs x=some (k:Int)) ∨ (x ∉ xs∧slices_Index___int_int_ xs x=some (-1)):=by
 unfold slices_Index___int_int_
 have hb : ∀ j,j<xs.length → slices_Index___int_int_.b0 xs x (j:Int)=some (if decide (x=lg xs j)=true then .inr (.inr (j:Int)) else .inl ((j+1:Nat):Int)):=fun j hj=>by
  have e:=w64_n hj hl
  unfold slices_Index___int_int_.b0
  rw [e,if_pos (by omega),if_pos (by omega),Int.toNat_natCast]
  clear e
  by_cases c:x=lg xs j
  ·rw [if_pos c,if_pos (decide_eq_true c)]
  ·rw [if_neg c,if_neg (by rw [decide_eq_false c]; decide)]
 have he:slices_Index___int_int_.b0 xs x (xs.length:Int)=some (.inr (.inl ())):=by
  unfold slices_Index___int_int_.b0
  exact if_neg (by omega)
 rcases find_loop (fun j=>decide (x=lg xs j)) (fun j=>Sum.inr (j:Int)) (Sum.inl ()) hl hb he with ⟨k,h1,h2,_,h3⟩ | ⟨h1,h3⟩
 ·exact .inl ⟨k,h1,(of_decide_eq_true h2).symm,by rw [h3]; rfl⟩
 ·exact .inr ⟨fun h=>by obtain ⟨n,hn,he⟩:=mem_lg.1 h; exact of_decide_eq_false (h1 n hn) he.symm,by rw [h3]; rfl⟩
theorem contains_eq {xs:List Int} (x:Int) (hl:xs.length<1152921504606846976):slices_Contains___int_int_ xs x=some (decide (x ∈ xs)):=by
 unfold slices_Contains___int_int_
 rcases index_eq x hl with ⟨k,h1,h2,h3⟩ | ⟨h1,h3⟩
 ·refine bind_i h3 (ltt_i fun b hb=>?_)
  rw [hb,decide_eq_true (mem_lg.2 ⟨k,h1,h2⟩),decide_eq_true (by omega)]
 ·refine bind_i h3 ?_
  rw [decide_eq_false h1]; rfl
theorem hfirst_eq {own off:List Int} (hl:own.length<1152921504606846976) (ho:off.length<1152921504606846976) :
  (∃ k,k<own.length∧lg own k ∈ off∧(∀ j,j<k → lg own j ∉ off)∧hello_first own off=some (lg own k,true)) ∨ ((∀ j,j<own.length → lg own j ∉ off)∧hello_first own off=some (0,false)):=by
 unfold hello_first
 have hb : ∀ j,j<own.length → hello_first.b0 own off (j:Int)=some (if decide (lg own j ∈ off)=true then .inr (.inr (lg own j,true)) else .inl ((j+1:Nat):Int)):=fun j hj=>by
  have e:=w64_n hj hl
  unfold hello_first.b0
  rw [e,if_pos (by omega),if_pos (by omega),Int.toNat_natCast]
  clear e
  refine ltt_i fun z hz=>bind_i (contains_eq z ho) ?_
  rw [hz]
  by_cases c:lg own j ∈ off
  ·rw [if_pos (decide_eq_true c),if_pos (decide_eq_true c)]
  ·rw [if_neg (by rw [decide_eq_false c]; decide),if_neg (by rw [decide_eq_false c]; decide)]
 have he:hello_first.b0 own off (own.length:Int)=some (.inr (.inl ())):=by
  unfold hello_first.b0
  exact if_neg (by omega)
 rcases find_loop (fun j=>decide (lg own j ∈ off)) (fun j=>Sum.inr (lg own j,true)) (Sum.inl ()) hl hb he with ⟨k,h1,h2,h4,h3⟩ | ⟨h1,h3⟩
 ·exact .inl ⟨k,h1,of_decide_eq_true h2,fun j hj=>of_decide_eq_false (h4 j hj),by rw [h3]; rfl⟩
 ·exact .inr ⟨fun j hj=>of_decide_eq_false (h1 j hj),by rw [h3]; rfl⟩
end Go.Proofs
end

section
namespace Go.Proofs
open Go Go.Kx
theorem idx66 {s_:List (Int × Str)} {fc0_c_Server:Bool} {fc0_c_Suites:List (Int)} {fc0_c_Groups:List (Int)} {fc0_c_Chain:List (Str)} {fc0_c_Key:Str} {fc0_c_Roots:List (Str)} {fc0_c_Name:Str} {fc0_c_Tickets:Int} {fc0_c_Seal:Str} {fc0_c_Psk:List (Str × Str × Int × Int × Int × Int)} {fc0_c_Tape:Str} {fc0_c_Clock:Int} {fc0_c_Pad:Int} {fc0_c_Limit:Int} {fc0_c_Ring:Int} {fc0_m_Kind:Int} {fc0_m_Random:Str} {fc0_m_Session:Str} {fc0_m_Suites:List (Int)} {fc0_m_Name:Str} {fc0_m_Versions:List (Int)} {fc0_m_Groups:List (Int)} {fc0_m_Schemes:List (Int)} {fc0_m_Modes:List (Int)} {fc0_m_Shares:List (Int × Str)} {fc0_m_Identities:List (Str × Int)} {fc0_m_Binders:List (Str)} {fc0_m_Psk:Int} {fc0_m_Others:List (Int)} {fc0_m_Certs:List (Str)} {fc0_m_Scheme:Int} {fc0_m_Data:Str} {fc0_m_Life:Int} {fc0_m_Add:Int} {fc0_m_Nonce:Str} {fc0_m_Update:Int} {fc0_again:Bool} {fc0_group:Int} {fc0_out_Suite:Int} {fc0_out_Group:Int} {fc0_out_Share:Str} {fc0_out_Retry:Bool} {fc0_out_Psk:Bool} {fc0_out_Alert:Int} (hl:s_.length<1152921504606846976) :
  (∃ k:Nat,k<s_.length∧(lg s_ k).1=fc0_out_Group∧slices_IndexFunc___api_Share_api_Share__fn1_66 s_ fc0_c_Server fc0_c_Suites fc0_c_Groups fc0_c_Chain fc0_c_Key fc0_c_Roots fc0_c_Name fc0_c_Tickets fc0_c_Seal fc0_c_Psk fc0_c_Tape fc0_c_Clock fc0_c_Pad fc0_c_Limit fc0_c_Ring fc0_m_Kind fc0_m_Random fc0_m_Session fc0_m_Suites fc0_m_Name fc0_m_Versions fc0_m_Groups fc0_m_Schemes fc0_m_Modes fc0_m_Shares fc0_m_Identities fc0_m_Binders fc0_m_Psk fc0_m_Others fc0_m_Certs fc0_m_Scheme fc0_m_Data fc0_m_Life fc0_m_Add fc0_m_Nonce fc0_m_Update fc0_again fc0_group fc0_out_Suite fc0_out_Group fc0_out_Share fc0_out_Retry fc0_out_Psk fc0_out_Alert=some (k:Int)) ∨ ((∀ j,j<s_.length → (lg s_ j).1 ≠ fc0_out_Group)∧slices_IndexFunc___api_Share_api_Share__fn1_66 s_ fc0_c_Server fc0_c_Suites fc0_c_Groups fc0_c_Chain fc0_c_Key fc0_c_Roots fc0_c_Name fc0_c_Tickets fc0_c_Seal fc0_c_Psk fc0_c_Tape fc0_c_Clock fc0_c_Pad fc0_c_Limit fc0_c_Ring fc0_m_Kind fc0_m_Random fc0_m_Session fc0_m_Suites fc0_m_Name fc0_m_Versions fc0_m_Groups fc0_m_Schemes fc0_m_Modes fc0_m_Shares fc0_m_Identities fc0_m_Binders fc0_m_Psk fc0_m_Others fc0_m_Certs fc0_m_Scheme fc0_m_Data fc0_m_Life fc0_m_Add fc0_m_Nonce fc0_m_Update fc0_again fc0_group fc0_out_Suite fc0_out_Group fc0_out_Share fc0_out_Retry fc0_out_Psk fc0_out_Alert=some (-1)):=by
 have hb : ∀ j,j<s_.length → slices_IndexFunc___api_Share_api_Share__fn1_66.b0 s_ fc0_c_Server fc0_c_Suites fc0_c_Groups fc0_c_Chain fc0_c_Key fc0_c_Roots fc0_c_Name fc0_c_Tickets fc0_c_Seal fc0_c_Psk fc0_c_Tape fc0_c_Clock fc0_c_Pad fc0_c_Limit fc0_c_Ring fc0_m_Kind fc0_m_Random fc0_m_Session fc0_m_Suites fc0_m_Name fc0_m_Versions fc0_m_Groups fc0_m_Schemes fc0_m_Modes fc0_m_Shares fc0_m_Identities fc0_m_Binders fc0_m_Psk fc0_m_Others fc0_m_Certs fc0_m_Scheme fc0_m_Data fc0_m_Life fc0_m_Add fc0_m_Nonce fc0_m_Update fc0_again fc0_group fc0_out_Suite fc0_out_Group fc0_out_Share fc0_out_Retry fc0_out_Psk fc0_out_Alert (j:Int)=some (if decide ((lg s_ j).1=fc0_out_Group)=true then .inr (.inr (j:Int)) else .inl ((j+1:Nat):Int)):=fun j hj=>by
  have e:=w64_n hj hl
  unfold slices_IndexFunc___api_Share_api_Share__fn1_66.b0
  rw [e,if_pos (by omega),if_pos (by omega),Int.toNat_natCast]
  clear e
  refine bind_i (v:=decide ((lg s_ j).1=fc0_out_Group)) (by unfold hello_asking_shares_2; exact ltt_i fun x hx=>by rw [hx]) ?_
  by_cases c:(lg s_ j).1=fc0_out_Group
  ·rw [decide_eq_true c]; rfl
  ·rw [decide_eq_false c]; rfl
 have he:slices_IndexFunc___api_Share_api_Share__fn1_66.b0 s_ fc0_c_Server fc0_c_Suites fc0_c_Groups fc0_c_Chain fc0_c_Key fc0_c_Roots fc0_c_Name fc0_c_Tickets fc0_c_Seal fc0_c_Psk fc0_c_Tape fc0_c_Clock fc0_c_Pad fc0_c_Limit fc0_c_Ring fc0_m_Kind fc0_m_Random fc0_m_Session fc0_m_Suites fc0_m_Name fc0_m_Versions fc0_m_Groups fc0_m_Schemes fc0_m_Modes fc0_m_Shares fc0_m_Identities fc0_m_Binders fc0_m_Psk fc0_m_Others fc0_m_Certs fc0_m_Scheme fc0_m_Data fc0_m_Life fc0_m_Add fc0_m_Nonce fc0_m_Update fc0_again fc0_group fc0_out_Suite fc0_out_Group fc0_out_Share fc0_out_Retry fc0_out_Psk fc0_out_Alert (s_.length:Int)=some (.inr (.inl ())):=by
  unfold slices_IndexFunc___api_Share_api_Share__fn1_66.b0
  exact if_neg (by omega)
 unfold slices_IndexFunc___api_Share_api_Share__fn1_66
 rcases find_loop (fun j=>decide ((lg s_ j).1=fc0_out_Group)) (fun j=>Sum.inr (j:Int)) (Sum.inl ()) hl hb he with ⟨k,h1,h2,_,h3⟩ | ⟨h1,h3⟩
 ·exact .inl ⟨k,h1,of_decide_eq_true h2,by rw [h3]; rfl⟩
 ·exact .inr ⟨fun j hj=>of_decide_eq_false (h1 j hj),by rw [h3]; rfl⟩
theorem con64 {s:List (Int × Str)} (g:Int) (key:Str) (hl:s.length<1152921504606846976) : ∃ b,slices_ContainsFunc___api_Share_api_Share__fn1_64 s g key=some b∧(b=true ↔ ∃ j,j<s.length∧(lg s j).1=g):=by
 have hb : ∀ j,j<s.length → slices_IndexFunc___api_Share_api_Share__fn1_64.b0 s g key (j:Int)=some (if decide ((lg s j).1=g)=true then .inr (.inr (j:Int)) else .inl ((j+1:Nat):Int)):=fun j hj=>by
  have e:=w64_n hj hl
  unfold slices_IndexFunc___api_Share_api_Share__fn1_64.b0
  rw [e,if_pos (by omega),if_pos (by omega),Int.toNat_natCast]
  clear e
  refine bind_i (v:=decide ((lg s j).1=g)) (by unfold hello_asking_shares_1; exact ltt_i fun x hx=>by rw [hx]) ?_
  by_cases c:(lg s j).1=g
  ·rw [decide_eq_true c]; rfl
  ·rw [decide_eq_false c]; rfl
 have he:slices_IndexFunc___api_Share_api_Share__fn1_64.b0 s g key (s.length:Int)=some (.inr (.inl ())):=by
  unfold slices_IndexFunc___api_Share_api_Share__fn1_64.b0
  exact if_neg (by omega)
 unfold slices_ContainsFunc___api_Share_api_Share__fn1_64
 have hx:(∃ k:Nat,k<s.length∧(lg s k).1=g∧slices_IndexFunc___api_Share_api_Share__fn1_64 s g key=some (k:Int)) ∨ ((∀ j,j<s.length → (lg s j).1 ≠ g)∧slices_IndexFunc___api_Share_api_Share__fn1_64 s g key=some (-1)):=by
  unfold slices_IndexFunc___api_Share_api_Share__fn1_64
  rcases find_loop (fun j=>decide ((lg s j).1=g)) (fun j=>Sum.inr (j:Int)) (Sum.inl ()) hl hb he with ⟨k,h1,h2,_,h3⟩ | ⟨h1,h3⟩
  ·exact .inl ⟨k,h1,of_decide_eq_true h2,by rw [h3]; rfl⟩
  ·exact .inr ⟨fun j hj=>of_decide_eq_false (h1 j hj),by rw [h3]; rfl⟩
 rcases hx with ⟨k,h1,h2,h3⟩ | ⟨h1,h3⟩
 ·exact ⟨true,bind_i h3 (ltt_i fun b hb=>by rw [hb,decide_eq_true (by omega)]),⟨fun _=>⟨k,h1,h2⟩,fun _=>rfl⟩⟩
 ·exact ⟨false,bind_i h3 rfl,⟨fun h=>(nomatch h),fun ⟨j,hj,e⟩=>absurd e (h1 j hj)⟩⟩
theorem lg_subL {s:List (Int × Str)} {k j:Nat} (h:j<k) (hk:k≤s.length):lg (subL s 0 k) j=lg s j:=by
 unfold lg subL
 rw [List.getD_eq_getElem?_getD,List.getD_eq_getElem?_getD,List.drop_zero,List.getElem?_take,if_pos (by omega)]
theorem sharesB {G:List Int} {s:List (Int × Str)} {sh:Str} {re:Bool} {r1:Int × Bool} (hl:s.length<1152921504606846976) (hG:G.length<1152921504606846976) :
  loop (hello_asking_shares.b0 G s sh re r1) BIG 0=some (.inr (47,r1.1,sh,re)) ∨ ((∀ j,j<s.length → (lg s j).1 ∈ G ∧ ∀ i,i<j → (lg s i).1 ≠ (lg s j).1)∧loop (hello_asking_shares.b0 G s sh re r1) BIG 0=some (.inl ())):=by
 have hp : ∀ j, ∃ b:Bool,j<s.length → slices_ContainsFunc___api_Share_api_Share__fn1_64 (subL s 0 j) (lg s j).1 (lg s j).2=some b∧(b=true ↔ ∃ i,i<j∧(lg s i).1=(lg s j).1):=fun j=>by
  by_cases c:j<s.length
  ·have hsl:(subL s 0 j).length=j:=by rw [subL_length (by omega)]; omega
   obtain ⟨b,h1,h2⟩:=con64 (s:=subL s 0 j) (lg s j).1 (lg s j).2 (by omega)
   refine ⟨b,fun _=>⟨h1,h2.trans ⟨fun ⟨i,hi,e⟩=>⟨i,by omega,?_⟩,fun ⟨i,hi,e⟩=>⟨i,by omega,?_⟩⟩⟩⟩
   ·rwa [lg_subL (by omega) (by omega)] at e
   ·rwa [lg_subL hi (by omega)]
  ·exact ⟨false,fun h=>absurd h c⟩
 obtain ⟨f,hf⟩:=Classical.axiomOfChoice hp
 have hb : ∀ j,j<s.length → hello_asking_shares.b0 G s sh re r1 (j:Int)=some (if (f j || !decide ((lg s j).1 ∈ G))=true then .inr (.inr (47,r1.1,sh,re)) else .inl ((j+1:Nat):Int)):=fun j hj=>by
  have e:=w64_n hj hl
  unfold hello_asking_shares.b0
  rw [e,if_pos (by omega),if_pos (by omega),if_pos (by omega),Int.toNat_natCast,if_pos (by omega),if_pos (by omega),if_pos (by omega)]
  clear e
  refine bind_i (hf j hj).1 ?_
  cases f j with
  | true=>rfl
  | false =>
   refine if_n (by decide) (bind_i (contains_eq _ hG) ?_)
   cases decide ((lg s j).1 ∈ G) <;> rfl
 have he:hello_asking_shares.b0 G s sh re r1 (s.length:Int)=some (.inr (.inl ())):=by
  unfold hello_asking_shares.b0
  exact if_neg (by omega)
 rcases find_loop (fun j=>f j || !decide ((lg s j).1 ∈ G)) (fun _=>Sum.inr (47,r1.1,sh,re)) (Sum.inl ()) hl hb he with ⟨k,h1,h2,_,h3⟩ | ⟨h1,h3⟩
 ·exact .inl h3
 ·refine .inr ⟨fun j hj=>?_,h3⟩
  have h4:=h1 j hj
  simp only [Bool.or_eq_false_iff,Bool.not_eq_false',decide_eq_true_eq] at h4
  exact ⟨h4.2,fun i hi e=>by rw [(hf j hj).2.2 ⟨i,hi,e⟩] at h4; cases h4.1⟩
end Go.Proofs
end

section
namespace Go.Kx
open Go
theorem loop_inv {S τ:Type} {body:S → Option (S ⊕ τ)} (n:Nat) (I:Nat → S → Prop) (P:τ → Prop) {s0:S} (hn:n<1152921504606846976) (h0:I 0 s0)
  (hstep : ∀ k s,k<n → I k s → ∃ s',body s=some (.inl s')∧I (k+1) s') (hend : ∀ s,I n s → ∃ t,body s=some (.inr t)∧P t) : ∃ t,loop body BIG s0=some t∧P t:=by
 have:=loop_ex (body:=body) (fun r => ∃ t,r=some t∧P t) n BIG (fun d s=>d≤n∧I (n - d) s) s0 ⟨Nat.le_refl _,by simpa using h0⟩ hn ?_ ?_
 ·exact this
 ·rintro k s ⟨hk,hI⟩
  obtain ⟨s',h1,h2⟩:=hstep (n - (k+1)) s (by omega) hI
  refine .inl ⟨s',h1,by omega,?_⟩
  have:n - (k+1)+1=n - k:=by omega
  rwa [this] at h2
 ·rintro s ⟨_,hI⟩
  obtain ⟨t,h1,h2⟩:=hend s (by simpa using hI)
  exact ⟨t,h1,t,rfl,h2⟩
def pv (B:Nat) (f:Nat → Nat):Nat → Nat
 | 0=>0
 | k+1=>pv B f k+f k * B ^ k
theorem pv_congr {B:Nat} {f g:Nat → Nat} : ∀ {k:Nat},(∀ j,j<k → f j=g j) → pv B f k=pv B g k
 | 0,_=>rfl
 | k+1,h=>by
  show pv B f k+f k * B ^ k=pv B g k+g k * B ^ k
  rw [pv_congr fun j hj=>h j (by omega),h k (by omega)]
def wv {b n:Nat} (v:Vector (BitVec b) n) (j:Nat):Nat:=(vg v j).toNat
theorem wv_vp {b n:Nat} {v:Vector (BitVec b) n} {k j:Nat} {x:BitVec b} (h:k<n) (hj:j<n):wv (vp v k x) j=if k=j then x.toNat else wv v j:=by
 unfold wv; rw [vg_vp h hj]; split <;> rfl
theorem pv_vp {B b n:Nat} {v:Vector (BitVec b) n} {i k:Nat} {x:BitVec b} (hi:i<n) (hk:k≤i):pv B (wv (vp v i x)) k=pv B (wv v) k :=
 pv_congr fun j hj=>by rw [wv_vp hi (by omega),if_neg (by omega)]
theorem pv_vp1 {B b n:Nat} {v:Vector (BitVec b) n} {k:Nat} {x:BitVec b} (hk:k<n):pv B (wv (vp v k x)) (k+1)=pv B (wv v) k+x.toNat * B ^ k:=by
 show pv B _ k+wv _ k * B ^ k=_
 rw [pv_vp hk (Nat.le_refl _),wv_vp hk hk,if_pos rfl]
def n4 (v:Vector (BitVec 64) 4):Nat:=pv (2 ^ 64) (wv v) 4
def n8 (v:Vector (BitVec 32) 8):Nat:=pv (2 ^ 32) (wv v) 8
theorem sub64_ex (x y c:BitVec 64) (hc:c.toNat≤1) : ∃ r,math_bits_Sub64 x y c=some r∧r.1.toNat+y.toNat+c.toNat=x.toNat+2 ^ 64 * r.2.toNat∧r.2.toNat≤1:=by
 refine ⟨_,if_pos hc,?_⟩
 have hx:=x.isLt
 have hy:=y.isLt
 simp only [BitVec.toNat_ofNat]
 split
 ·have:(1#64).toNat=1:=rfl
  omega
 ·have:(0#64).toNat=0:=rfl
  omega
theorem step_dn {B w lo hi a b c p q r:Nat} (h:lo+b+c=a+B * hi) (h2:p+q=r+c * w):p+lo * w+(q+b * w)=r+a * w+hi * (w * B):=by
 have:=congrArg (· * w) h
 simp only [Nat.add_mul] at this
 rw [show hi * (w * B)=B * hi * w by rw [Nat.mul_comm w B, ← Nat.mul_assoc,Nat.mul_comm hi B]]
 omega
end Go.Kx
end

section
namespace Go.Kx
open Go Go.Proofs
open Vector (replicate)
theorem num_sub_ex (x y:Vx 64 4) : ∃ r,num_sub x y=some r∧n4 r.1+n4 y=n4 x+2 ^ 256 * r.2.toNat∧r.2.toNat≤1:=by
 obtain ⟨t,h1,h2⟩:=loop_inv (body:=num_sub.b0 x y) (s0:=(0#64,0,replicate 4 0#64)) 4
  (fun k s=>s.2.1=(k:Int)∧s.1.toNat≤1∧pv (2 ^ 64) (wv s.2.2) k+pv (2 ^ 64) (wv y) k=pv (2 ^ 64) (wv x) k+s.1.toNat * (2 ^ 64) ^ k)
  (fun t=>t.1.toNat≤1∧pv (2 ^ 64) (wv t.2) 4+pv (2 ^ 64) (wv y) 4=pv (2 ^ 64) (wv x) 4+t.1.toNat * (2 ^ 64) ^ 4) (by decide)
  ⟨rfl,by decide,rfl⟩
  (fun k s hk hI=>by
   obtain ⟨c,i,z⟩:=s
   obtain ⟨hi,hc,hv⟩:=hI
   dsimp only at hi hc hv
   subst hi
   obtain ⟨⟨lo,hi⟩,hr,h1,h2⟩:=sub64_ex (vg x k) (vg y k) c hc
   refine ⟨(hi,((k+1:Nat):Int),vp z k lo),?_,rfl,h2,?_⟩
   ·unfold num_sub.b0
    dsimp only
    refine if_i (by omega) (if_i (by omega) (if_i (by omega) ?_))
    refine bind_i (v:=(lo,hi)) (by simpa using hr) (if_i (by omega) (ltt_i fun v hv=>?_))
    subst hv
    have:w64 ((k:Int)+1)=((k+1:Nat):Int):=by rw [w64_id (by omega) (by omega)]; omega
    rw [this]; rfl
   ·dsimp only
    rw [pv_vp1 (by omega),Nat.pow_succ]
    exact step_dn h1 hv)
  (fun s hI=>by
   obtain ⟨c,i,z⟩:=s
   obtain ⟨hi,hc,hv⟩:=hI
   dsimp only at hi hc hv
   subst hi
   exact ⟨(c,z),by unfold num_sub.b0; exact if_n (by dsimp only; omega) rfl,hc,hv⟩)
 refine ⟨(t.2,t.1),bind_i h1 rfl,?_,h2.1⟩
 have e:(2 ^ 64:Nat) ^ 4=2 ^ 256:=by decide
 have:=h2.2
 rw [e] at this
 unfold n4
 rw [Nat.mul_comm (2 ^ 256)]; exact this
end Go.Kx
end

section
namespace Go.Proofs
open Go Go.Kx
open Vector (replicate)
def Tot {α:Type} (o:Option α):Prop := ∃ v,o=some v
theorem tot_some {α:Type} {v:α}:Tot (some v):=⟨v,rfl⟩
theorem tot_bind {α β:Type} {o:Option α} {f:α → Option β} (h:Tot o) (k : ∀ v,o=some v → Tot (f v)):Tot (o.bind f):=by
 obtain ⟨v,hv⟩:=h
 obtain ⟨r,hr⟩:=k v hv
 exact ⟨r,bind_i hv hr⟩
theorem tot_if {α:Type} {c:Prop} [Decidable c] {a b:Option α} (ha:c → Tot a) (hb : ¬ c → Tot b):Tot (if c then a else b):=by
 by_cases h:c
 ·rw [if_pos h]; exact ha h
 ·rw [if_neg h]; exact hb h
theorem tot_ltt {α β:Type} {a:α} {f:α → Option β} (h : ∀ x,x=a → Tot (f x)):Tot (ltt a f):=h a rfl
theorem tot_eq {α:Type} {o:Option α} {v:α} (h:o=some v):Tot o:=⟨v,h⟩
theorem tot_loop {τ:Type} {body:Int → Option (Int ⊕ τ)} {len:Nat} (hl:len<1152921504606846976)
  (hb : ∀ j,j<len → body (j:Int)=some (.inl ((j+1:Nat):Int)) ∨ ∃ t,body (j:Int)=some (.inr t)) (he : ∃ t,body (len:Int)=some (.inr t)):Tot (loop body BIG 0):=by
 obtain ⟨t0,he⟩:=he
 have hp : ∀ j, ∃ p:Option τ,j<len → body (j:Int)=some (match p with | some t => .inr t | none => .inl ((j+1:Nat):Int)):=fun j=>by
  by_cases c:j<len
  ·rcases hb j c with h | ⟨t,h⟩
   ·exact ⟨none,fun _=>h⟩
   ·exact ⟨some t,fun _=>h⟩
  ·exact ⟨none,fun h=>absurd h c⟩
 obtain ⟨f,hf⟩:=Classical.axiomOfChoice hp
 have hb2 : ∀ j,j<len → body (j:Int)=some (if (f j).isSome=true then .inr (match f j with | some t=>t | none=>t0) else .inl ((j+1:Nat):Int)):=fun j hj=>by
  rw [hf j hj]
  cases f j <;> rfl
 rcases find_loop (fun j=>(f j).isSome) (fun j=>match f j with | some t=>t | none=>t0) t0 hl hb2 he with ⟨k,_,_,_,h⟩ | ⟨_,h⟩
 ·exact ⟨_,h⟩
 ·exact ⟨_,h⟩
theorem sizes_tot (x:Int):Tot (aead_Sizes x):=by
 unfold aead_Sizes
 exact tot_ltt fun a _=>tot_if (fun _=>tot_some) fun _=>tot_ltt fun b _=>tot_if (fun _=>tot_some) fun _=>tot_ltt fun c _=>tot_if (fun _=>tot_some) fun _=>tot_some
theorem suite_tot (x:Int):Tot (hello_suite x):=by
 unfold hello_suite
 exact tot_bind (sizes_tot x) fun v _=>tot_ltt fun b _=>tot_some
theorem group_tot (x:Int):Tot (hello_group x):=by
 unfold hello_group
 exact tot_if (fun _=>tot_some) fun _=>tot_ltt fun b _=>tot_some
theorem hin_tot (x l m:Int):Tot (hello_in x l m):=tot_eq (hin_eq x l m)
theorem each44_tot (xs:List Int) (m:Int) (hl:xs.length<1152921504606846976):Tot (hello_each_fn2_44 xs m):=by
 unfold hello_each_fn2_44
 refine tot_bind (hin_tot _ _ _) fun v _=>tot_if (fun _=>tot_some) fun _=>tot_bind (tot_loop hl (fun j hj=>?_) ?_) fun t _=>?_
 ·have e:=w64_n hj hl
  unfold hello_each_fn2_44.b0
  rw [e,if_pos (by omega),if_pos (by omega),Int.toNat_natCast]
  clear e
  obtain ⟨b,hb⟩:=suite_tot (lg xs j)
  have hc:=contains_eq (xs:=subL xs 0 j) (lg xs j) (by rw [subL_length (by omega)]; omega)
  show (hello_suite (lg xs j)).bind _=_ ∨ ∃ t,(hello_suite (lg xs j)).bind _=_
  rw [hb]
  cases b with
  | false=>exact .inr ⟨_,rfl⟩
  | true =>
   rw [Option.bind_some,if_neg (by decide),if_pos (by omega),if_pos (by omega),if_pos (by omega),if_pos (by omega),hc]
   cases decide (lg xs j ∈ subL xs 0 j) with
   | false=>exact .inl rfl
   | true=>exact .inr ⟨_,rfl⟩
 ·unfold hello_each_fn2_44.b0
  exact ⟨_,if_neg (by omega)⟩
 ·cases t <;> exact tot_some
theorem each45_tot (xs:List Int) (m:Int) (hl:xs.length<1152921504606846976):Tot (hello_each_fn2_45 xs m):=by
 unfold hello_each_fn2_45
 refine tot_bind (hin_tot _ _ _) fun v _=>tot_if (fun _=>tot_some) fun _=>tot_bind (tot_loop hl (fun j hj=>?_) ?_) fun t _=>?_
 ·have e:=w64_n hj hl
  unfold hello_each_fn2_45.b0
  rw [e,if_pos (by omega),if_pos (by omega),Int.toNat_natCast]
  clear e
  obtain ⟨b,hb⟩:=group_tot (lg xs j)
  have hc:=contains_eq (xs:=subL xs 0 j) (lg xs j) (by rw [subL_length (by omega)]; omega)
  show (hello_group (lg xs j)).bind _=_ ∨ ∃ t,(hello_group (lg xs j)).bind _=_
  rw [hb]
  cases b with
  | false=>exact .inr ⟨_,rfl⟩
  | true =>
   rw [Option.bind_some,if_neg (by decide),if_pos (by omega),if_pos (by omega),if_pos (by omega),if_pos (by omega),hc]
   cases decide (lg xs j ∈ subL xs 0 j) with
   | false=>exact .inl rfl
   | true=>exact .inr ⟨_,rfl⟩
 ·unfold hello_each_fn2_45.b0
  exact ⟨_,if_neg (by omega)⟩
 ·cases t <;> exact tot_some
theorem certs_tot (ss:List Str) (m:Int) (hl:ss.length<1152921504606846976):Tot (hello_certs ss m):=by
 unfold hello_certs
 refine tot_bind (hin_tot _ _ _) fun v _=>tot_if (fun _=>tot_bind ?_ fun _ _=>tot_some) fun _=>tot_some
 unfold slices_ContainsFunc___string_string__fn1_91
 refine tot_bind ?_ fun _ _=>tot_ltt fun _ _=>tot_some
 unfold slices_IndexFunc___string_string__fn1_91
 refine tot_bind (tot_loop hl (fun j hj=>?_) ?_) fun t _=>?_
 ·have e:=w64_n hj hl
  unfold slices_IndexFunc___string_string__fn1_91.b0
  rw [e,if_pos (by omega),if_pos (by omega),Int.toNat_natCast]
  clear e
  obtain ⟨b,hb⟩:Tot (hello_certs_1 (lg ss j)):=by unfold hello_certs_1; exact tot_bind (hin_tot _ _ _) fun _ _=>tot_some
  rw [hb]
  cases b with
  | false=>exact .inl rfl
  | true=>exact .inr ⟨_,rfl⟩
 ·unfold slices_IndexFunc___string_string__fn1_91.b0
  exact ⟨_,if_neg (by omega)⟩
 ·cases t <;> exact tot_some
theorem fits_tot (ss:List Str) (hl:ss.length<1152921504606846976):Tot (hello_fits ss):=by
 unfold hello_fits
 refine tot_bind ⟨iter (fun j n=>w64 (n+w64 (((lg ss j).length:Int)+5))) ss.length 8,loop_pl (fun j n=>(n,(j:Int))) ss.length (fun j n=>w64 (n+w64 (((lg ss j).length:Int)+5))) 8 _ hl (fun j n hj=>?_) ?_⟩ fun _ _=>tot_ltt fun _ _=>tot_some
 ·have e:=w64_n hj hl
  unfold hello_fits.b0
  rw [e,if_pos (by omega),if_pos (by omega),Int.toNat_natCast]
  rfl
 ·unfold hello_fits.b0
  exact if_neg (by omega)
theorem load_tot (s:Str) (hs:s.length=32):Tot (num_Load s):=by
 unfold num_Load
 have hb : ∀ (j:Nat) (v:Vx 64 4),j<32 → ∃ v2,num_Load.b0 s ((j:Int),v)=some (.inl (((j+1:Nat):Int),v2)):=fun j v hj=>by
  have e:=w64_n (n:=32) hj (by decide)
  have hk : ∃ k:Nat,k<4∧w64 (3 - (w64 ((j:Int).tdiv 8)))=(k:Int):=by
   have : ∀ j:Fin 32, ∃ k:Nat,k<4∧w64 (3 - (w64 ((j.val:Int).tdiv 8)))=(k:Int):=by decide
   exact this ⟨j,hj⟩
  obtain ⟨k,hk,h2⟩:=hk
  unfold num_Load.b0
  rw [e,h2,if_pos (by omega)]
  clear e h2
  exact ⟨_,ltt_i fun z hz=>by subst hz; exact if_i (by omega) (if_i (by omega) (if_i (by omega) rfl))⟩
 obtain ⟨f,hf⟩ : ∃ f:Nat → Vx 64 4 → Vx 64 4, ∀ (j:Nat) (v:Vx 64 4),j<32 → num_Load.b0 s ((j:Int),v)=some (.inl (((j+1:Nat):Int),f j v)):=by
  have hp : ∀ (jv:Nat × Vx 64 4), ∃ v2,jv.1<32 → num_Load.b0 s ((jv.1:Int),jv.2)=some (.inl (((jv.1+1:Nat):Int),v2)):=fun jv=>by
   by_cases c:jv.1<32
   ·obtain ⟨v2,h⟩:=hb jv.1 jv.2 c; exact ⟨v2,fun _=>h⟩
   ·exact ⟨jv.2,fun h=>absurd h c⟩
  obtain ⟨f,hf⟩:=Classical.axiomOfChoice hp
  exact ⟨fun j v=>f (j,v),fun j v hj=>hf (j,v) hj⟩
 refine tot_bind ⟨iter f 32 (replicate 4 0#64),loop_pl (fun j v=>((j:Int),v)) 32 f (replicate 4 0#64) _ (by decide) (fun j v hj=>hf j v hj) ?_⟩ fun _ _=>tot_some
 unfold num_Load.b0
 exact if_neg (by show ¬ ((32:Nat):Int)<32; decide)
theorem sub_tot (x y:Vx 64 4):Tot (num_sub x y):=by
 obtain ⟨r,h,_⟩:=num_sub_ex x y
 exact ⟨r,h⟩
set_option maxRecDepth 100000 in
theorem new1 : ∃ c,num_New 1=some (.inr c):=by
 have h:(num_New 1).map (fun r=>match r with | .inl _=>false | .inr _=>true)=some true:=by kernel_rfl
 cases hx:num_New 1 with
 | none=>rw [hx] at h; cases h
 | some r =>
  cases r with
  | inl u=>rw [hx] at h; cases h
  | inr c=>exact ⟨c,rfl⟩
theorem scalar_tot (k:Str):Tot (pcurve_Scalar k):=by
 obtain ⟨c,hc⟩:=new1
 unfold pcurve_Scalar
 refine tot_bind ⟨_,hc⟩ fun r hr=>?_
 obtain rfl:Sum.inr c=r:=Option.some.inj (hc.symm.trans hr)
 refine tot_bind ?_ fun r3 _=>tot_if (fun _=>tot_bind (by unfold num_Nat_Zero; exact tot_ltt fun _ _=>tot_some) fun _ _=>tot_some) fun _=>tot_some
 unfold num_Field_Read
 refine tot_if (fun _=>tot_ltt fun _ _=>tot_some) fun h=>tot_bind (load_tot k (by omega)) fun v _=>tot_bind ?_ fun _ _=>tot_some
 unfold num_Nat_Less
 exact tot_bind (sub_tot _ _) fun _ _=>tot_ltt fun _ _=>tot_some
end Go.Proofs
end

section
namespace Go.Proofs
open Go Go.Kx
section
variable {s:Bool} {S G:List Int} {ch:List Str} {key:Str} {ro:List Str} {nm:Str} {tk:Int} {sl:Str} {psk:List (Str × Str × Int × Int × Int × Int)} {tape:Str} {clock pad limit ring:Int}
theorem psk_tot {t sec:Str} {su ad got life:Int} (hS:S.length<1152921504606846976):Tot (hello_psk s S G ch key ro nm tk sl psk tape clock pad limit ring t sec su ad got life):=by
 unfold hello_psk
 refine tot_bind (sizes_tot _) fun _ _=>tot_bind (tot_eq (contains_eq su hS)) fun _ _=>tot_if (fun _=>tot_if (fun _=>tot_bind (hin_tot _ _ _) fun _ _=>tot_if (fun _=>tot_bind (hin_tot _ _ _) fun _ _=>tot_if (fun _=>tot_bind (hin_tot _ _ _) fun _ _=>tot_if (fun _=>tot_bind (hin_tot _ _ _) fun _ _=>tot_some) fun _=>tot_some) fun _=>tot_some) fun _=>tot_some) fun _=>tot_some) fun _=>tot_some
theorem client_tot (hS:S.length<1152921504606846976) (hr:ro.length<1152921504606846976) (hp:psk.length<1152921504606846976):Tot (hello_client s S G ch key ro nm tk sl psk tape clock pad limit ring):=by
 unfold hello_client
 refine tot_bind (tot_if (fun _=>tot_some) fun _=>tot_if (fun _=>tot_some) fun _=>tot_if (fun _=>tot_some) fun _=>tot_if (fun _=>tot_some) fun _=>tot_some) fun _ _=>tot_if (fun _=>tot_some) fun _=>tot_bind (certs_tot _ _ hr) fun _ _=>tot_if (fun _=>tot_if (fun _=>tot_bind ?_ fun _ _=>tot_some) fun _=>tot_some) fun _=>tot_some
 unfold slices_ContainsFunc___api_Psk_api_Psk__fn1_75
 refine tot_bind ?_ fun _ _=>tot_ltt fun _ _=>tot_some
 unfold slices_IndexFunc___api_Psk_api_Psk__fn1_75
 refine tot_bind (tot_loop hp (fun j hj=>?_) ?_) fun t _=>?_
 ·have e:=w64_n hj hp
  unfold slices_IndexFunc___api_Psk_api_Psk__fn1_75.b0
  rw [e,if_pos (by omega),if_pos (by omega),Int.toNat_natCast]
  clear e
  obtain ⟨b,hb⟩:Tot (hello_client_1 (lg psk j).1 (lg psk j).2.1 (lg psk j).2.2.1 (lg psk j).2.2.2.1 (lg psk j).2.2.2.2.1 (lg psk j).2.2.2.2.2 s S G ch key ro nm tk sl psk tape clock pad limit ring):=by
   unfold hello_client_1
   exact tot_bind (psk_tot hS) fun _ _=>tot_some
  rw [hb]
  cases b with
  | false=>exact .inl rfl
  | true=>exact .inr ⟨_,rfl⟩
 ·unfold slices_IndexFunc___api_Psk_api_Psk__fn1_75.b0
  exact ⟨_,if_neg (by omega)⟩
 ·cases t <;> exact tot_some
theorem server_tot (hc:ch.length<1152921504606846976):Tot (hello_server s S G ch key ro nm tk sl psk tape clock pad limit ring):=by
 unfold hello_server
 refine tot_bind (scalar_tot _) fun _ _=>tot_bind (tot_if (fun _=>tot_some) fun _=>tot_if (fun _=>tot_ltt fun _ _=>tot_some) fun _=>tot_some) fun _ _=>tot_if (fun _=>tot_bind (certs_tot _ _ hc) fun _ _=>tot_if (fun _=>tot_bind (fits_tot _ hc) fun _ _=>tot_if (fun _=>tot_if (fun _=>tot_bind (hin_tot _ _ _) fun _ _=>tot_if (fun _=>tot_if (fun _=>tot_ltt fun _ _=>tot_some) fun _=>tot_some) fun _=>tot_some) fun _=>tot_some) fun _=>tot_some) fun _=>tot_some) fun _=>tot_some
theorem May_tot (hS:S.length<1152921504606846976) (hG:G.length<1152921504606846976) (hc:ch.length<1152921504606846976) (hr:ro.length<1152921504606846976) (hp:psk.length<1152921504606846976):Tot (hello_May s S G ch key ro nm tk sl psk tape clock pad limit ring):=by
 obtain ⟨b1,h1⟩:=each44_tot S 3 hS
 obtain ⟨b2,h2⟩:=each45_tot G 2 hG
 rw [May_cut h1 h2]
 exact tot_if (fun _=>tot_if (fun _=>server_tot hc) fun _=>client_tot hS hr hp) fun _=>tot_some
end
end Go.Proofs
end

section
namespace Go.Proofs
open Go Go.Kx
open TryzI Tryz
def halberdref4_times.b0  (s0:BitVec 64 × BitVec 64 × BitVec 64 × BitVec 64 × BitVec 64 × BitVec 64 × Int):Option ((BitVec 64 × BitVec 64 × BitVec 64 × BitVec 64 × BitVec 64 × BitVec 64 × Int) ⊕ (BitVec 64 × BitVec 64)) :=
 if s0.2.2.2.2.2.2<128 then ((if 63<s0.2.2.2.2.2.2 then (ltt (s0.2.1 >>> 63) fun (bit1:BitVec 64)=>(some (s0.1,s0.2.1 <<< 1,bit1))) else (some (s0.1 <<< 1,s0.2.1,s0.1 >>> 63))).bind fun (j1:BitVec 64 × BitVec 64 × BitVec 64)=>((if j1.2.2=1#64 then (ltt (s0.2.2.2.2.1 ^^^ s0.2.2.1) fun (x1:BitVec 64)=>(ltt (s0.2.2.2.2.2.1 ^^^ s0.2.2.2.1) fun (y1:BitVec 64)=>(some (x1,y1)))) else (some (s0.2.2.2.2.1,s0.2.2.2.2.2.1))).bind fun (j2:BitVec 64 × BitVec 64)=>(ltt (s0.2.2.2.1 &&& 1#64) fun (low1:BitVec 64)=>(ltt ((s0.2.2.2.1 >>> 1) ||| (s0.2.2.1 <<< 63)) fun (d1:BitVec 64)=>(ltt (s0.2.2.1 >>> 1) fun (c1:BitVec 64)=>(if low1=1#64 then (ltt (c1 ^^^ 16212958658533785600#64) fun (c2:BitVec 64)=>(ltt (w64 (s0.2.2.2.2.2.2+1)) fun (i1:Int)=>(some (.inl (j1.1,j1.2.1,c2,d1,j2.1,j2.2,i1))))) else (ltt (w64 (s0.2.2.2.2.2.2+1)) fun (i2:Int)=>(some (.inl (j1.1,j1.2.1,c1,d1,j2.1,j2.2,i2)))))))))) else (some (.inr (s0.2.2.2.2.1,s0.2.2.2.2.2.1)))
def halberdref4_times (a_:BitVec 64) (b:BitVec 64) (c:BitVec 64) (d:BitVec 64):Option (BitVec 64 × BitVec 64) :=
 (loop (halberdref4_times.b0) BIG (a_,b,c,d,0#64,0#64,0)).bind fun (t_1:BitVec 64 × BitVec 64)=>(some (t_1.1,t_1.2))
end Go.Proofs
end

section
namespace Go.Proofs
open Go Go.Kx
abbrev E2:=BitVec 64 × BitVec 64
def xr (a b:E2):E2:=(a.1 ^^^ b.1,a.2 ^^^ b.2)
def z2:E2:=(0#64,0#64)
theorem xr_comm (a b:E2):xr a b=xr b a:=by simp [xr,BitVec.xor_comm]
theorem xr_assoc (a b c:E2):xr (xr a b) c=xr a (xr b c):=by simp [xr,BitVec.xor_assoc]
theorem xr_zero (a:E2):xr a z2=a:=by simp [xr,z2]
theorem zero_xr (a:E2):xr z2 a=a:=by simp [xr,z2]
def half (e:E2):E2:=((e.1 >>> 1) ^^^ (16212958658533785600#64 &&& (-(e.2 &&& 1#64))),(e.2 >>> 1) ||| (e.1 <<< 63))
theorem half_eq (a b:BitVec 64):gcm_element_half a b=some (half (a,b)):=rfl
theorem or_xor63 (x y:BitVec 64):(x >>> 1) ||| (y <<< 63)=(x >>> 1) ^^^ (y <<< 63):=by
 apply BitVec.eq_of_getLsbD_eq
 intro i hi
 simp only [BitVec.getLsbD_or,BitVec.getLsbD_xor,BitVec.getLsbD_ushiftRight,BitVec.getLsbD_shiftLeft]
 by_cases h:i<63
 ·simp [h]
 ·have:i=63:=by omega
  subst this
  simp
theorem and1 (x:BitVec 64):x &&& 1#64=if x.getLsbD 0 then 1#64 else 0#64:=by
 rw [BitVec.and_one_eq_setWidth_ofBool_getLsbD]
 cases x.getLsbD 0 <;> rfl
theorem mask_xor (c x y:BitVec 64):c &&& (-((x ^^^ y) &&& 1#64))=(c &&& (-(x &&& 1#64))) ^^^ (c &&& (-(y &&& 1#64))):=by
 rw [and1,and1,and1,BitVec.getLsbD_xor]
 cases x.getLsbD 0 <;> cases y.getLsbD 0 <;> simp
theorem half_xr (a b:E2):half (xr a b)=xr (half a) (half b):=by
 unfold half xr
 refine Prod.ext ?_ ?_
 ·simp only
  rw [BitVec.ushiftRight_xor_distrib,mask_xor]
  simp only [BitVec.xor_assoc]
  rw [← BitVec.xor_assoc (b.1 >>> 1),BitVec.xor_comm (b.1 >>> 1),BitVec.xor_assoc]
 ·simp only
  rw [or_xor63,or_xor63,or_xor63,BitVec.ushiftRight_xor_distrib,BitVec.shiftLeft_xor_distrib]
  simp only [BitVec.xor_assoc]
  rw [← BitVec.xor_assoc (b.2 >>> 1),BitVec.xor_comm (b.2 >>> 1),BitVec.xor_assoc]
theorem half_zero:half z2=z2:=by decide
def hp:Nat → E2 → E2
 | 0,e=>e
 | n+1,e=>half (hp n e)
theorem hp_xr (a b:E2) : ∀ n,hp n (xr a b)=xr (hp n a) (hp n b)
 | 0=>rfl
 | n+1=>by simp only [hp]; rw [hp_xr a b n,half_xr]
def sel (b:Bool) (e:E2):E2:=if b then e else z2
theorem half_sel (b:Bool) (e:E2):half (sel b e)=sel b (half e):=by cases b <;> simp [sel,half_zero]
def bitE (a:E2) (i:Nat):Bool:=if i<64 then a.1.getLsbD (63 - i) else a.2.getLsbD (127 - i)
def SS (a h:E2):Nat → Nat → E2
 | m,0=>z2
 | m,n+1=>xr (sel (bitE a m) h) (half (SS a h (m+1) n))
def prod (a h:E2):E2:=SS a h 0 128
def tabF (h:E2) (i:Nat):Nat → E2
 | 0=>z2
 | k+1=>xr (tabF h i k) (sel (i.testBit (3 - k)) (hp k h))
def tabV (h:E2) (k:Nat):Vector E2 16:=Vector.ofFn fun i=>tabF h i.val k
def foldV:Vx 64 16:=Vector.ofFn fun i=>(hp 4 (0#64,BitVec.ofNat 64 i.val)).1
theorem bit_iop : ∀ i:Fin 16, ∀ k:Fin 4,decide (iop (· &&& ·) (i.val:Int) ((8 / 2 ^ k.val:Nat):Int) ≠ 0)=i.val.testBit (3 - k.val):=by decide +kernel
theorem gsum_b1 (h:E2) (k:Nat) (hk:k<4):loop (gcm_newSum.b1 (((8 / 2 ^ k:Nat):Int),tabV h k,(hp k h).1,(hp k h).2)) BIG (0,tabV h k)=some (tabV h (k+1)):=by
 refine loop_fill _ (fun i=>tabF h i (k+1)) id (by omega) (fun i v hi hv=>?_) (fun v=>?_)
 ·have e1:w64 ((i:Int)+1)=((i+1:Nat):Int):=w64_add (b:=1) (by omega)
  have hb:=bit_iop ⟨i,hi⟩ ⟨k,hk⟩
  dsimp only at hb
  have hvi:vg v i=tabF h i k:=by rw [hv i (Nat.le_refl _) hi,tabV,vg_ofFn hi]
  unfold gcm_newSum.b1
  simp only [e1,Int.toNat_natCast]
  clear e1
  refine if_i (by omega) ?_
  by_cases c:i.testBit (3 - k)=true
  ·rw [c,decide_eq_true_iff] at hb
   refine if_i hb (if_i (by omega) (if_i (by omega) (ltt_i fun m hm=>if_i (by omega) (if_i (by omega) (ltt_i fun m2 hm2=>?_)))))
   have:m2=vp v i (tabF h i (k+1)):=by
    rw [hm2,hm,vg_vp hi hi,if_pos rfl,hvi]
    refine vec_ext fun j hj=>?_
    rw [vg_vp hi hj,vg_vp hi hj,vg_vp hi hj]
    by_cases cj:i=j
    ·rw [if_pos cj,if_pos cj]
     simp only [tabF,c,sel,xr]; rfl
    ·rw [if_neg cj,if_neg cj,if_neg cj]
   rw [this]
  ·have cf:i.testBit (3 - k)=false:=by simpa using c
   rw [cf,decide_eq_false_iff_not] at hb
   refine if_n hb ?_
   have:v=vp v i (tabF h i (k+1)):=by
    refine vec_ext fun j hj=>?_
    rw [vg_vp hi hj]
    by_cases cj:i=j
    ·rw [if_pos cj, ← cj,hvi]
     simp [tabF,cf,sel,xr_zero]
    ·rw [if_neg cj]
   rw [← this]
 ·unfold gcm_newSum.b1
  exact if_n (by omega) rfl
theorem gsum_b3 (i:Nat) (hi:i<16):loop (gcm_newSum.b3) BIG (0,0#64,BitVec.ofInt 64 (i:Int))=some (hp 4 (0#64,BitVec.ofNat 64 i)):=by
 refine loop_fn (fun k=>((k:Int),(hp k (0#64,BitVec.ofNat 64 i)).1,(hp k (0#64,BitVec.ofNat 64 i)).2)) 4 _ (by omega) (by simp [hp,BitVec.ofInt_natCast]) (fun k hk=>?_) ?_
 ·have e1:w64 ((k:Int)+1)=((k+1:Nat):Int):=w64_add (b:=1) (by omega)
  unfold gcm_newSum.b3
  simp only [e1]
  refine if_i (by omega) (bind_i (half_eq _ _) rfl)
 ·exact if_n (by show ¬ (((4:Nat):Int)<4); omega) rfl
theorem newSum_eq (h:E2):gcm_newSum h.1 h.2=some (tabV h 4,foldV):=by
 unfold gcm_newSum
 refine bind_i (v:=tabV h 4) (loop_fn (fun k=>(((8 / 2 ^ k:Nat):Int),tabV h k,(hp k h).1,(hp k h).2)) 4 _ (by omega) ?_ (fun k hk=>?_) ?_) (bind_i (v:=foldV) ?_ rfl)
 ·refine Prod.ext rfl (Prod.ext ?_ rfl)
  refine vec_ext fun i hi=>?_
  rw [vg_eq' hi]
  simp only [Vector.getElem_replicate]
  show _=vg (tabV h 0) i
  rw [tabV,vg_ofFn hi]; rfl
 ·have e1:w64 (((8 / 2 ^ k:Nat):Int).tdiv 2)=((8 / 2 ^ (k+1):Nat):Int):=by
   have:=w64_div (a:=8 / 2 ^ k) (b:=2) (by have:=Nat.div_le_self 8 (2 ^ k); omega)
   rw [Nat.div_div_eq_div_mul, ← Nat.pow_succ] at this
   exact this
  have hpos:0<8 / 2 ^ k:=by
   rcases k with _ | _ | _ | _ | k <;> first | decide | omega
  unfold gcm_newSum.b0
  simp only [e1]
  refine if_i (by omega) (bind_i (gsum_b1 h k hk) (bind_i (half_eq _ _) (ltt_i fun b hb=>?_)))
  rw [hb]; rfl
 ·exact if_n (by show ¬ (0:Int)<((8 / 2 ^ 4:Nat):Int); decide) rfl
 ·refine loop_fill _ (fun i=>(hp 4 (0#64,BitVec.ofNat 64 i)).1) id (by omega) (fun i v hi hv=>?_) (fun v=>?_)
  ·have e1:w64 ((i:Int)+1)=((i+1:Nat):Int):=w64_add (b:=1) (by omega)
   unfold gcm_newSum.b2
   simp only [e1,Int.toNat_natCast]
   refine if_i (by omega) (bind_i (gsum_b3 i hi) (if_i (by omega) (ltt_i fun m hm=>?_)))
   rw [hm]
  ·unfold gcm_newSum.b2
   exact if_n (by omega) rfl
theorem fold0 : ∀ i:Fin 16,(hp 4 (0#64,BitVec.ofNat 64 i.val)).2=0#64:=by decide +kernel
theorem half_even (a b:BitVec 64) (h:b.getLsbD 0=false):half (a,b)=(a >>> 1,(b >>> 1) ||| (a <<< 63)):=by
 unfold half
 simp only
 rw [and1,h]
 simp
theorem hp4_even (a b:BitVec 64) (h : ∀ i,i<4 → b.getLsbD i=false):hp 4 (a,b)=(a >>> 4,(b >>> 4) ||| (a <<< 60)):=by
 have h1:half (a,b)=(a >>> 1,(b >>> 1) ||| (a <<< 63)):=half_even a b (h 0 (by decide))
 have h2:half (a >>> 1,(b >>> 1) ||| (a <<< 63))=(a >>> 1 >>> 1,(((b >>> 1) ||| (a <<< 63)) >>> 1) ||| ((a >>> 1) <<< 63)):=half_even _ _ (by simpa [BitVec.getLsbD_ushiftRight] using h 1 (by decide))
 have h3:half (a >>> 1 >>> 1,(((b >>> 1) ||| (a <<< 63)) >>> 1) ||| ((a >>> 1) <<< 63))=(a >>> 1 >>> 1 >>> 1,(((((b >>> 1) ||| (a <<< 63)) >>> 1) ||| ((a >>> 1) <<< 63)) >>> 1) ||| ((a >>> 1 >>> 1) <<< 63)):=half_even _ _ (by simpa [BitVec.getLsbD_ushiftRight] using h 2 (by decide))
 have h4:half (a >>> 1 >>> 1 >>> 1,(((((b >>> 1) ||| (a <<< 63)) >>> 1) ||| ((a >>> 1) <<< 63)) >>> 1) ||| ((a >>> 1 >>> 1) <<< 63))=(a >>> 1 >>> 1 >>> 1 >>> 1,(((((((b >>> 1) ||| (a <<< 63)) >>> 1) ||| ((a >>> 1) <<< 63)) >>> 1) ||| ((a >>> 1 >>> 1) <<< 63)) >>> 1) ||| ((a >>> 1 >>> 1 >>> 1) <<< 63)):=half_even _ _ (by simpa [BitVec.getLsbD_ushiftRight] using h 3 (by decide))
 show half (half (half (half (a,b))))=_
 rw [h1,h2,h3,h4]
 refine Prod.ext ?_ ?_
 ·simp only [← BitVec.shiftRight_add]
 ·simp only
  apply BitVec.eq_of_getLsbD_eq
  intro i hi
  simp only [BitVec.getLsbD_or,BitVec.getLsbD_ushiftRight,BitVec.getLsbD_shiftLeft]
  rcases (by omega:i<60 ∨ i=60 ∨ i=61 ∨ i=62 ∨ i=63) with c | c | c | c | c
  ·have e:1+(1+(1+(1+i)))=4+i:=by omega
   simp [e,c,show i<63 by omega,show 1+i<63 by omega,show 1+(1+i)<63 by omega,show 1+(1+(1+i))<63 by omega]
  all_goals (subst c; simp)
theorem hp4_eq (z:E2):hp 4 z=((z.1 >>> 4) ^^^ vg foldV ((z.2 &&& 15#64).toNat),(z.2 >>> 4) ||| (z.1 <<< 60)):=by
 have hv:(z.2 &&& 15#64).toNat<16:=by
  rw [BitVec.toNat_and]
  exact Nat.lt_of_le_of_lt Nat.and_le_right (by decide)
 have hz:z=xr (z.1,z.2 &&& ~~~15#64) (0#64,z.2 &&& 15#64):=by
  unfold xr
  refine Prod.ext (by simp) ?_
  simp only
  apply BitVec.eq_of_getLsbD_eq
  intro i hi
  simp only [BitVec.getLsbD_xor,BitVec.getLsbD_and,BitVec.getLsbD_not,hi,decide_true,Bool.true_and]
  cases z.2.getLsbD i <;> cases (15#64).getLsbD i <;> rfl
 have he : ∀ i,i<4 → (z.2 &&& ~~~15#64).getLsbD i=false:=by
  intro i hi
  rw [BitVec.getLsbD_and]
  have:(~~~15#64).getLsbD i=false:=by
   rcases i with _ | _ | _ | _ | i <;> first | decide | omega
  rw [this,Bool.and_false]
 have h1:=hp4_even z.1 (z.2 &&& ~~~15#64) he
 have h2:hp 4 (0#64,z.2 &&& 15#64)=(vg foldV ((z.2 &&& 15#64).toNat),0#64):=by
  have hn:z.2 &&& 15#64=BitVec.ofNat 64 ((z.2 &&& 15#64).toNat):=by simp
  have:=fold0 ⟨_,hv⟩
  dsimp only at this
  rw [foldV,vg_ofFn hv]
  refine Prod.ext ?_ ?_
  ·simp only; rw [← hn]
  ·simp only; rw [hn]; exact this
 rw [hz,hp_xr,h1,h2, ← hz]
 unfold xr
 refine Prod.ext rfl ?_
 simp only [BitVec.xor_zero]
 congr 1
 apply BitVec.eq_of_getLsbD_eq
 intro i hi
 simp only [BitVec.getLsbD_ushiftRight,BitVec.getLsbD_and,BitVec.getLsbD_not]
 by_cases c:4+i<64
 ·have:(15#64).getLsbD (4+i)=false:=by
   show (BitVec.ofNat 64 15).getLsbD (4+i)=false
   rw [BitVec.getLsbD_ofNat,Nat.testBit_lt_two_pow (Nat.lt_of_lt_of_le (by decide:15<2 ^ 4) (Nat.pow_le_pow_right (by decide) (by omega)))]
   simp
  simp only [c,decide_true,Bool.true_and,this,Bool.not_false,Bool.and_true]
 ·rw [BitVec.getLsbD_of_ge z.2 (4+i) (by omega)]; simp
theorem SS4 (a h:E2) (m n:Nat):SS a h m (n+4)=xr (xr (xr (xr (xr z2 (sel (bitE a m) (hp 0 h))) (sel (bitE a (m+1)) (hp 1 h))) (sel (bitE a (m+2)) (hp 2 h))) (sel (bitE a (m+3)) (hp 3 h))) (hp 4 (SS a h (m+4) n)):=by
 simp only [SS,hp,half_xr,half_sel,zero_xr,xr_assoc]
end Go.Proofs
end

section
namespace Go.Proofs
open Go Go.Kx
open TryzI Tryz
def halberdref1_Be.b0 (size:Int) (s0:Int × Int × List (BitVec 8)):Option ((Int × Int × List (BitVec 8)) ⊕ (List (BitVec 8))) :=
 if 0≤s0.2.1 then (if 0≤s0.2.1∧s0.2.1<((size).toNat:Int) then (if (s0.2.1).toNat<(s0.2.2).length then (ltt (s0.2.2.set ((s0.2.1).toNat) (BitVec.ofInt 8 (iop (· &&& ·) s0.1 255))) fun (m_1:List (BitVec 8))=>(ltt (w64 (s0.2.1 - 1)) fun (i2:Int)=>(some (.inl (shrI' s0.1 8,i2,m_1))))) else none) else none) else (some (.inr s0.2.2))
def halberdref1_Be (x:Int) (size:Int):Option (Str) :=
 if 0≤size∧size≤17592186044416 then (ltt (w64 (size - 1)) fun (i1:Int)=>((loop (halberdref1_Be.b0 size) BIG (x,i1,List.replicate ((size).toNat) 0#8)).bind fun (t_1:List (BitVec 8))=>(if (t_1).length=(size).toNat then (some t_1) else none))) else none
end Go.Proofs
end

section
namespace Go.Proofs
open Go Go.Kx
def bytesI (x:Int) (n:Nat):Str:=(List.range n).map fun i=>BitVec.ofInt 8 (x / 256 ^ (n - 1 - i))
theorem bytesI_length (x:Int) (n:Nat):(bytesI x n).length=n:=by simp [bytesI]
def be8 (s:Str) (a:Nat):Nat → BitVec 64
 | 0=>0#64
 | j+1=>(be8 s a j <<< 8) ||| (s.getD (a+j) 0#8).setWidth 64
theorem be8_sub (s:Str) (a b c:Nat) : ∀ n,c+n≤b - a → be8 (sub s a b) c n=be8 s (a+c) n
 | 0,_=>rfl
 | n+1,h=>by
  show (be8 (sub s a b) c n <<< 8) ||| _=(be8 s (a+c) n <<< 8) ||| _
  rw [be8_sub s a b c n (by omega),sub_getD _ _ _ _ (by omega),Nat.add_assoc]
def hexW (w:BitVec 64) (z:Nat):Str:=(List.range z).map fun i=>(w >>> (8 * (z - 1 - i))).setWidth 8
theorem hexW_length (w:BitVec 64) (z:Nat):(hexW w z).length=z:=by simp [hexW]
end Go.Proofs
end

section
namespace Go.Proofs
open Go Go.Kx
open TryzI Tryz
def halberdref4_double (x:BitVec 8):Option (BitVec 8) :=
 if (127#8).toNat<(x).toNat then (ltt ((x <<< 1) ^^^ 27#8) fun (x1:BitVec 8)=>(some x1)) else (some (x <<< 1))
end Go.Proofs
end

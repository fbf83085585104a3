/-
  Part 2 of the proof of HelloForms.
-/
import Derived.Test.YtkgeoekcnlgfnaaGreatDoorKf1
import Derived.Test.YtkgeoekcnlgfnaaGreatDoorKf2
import Derived.Test.YtkgeoekcnlgfnaaGreatDoorKf3
import Derived.Test.YtkgeoekcnlgfnaaGreatDoorKf4
import Derived.Test.YtkgeoekcnlgfnaaGreatDoorKf5
import Derived.Test.YtkgeoekcnlgfnaaGreatDoorKf6
import Derived.Test.YtkgeoekcnlgfnaaGreatDoorKf7
import Derived.Test.YtkgeoekcnlgfnaaGreatDoorKf8
import Derived.Test.YtkgeoekcnlgfnaaGreatDoorKf9
import Derived.Test.YtkgeoekcnlgfnaaGreatDoorKf10
import Derived.Test.YtkgeoekcnlgfnaaGreatDoorKf11
import Derived.Test.YtkgeoekcnlgfnaaGreatDoorKf12
import Derived.Test.YtkgeoekcnlgfnaaGreatDoorKf13
import Derived.Test.YtkgeoekcnlgfnaaGreatDoorKf14
import Derived.Test.YtkgeoekcnlgfnaaGreatDoorKf15
import Derived.Test.YtkgeoekcnlgfnaaGreatDoorKf16
import Derived.Test.YtkgeoekcnlgfnaaGreatDoorKf17
import Derived.Test.YtkgeoekcnlgfnaaGreatDoorKf18
import Derived.Test.YtkgeoekcnlgfnaaGreatDoorKf19
import Derived.Test.YtkgeoekcnlgfnaaGreatDoorKf20
import Derived.Test.YtkgeoekcnlgfnaaGreatDoorKf21
import Derived.Test.YtkgeoekcnlgfnaaGreatDoorKf22
import Derived.Test.YtkgeoekcnlgfnaaGreatDoorKf23
import Derived.Test.YtkgeoekcnlgfnaaGreatDoorKf24
import Derived.Test.YtkgeoekcnlgfnaaGreatDoorKf25
import Derived.Test.YtkgeoekcnlgfnaaGreatDoorKf26
import Derived.Test.YtkgeoekcnlgfnaaGreatDoorKf27
import Derived.Test.YtkgeoekcnlgfnaaGreatDoorKf28
import Derived.Test.YtkgeoekcnlgfnaaGreatDoorKf29
import Derived.Test.YtkgeoekcnlgfnaaGreatDoorKf30
import Derived.Test.YtkgeoekcnlgfnaaGreatDoorHelloFormsA1
set_option linter.unusedVariables false
set_option linter.unusedSimpArgs false
section
namespace Go.Proofs
open Go Go.Kx
theorem allD {p:Nat → Bool} (h:((List.range 64).all fun k=>p (k+1))=true) {d:Nat} (h1:1≤d) (h2:d≤64):p d=true:=by
 have:=List.all_eq_true.1 h (d - 1) (List.mem_range.2 (by omega))
 rwa [show d - 1+1=d by omega] at this
theorem eq_beq {α:Type} [BEq α] [LawfulBEq α] {a b:α} (h:(a == b)=true):a=b:=eq_of_beq h
set_option maxRecDepth 100000 in
theorem e44d {d:Nat} (h1:1≤d) (h2:d≤64):hello_each_fn2_44 [4867+(d:Int)] 3=some false :=
 eq_beq (allD (p:=fun d=>hello_each_fn2_44 [4867+(d:Int)] 3 == some false) (by kernel_rfl) h1 h2)
set_option maxRecDepth 100000 in
theorem e45d {d:Nat} (h1:1≤d) (h2:d≤64):hello_each_fn2_45 [30+(d:Int)] 2=some false :=
 eq_beq (allD (p:=fun d=>hello_each_fn2_45 [30+(d:Int)] 2 == some false) (by kernel_rfl) h1 h2)
theorem e44n:hello_each_fn2_44 [] 3=some false:=by kernel_rfl
theorem e45n:hello_each_fn2_45 [] 2=some false:=by kernel_rfl
theorem e44t:hello_each_fn2_44 [4865,4865] 3=some false:=by kernel_rfl
theorem e45t:hello_each_fn2_45 [23,23] 2=some false:=by kernel_rfl
theorem ce2:hello_certs [[99#8],[]] 1=some false:=by kernel_rfl
theorem fi2:hello_fits [[99#8],[]]=some true:=by kernel_rfl
theorem cli_chain {s:Bool} {S G:List Int} {ch:List Str} {key:Str} {ro:List Str} {nm:Str} {tk:Int} {sl:Str} {psk:List (Str × Str × Int × Int × Int × Int)} {tape:Str} {clock pad limit ring:Int} (h:ch.length ≠ 0) :
  hello_client s S G ch key ro nm tk sl psk tape clock pad limit ring=some false:=by
 unfold hello_client
 exact bind_i (v:=true) (if_i (by omega) rfl) (if_i rfl rfl)
theorem cli_tickets {s:Bool} {S G:List Int} {ro:List Str} {nm:Str} {tk:Int} {psk:List (Str × Str × Int × Int × Int × Int)} {tape:Str} {clock pad limit ring:Int} (h:tk ≠ 0) :
  hello_client s S G [] [] ro nm tk [] psk tape clock pad limit ring=some false:=by
 unfold hello_client
 exact bind_i (v:=true) (if_n (by decide) (if_n (by decide) (if_n (by decide) (if_i h rfl)))) (if_i rfl rfl)
theorem cli_seal {s:Bool} {S G:List Int} {ro:List Str} {nm:Str} {tk:Int} {sl:Str} {psk:List (Str × Str × Int × Int × Int × Int)} {tape:Str} {clock pad limit ring:Int} (h:sl ≠ []) :
  hello_client s S G [] [] ro nm tk sl psk tape clock pad limit ring=some false:=by
 unfold hello_client
 exact bind_i (v:=true) (if_n (by decide) (if_n (by decide) (if_i h rfl))) (if_i rfl rfl)
theorem cli_certs {s:Bool} {S G:List Int} {ro:List Str} {nm:Str} {tape:Str} {clock pad limit ring:Int} (h:hello_certs ro 0=some false) :
  hello_client s S G [] [] ro nm 0 [] [] tape clock pad limit ring=some false:=by
 unfold hello_client
 exact bind_i (v:=false) (if_n (by decide) (if_n (by decide) (if_n (by decide) (if_n (by decide) rfl)))) (if_n (by decide) (bind_i h rfl))
theorem srv_key {s:Bool} {S G:List Int} {ch ro:List Str} {nm:Str} {psk:List (Str × Str × Int × Int × Int × Int)} {tape:Str} {clock pad limit ring:Int} :
  hello_server s S G ch [] ro nm 0 [] psk tape clock pad limit ring=some false:=by
 obtain ⟨v,hv⟩:=Scal0
 unfold hello_server
 exact bind_i hv (bind_i (v:=true) (if_n (by decide) (if_i rfl rfl)) rfl)
theorem ce_big {s:Str} (h:16384<s.length):hello_certs [s] 0=some false:=by
 have hin:hello_in (s.length:Int) 1 16384=some false:=by rw [hin_eq]; congr 1; exact decide_eq_false (by omega)
 have h91:hello_certs_1 s=some true:=by
  unfold hello_certs_1
  exact bind_i hin rfl
 unfold hello_certs
 refine bind_i (v:=true) (by rw [hin_eq]; rfl) (if_i rfl (bind_i (v:=true) ?_ rfl))
 unfold slices_ContainsFunc___string_string__fn1_91
 refine bind_i (v:=0) ?_ rfl
 unfold slices_IndexFunc___string_string__fn1_91
 refine bind_i (v := .inr 0) (loop_fn (fun _=>(0:Int)) 0 _ (by decide) rfl (fun j hj=>by omega) ?_) rfl
 unfold slices_IndexFunc___string_string__fn1_91.b0
 exact if_i (by simp) (if_i (by simp) (bind_i h91 (if_i rfl rfl)))
theorem inB_n {x l m:Int} (h : ¬ (l≤x∧x≤m)):inB x l m=false:=decide_eq_false h
theorem w_add {a:Int} {d:Nat} (h:0≤a) (h2:a≤5000000000) (hd:d≤64):w64 (a+(d:Int))=a+(d:Int):=w64_id (by omega) (by omega)
theorem w_sub {a:Int} {d:Nat} (h:0≤a) (h2:a≤5000000000) (hd:d≤64):w64 (a - (d:Int))=a - (d:Int):=w64_id (by omega) (by omega)
theorem lt20' : ∀ k:Nat,k<20 → k=0 ∨ k=1 ∨ k=2 ∨ k=3 ∨ k=4 ∨ k=5 ∨ k=6 ∨ k=7 ∨ k=8 ∨ k=9 ∨ k=10 ∨ k=11 ∨ k=12 ∨ k=13 ∨ k=14 ∨ k=15 ∨ k=16 ∨ k=17 ∨ k=18 ∨ k=19:=by decide
theorem lt20 {k:Nat} (h:k<20):k=0 ∨ k=1 ∨ k=2 ∨ k=3 ∨ k=4 ∨ k=5 ∨ k=6 ∨ k=7 ∨ k=8 ∨ k=9 ∨ k=10 ∨ k=11 ∨ k=12 ∨ k=13 ∨ k=14 ∨ k=15 ∨ k=16 ∨ k=17 ∨ k=18 ∨ k=19:=lt20' k h
theorem mod20 (x:BitVec 64) : ∃ k:Nat,k<20∧x % 20#64=BitVec.ofNat 64 k:=by
 have h:(x % 20#64).toNat<20:=by rw [BitVec.toNat_umod]; exact Nat.mod_lt _ (by decide)
 generalize x % 20#64=u at h ⊢
 exact ⟨u.toNat,h,by simp⟩
set_option maxRecDepth 100000 in
set_option maxHeartbeats 4000000 in
theorem HelloForms_true (which x:Int) (server:Bool):halberdlaw24_HelloForms which x server=some true:=by
 unfold halberdlaw24_HelloForms
 have i63:iop (· &&& ·) x 63=x % 64:=and_mask x 6 (by decide)
 rw [i63]
 clear i63
 obtain ⟨d,hd,h1,h2⟩ : ∃ d:Nat,w64 (1+x % 64)=(d:Int)∧1≤d∧d≤64:=by
  have h1:=Int.emod_nonneg x (show (64:Int) ≠ 0 by decide)
  have h2:=Int.emod_lt_of_pos x (show (0:Int)<64 by decide)
  exact ⟨(1+x % 64).toNat,by rw [w64_id (by omega) (by omega)]; omega,by omega,by omega⟩
 rw [hd]
 clear hd
 refine bind_i awake24 (if_n (by decide) (bind_i Client24 ?_))
 obtain ⟨k,hk,hu⟩:=mod20 (BitVec.ofInt 64 which)
 rw [hu]
 clear hu which x
 have i31:iop (· &&& ·) (d:Int) 31=(d:Int) % 32:=and_mask (d:Int) 5 (by decide)
 obtain ⟨e,he,he1,he2,he3⟩ : ∃ e:Nat,w64 (32 - (d:Int) % 32)=(e:Int)∧1≤e∧e≤32∧((d:Int) % 32=0 ↔ e=32):=by
  exact ⟨(32 - (d:Int) % 32).toNat,by rw [w64_id (by omega) (by omega)]; omega,by omega,by omega,by omega⟩
 have z1:halberdlaw24_z (16384+(d:Int))=some (nl (16384+d)):=by
  have:=z24_eq (16384+d) (by omega)
  rwa [show ((16384+d:Nat):Int)=16384+(d:Int) by omega] at this
 have z2:halberdlaw24_z (65536+(d:Int))=some (nl (65536+d)):=by
  have:=z24_eq (65536+d) (by omega)
  rwa [show ((65536+d:Nat):Int)=65536+(d:Int) by omega] at this
 have z3:halberdlaw24_z (e:Int)=some (nl e):=z24_eq e (by omega)
 have wa:=w_add (a:=4867) (by decide) (by decide) h2
 have wb:=w_add (a:=30) (by decide) (by decide) h2
 have wc:=w_sub (a:=0) (by decide) (by decide) h2
 have wd:=w_add (a:=4294967295) (by decide) (by decide) h2
 have we:=w_add (a:=16384) (by decide) (by decide) h2
 have wf:=w_sub (a:=4) (by decide) (by decide) h2
 have wg:=w_add (a:=16777216) (by decide) (by decide) h2
 have wh:=w_sub (a:=33290) (by decide) (by decide) h2
 have wi:=w_add (a:=262144) (by decide) (by decide) h2
 have wj:=w_add (a:=65536) (by decide) (by decide) h2
 cases server with
 | false =>
  refine bind_i (v:=(false,[4865,4867],[29,23],[],[],[],[97#8],[])) (if_n (by decide) rfl) ?_
  refine ltt_i fun d1 hd1=>?_
  subst hd1
  simp only [wa,wb,wc,wd,we,wf,wg,wh,wi,wj,i31,he]
  clear wa wb wc wd we wf wg wh wi wj i31 he
  rcases lt20 hk with rfl | rfl | rfl | rfl | rfl | rfl | rfl | rfl | rfl | rfl | rfl | rfl | rfl | rfl | rfl | rfl | rfl | rfl | rfl | rfl
  ·skip
   refine ltt_i fun y hy=>?_
   subst hy
   refine if_i (by decide) ?_
   refine bind_i (v:=false) (if_n (by decide) rfl) (if_n (by decide) ?_)
   have hM:hello_May false [] [29,23] [] [] [] [97#8] 0 [] [] [] 1000 0 10 33290=some false:=by rw [May_cut e44n e45C]; rfl
   exact bind_i hM (if_i rfl (bind_i Client24 (bind_i MayC (if_i rfl (bind_i Server24 (bind_i MayS rfl))))))
  ·skip
   refine ltt_i fun y0 hy0=>?_
   subst hy0
   refine if_n (by decide) ?_
   refine ltt_i fun y hy=>?_
   subst hy
   refine if_i (by decide) ?_
   refine bind_i (v:=false) (if_n (by decide) rfl) (if_n (by decide) ?_)
   have hM:hello_May false [4865,4865] [29,23] [] [] [] [97#8] 0 [] [] [] 1000 0 10 33290=some false:=by rw [May_cut e44t e45C]; rfl
   exact bind_i hM (if_i rfl (bind_i Client24 (bind_i MayC (if_i rfl (bind_i Server24 (bind_i MayS rfl))))))
  ·skip
   refine ltt_i fun y0 hy0=>?_
   subst hy0
   refine if_n (by decide) ?_
   refine ltt_i fun y1 hy1=>?_
   subst hy1
   refine if_n (by decide) ?_
   refine ltt_i fun y hy=>?_
   subst hy
   refine if_i (by decide) ?_
   refine bind_i (v:=false) (if_n (by decide) rfl) (if_n (by decide) ?_)
   have hM:hello_May false [4867+(d:Int)] [29,23] [] [] [] [97#8] 0 [] [] [] 1000 0 10 33290=some false:=by rw [May_cut (e44d h1 h2) e45C]; rfl
   exact bind_i hM (if_i rfl (bind_i Client24 (bind_i MayC (if_i rfl (bind_i Server24 (bind_i MayS rfl))))))
  ·skip
   refine ltt_i fun y0 hy0=>?_
   subst hy0
   refine if_n (by decide) ?_
   refine ltt_i fun y1 hy1=>?_
   subst hy1
   refine if_n (by decide) ?_
   refine ltt_i fun y2 hy2=>?_
   subst hy2
   refine if_n (by decide) ?_
   refine ltt_i fun y hy=>?_
   subst hy
   refine if_i (by decide) ?_
   refine bind_i (v:=false) (if_n (by decide) rfl) (if_n (by decide) ?_)
   have hM:hello_May false [4865,4867] [] [] [] [] [97#8] 0 [] [] [] 1000 0 10 33290=some false:=by rw [May_cut e44C e45n]; rfl
   exact bind_i hM (if_i rfl (bind_i Client24 (bind_i MayC (if_i rfl (bind_i Server24 (bind_i MayS rfl))))))
  ·skip
   refine ltt_i fun y0 hy0=>?_
   subst hy0
   refine if_n (by decide) ?_
   refine ltt_i fun y1 hy1=>?_
   subst hy1
   refine if_n (by decide) ?_
   refine ltt_i fun y2 hy2=>?_
   subst hy2
   refine if_n (by decide) ?_
   refine ltt_i fun y3 hy3=>?_
   subst hy3
   refine if_n (by decide) ?_
   refine ltt_i fun y4 hy4=>?_
   subst hy4
   refine bind_i (v:=(false,[23,23],[],[],0,[],[],1000,0,10,33290)) ?_ ?_
   ·refine if_i (by decide) ?_
    rfl
   refine bind_i (v:=false) (if_n (by decide) rfl) (if_n (by decide) ?_)
   have hM:hello_May false [4865,4867] [23,23] [] [] [] [97#8] 0 [] [] [] 1000 0 10 33290=some false:=by rw [May_cut e44C e45t]; rfl
   exact bind_i hM (if_i rfl (bind_i Client24 (bind_i MayC (if_i rfl (bind_i Server24 (bind_i MayS rfl))))))
  ·skip
   refine ltt_i fun y0 hy0=>?_
   subst hy0
   refine if_n (by decide) ?_
   refine ltt_i fun y1 hy1=>?_
   subst hy1
   refine if_n (by decide) ?_
   refine ltt_i fun y2 hy2=>?_
   subst hy2
   refine if_n (by decide) ?_
   refine ltt_i fun y3 hy3=>?_
   subst hy3
   refine if_n (by decide) ?_
   refine ltt_i fun y4 hy4=>?_
   subst hy4
   refine bind_i (v:=(false,[30+(d:Int)],[],[],0,[],[],1000,0,10,33290)) ?_ ?_
   ·refine if_n (by decide) ?_
    refine ltt_i fun y hy=>?_
    subst hy
    refine if_i (by decide) ?_
    rfl
   refine bind_i (v:=false) (if_n (by decide) rfl) (if_n (by decide) ?_)
   have hM:hello_May false [4865,4867] [30+(d:Int)] [] [] [] [97#8] 0 [] [] [] 1000 0 10 33290=some false:=by rw [May_cut e44C (e45d h1 h2)]; rfl
   exact bind_i hM (if_i rfl (bind_i Client24 (bind_i MayC (if_i rfl (bind_i Server24 (bind_i MayS rfl))))))
  ·skip
   refine ltt_i fun y0 hy0=>?_
   subst hy0
   refine if_n (by decide) ?_
   refine ltt_i fun y1 hy1=>?_
   subst hy1
   refine if_n (by decide) ?_
   refine ltt_i fun y2 hy2=>?_
   subst hy2
   refine if_n (by decide) ?_
   refine ltt_i fun y3 hy3=>?_
   subst hy3
   refine if_n (by decide) ?_
   refine ltt_i fun y4 hy4=>?_
   subst hy4
   refine bind_i (v:=(false,[29,23],[],[],0,[],[],(0 - (d:Int)),0,10,33290)) ?_ ?_
   ·refine if_n (by decide) ?_
    refine ltt_i fun y5 hy5=>?_
    subst hy5
    refine if_n (by decide) ?_
    refine ltt_i fun y hy=>?_
    subst hy
    refine if_i (by decide) ?_
    rfl
   refine bind_i (v:=false) (if_n (by decide) rfl) (if_n (by decide) ?_)
   have hM:hello_May false [4865,4867] [29,23] [] [] [] [97#8] 0 [] [] [] (0 - (d:Int)) 0 10 33290=some false:=by rw [May_cut e44C e45C,inB_n (x:=(0 - (d:Int))) (by omega)]; rfl
   exact bind_i hM (if_i rfl (bind_i Client24 (bind_i MayC (if_i rfl (bind_i Server24 (bind_i MayS rfl))))))
  ·skip
   refine ltt_i fun y0 hy0=>?_
   subst hy0
   refine if_n (by decide) ?_
   refine ltt_i fun y1 hy1=>?_
   subst hy1
   refine if_n (by decide) ?_
   refine ltt_i fun y2 hy2=>?_
   subst hy2
   refine if_n (by decide) ?_
   refine ltt_i fun y3 hy3=>?_
   subst hy3
   refine if_n (by decide) ?_
   refine ltt_i fun y4 hy4=>?_
   subst hy4
   refine bind_i (v:=(false,[29,23],[],[],0,[],[],(4294967295+(d:Int)),0,10,33290)) ?_ ?_
   ·refine if_n (by decide) ?_
    refine ltt_i fun y5 hy5=>?_
    subst hy5
    refine if_n (by decide) ?_
    refine ltt_i fun y6 hy6=>?_
    subst hy6
    refine if_n (by decide) ?_
    refine ltt_i fun y hy=>?_
    subst hy
    refine if_i (by decide) ?_
    rfl
   refine bind_i (v:=false) (if_n (by decide) rfl) (if_n (by decide) ?_)
   have hM:hello_May false [4865,4867] [29,23] [] [] [] [97#8] 0 [] [] [] (4294967295+(d:Int)) 0 10 33290=some false:=by rw [May_cut e44C e45C,inB_n (x:=(4294967295+(d:Int))) (by omega)]; rfl
   exact bind_i hM (if_i rfl (bind_i Client24 (bind_i MayC (if_i rfl (bind_i Server24 (bind_i MayS rfl))))))
  ·skip
   refine ltt_i fun y0 hy0=>?_
   subst hy0
   refine if_n (by decide) ?_
   refine ltt_i fun y1 hy1=>?_
   subst hy1
   refine if_n (by decide) ?_
   refine ltt_i fun y2 hy2=>?_
   subst hy2
   refine if_n (by decide) ?_
   refine ltt_i fun y3 hy3=>?_
   subst hy3
   refine if_n (by decide) ?_
   refine ltt_i fun y4 hy4=>?_
   subst hy4
   refine bind_i (v:=(false,[29,23],[],[],0,[],[],1000,(0 - (d:Int)),10,33290)) ?_ ?_
   ·refine if_n (by decide) ?_
    refine ltt_i fun y5 hy5=>?_
    subst hy5
    refine if_n (by decide) ?_
    refine ltt_i fun y6 hy6=>?_
    subst hy6
    refine if_n (by decide) ?_
    refine ltt_i fun y7 hy7=>?_
    subst hy7
    refine if_n (by decide) ?_
    refine ltt_i fun y hy=>?_
    subst hy
    refine if_i (by decide) ?_
    rfl
   refine bind_i (v:=false) (if_n (by decide) rfl) (if_n (by decide) ?_)
   have hM:hello_May false [4865,4867] [29,23] [] [] [] [97#8] 0 [] [] [] 1000 (0 - (d:Int)) 10 33290=some false:=by rw [May_cut e44C e45C,inB_n (x:=(0 - (d:Int))) (by omega)]; rfl
   exact bind_i hM (if_i rfl (bind_i Client24 (bind_i MayC (if_i rfl (bind_i Server24 (bind_i MayS rfl))))))
  ·skip
   refine ltt_i fun y0 hy0=>?_
   subst hy0
   refine if_n (by decide) ?_
   refine ltt_i fun y1 hy1=>?_
   subst hy1
   refine if_n (by decide) ?_
   refine ltt_i fun y2 hy2=>?_
   subst hy2
   refine if_n (by decide) ?_
   refine ltt_i fun y3 hy3=>?_
   subst hy3
   refine if_n (by decide) ?_
   refine ltt_i fun y4 hy4=>?_
   subst hy4
   refine bind_i (v:=(false,[29,23],[],[],0,[],[],1000,(16384+(d:Int)),10,33290)) ?_ ?_
   ·refine if_n (by decide) ?_
    refine ltt_i fun y5 hy5=>?_
    subst hy5
    refine if_n (by decide) ?_
    refine ltt_i fun y6 hy6=>?_
    subst hy6
    refine if_n (by decide) ?_
    refine ltt_i fun y7 hy7=>?_
    subst hy7
    refine if_n (by decide) ?_
    refine ltt_i fun y8 hy8=>?_
    subst hy8
    refine if_n (by decide) ?_
    refine ltt_i fun y hy=>?_
    subst hy
    refine if_i (by decide) ?_
    rfl
   refine bind_i (v:=false) (if_n (by decide) rfl) (if_n (by decide) ?_)
   have hM:hello_May false [4865,4867] [29,23] [] [] [] [97#8] 0 [] [] [] 1000 (16384+(d:Int)) 10 33290=some false:=by rw [May_cut e44C e45C,inB_n (x:=(16384+(d:Int))) (by omega)]; rfl
   exact bind_i hM (if_i rfl (bind_i Client24 (bind_i MayC (if_i rfl (bind_i Server24 (bind_i MayS rfl))))))
  ·skip
   refine ltt_i fun y0 hy0=>?_
   subst hy0
   refine if_n (by decide) ?_
   refine ltt_i fun y1 hy1=>?_
   subst hy1
   refine if_n (by decide) ?_
   refine ltt_i fun y2 hy2=>?_
   subst hy2
   refine if_n (by decide) ?_
   refine ltt_i fun y3 hy3=>?_
   subst hy3
   refine if_n (by decide) ?_
   refine ltt_i fun y4 hy4=>?_
   subst hy4
   refine bind_i (v:=(false,[29,23],[],[],0,[],[],1000,0,(4 - (d:Int)),33290)) ?_ ?_
   ·refine if_n (by decide) ?_
    refine ltt_i fun y5 hy5=>?_
    subst hy5
    refine if_n (by decide) ?_
    refine ltt_i fun y6 hy6=>?_
    subst hy6
    refine if_n (by decide) ?_
    refine ltt_i fun y7 hy7=>?_
    subst hy7
    refine if_n (by decide) ?_
    refine ltt_i fun y8 hy8=>?_
    subst hy8
    refine if_n (by decide) ?_
    refine ltt_i fun y9 hy9=>?_
    subst hy9
    refine if_n (by decide) ?_
    refine ltt_i fun y hy=>?_
    subst hy
    refine if_i (by decide) ?_
    rfl
   refine bind_i (v:=false) (if_n (by decide) rfl) (if_n (by decide) ?_)
   have hM:hello_May false [4865,4867] [29,23] [] [] [] [97#8] 0 [] [] [] 1000 0 (4 - (d:Int)) 33290=some false:=by rw [May_cut e44C e45C,inB_n (x:=(4 - (d:Int))) (by omega)]; rfl
   exact bind_i hM (if_i rfl (bind_i Client24 (bind_i MayC (if_i rfl (bind_i Server24 (bind_i MayS rfl))))))
  ·skip
   refine ltt_i fun y0 hy0=>?_
   subst hy0
   refine if_n (by decide) ?_
   refine ltt_i fun y1 hy1=>?_
   subst hy1
   refine if_n (by decide) ?_
   refine ltt_i fun y2 hy2=>?_
   subst hy2
   refine if_n (by decide) ?_
   refine ltt_i fun y3 hy3=>?_
   subst hy3
   refine if_n (by decide) ?_
   refine ltt_i fun y4 hy4=>?_
   subst hy4
   refine bind_i (v:=(false,[29,23],[],[],0,[],[],1000,0,(16777216+(d:Int)),33290)) ?_ ?_
   ·refine if_n (by decide) ?_
    refine ltt_i fun y5 hy5=>?_
    subst hy5
    refine if_n (by decide) ?_
    refine ltt_i fun y6 hy6=>?_
    subst hy6
    refine if_n (by decide) ?_
    refine ltt_i fun y7 hy7=>?_
    subst hy7
    refine if_n (by decide) ?_
    refine ltt_i fun y8 hy8=>?_
    subst hy8
    refine if_n (by decide) ?_
    refine ltt_i fun y9 hy9=>?_
    subst hy9
    refine if_n (by decide) ?_
    refine ltt_i fun y10 hy10=>?_
    subst hy10
    refine if_n (by decide) ?_
    refine ltt_i fun y hy=>?_
    subst hy
    refine if_i (by decide) ?_
    rfl
   refine bind_i (v:=false) (if_n (by decide) rfl) (if_n (by decide) ?_)
   have hM:hello_May false [4865,4867] [29,23] [] [] [] [97#8] 0 [] [] [] 1000 0 (16777216+(d:Int)) 33290=some false:=by rw [May_cut e44C e45C,inB_n (x:=(16777216+(d:Int))) (by omega)]; rfl
   exact bind_i hM (if_i rfl (bind_i Client24 (bind_i MayC (if_i rfl (bind_i Server24 (bind_i MayS rfl))))))
  ·skip
   refine ltt_i fun y0 hy0=>?_
   subst hy0
   refine if_n (by decide) ?_
   refine ltt_i fun y1 hy1=>?_
   subst hy1
   refine if_n (by decide) ?_
   refine ltt_i fun y2 hy2=>?_
   subst hy2
   refine if_n (by decide) ?_
   refine ltt_i fun y3 hy3=>?_
   subst hy3
   refine if_n (by decide) ?_
   refine ltt_i fun y4 hy4=>?_
   subst hy4
   refine bind_i (v:=(false,[29,23],[],[],0,[],[],1000,0,10,(33290 - (d:Int)))) ?_ ?_
   ·refine if_n (by decide) ?_
    refine ltt_i fun y5 hy5=>?_
    subst hy5
    refine if_n (by decide) ?_
    refine ltt_i fun y6 hy6=>?_
    subst hy6
    refine if_n (by decide) ?_
    refine ltt_i fun y7 hy7=>?_
    subst hy7
    refine if_n (by decide) ?_
    refine ltt_i fun y8 hy8=>?_
    subst hy8
    refine if_n (by decide) ?_
    refine ltt_i fun y9 hy9=>?_
    subst hy9
    refine if_n (by decide) ?_
    refine ltt_i fun y10 hy10=>?_
    subst hy10
    refine if_n (by decide) ?_
    refine ltt_i fun y11 hy11=>?_
    subst hy11
    refine if_n (by decide) ?_
    refine ltt_i fun y hy=>?_
    subst hy
    refine if_i (by decide) ?_
    rfl
   refine bind_i (v:=false) (if_n (by decide) rfl) (if_n (by decide) ?_)
   have hM:hello_May false [4865,4867] [29,23] [] [] [] [97#8] 0 [] [] [] 1000 0 10 (33290 - (d:Int))=some false:=by rw [May_cut e44C e45C,inB_n (x:=(33290 - (d:Int))) (by omega)]; rfl
   exact bind_i hM (if_i rfl (bind_i Client24 (bind_i MayC (if_i rfl (bind_i Server24 (bind_i MayS rfl))))))
  ·skip
   refine ltt_i fun y0 hy0=>?_
   subst hy0
   refine if_n (by decide) ?_
   refine ltt_i fun y1 hy1=>?_
   subst hy1
   refine if_n (by decide) ?_
   refine ltt_i fun y2 hy2=>?_
   subst hy2
   refine if_n (by decide) ?_
   refine ltt_i fun y3 hy3=>?_
   subst hy3
   refine if_n (by decide) ?_
   refine ltt_i fun y4 hy4=>?_
   subst hy4
   refine bind_i (v:=(false,[29,23],[],[],0,[],[],1000,0,10,(262144+(d:Int)))) ?_ ?_
   ·refine if_n (by decide) ?_
    refine ltt_i fun y5 hy5=>?_
    subst hy5
    refine if_n (by decide) ?_
    refine ltt_i fun y6 hy6=>?_
    subst hy6
    refine if_n (by decide) ?_
    refine ltt_i fun y7 hy7=>?_
    subst hy7
    refine if_n (by decide) ?_
    refine ltt_i fun y8 hy8=>?_
    subst hy8
    refine if_n (by decide) ?_
    refine ltt_i fun y9 hy9=>?_
    subst hy9
    refine if_n (by decide) ?_
    refine ltt_i fun y10 hy10=>?_
    subst hy10
    refine if_n (by decide) ?_
    refine ltt_i fun y11 hy11=>?_
    subst hy11
    refine if_n (by decide) ?_
    refine ltt_i fun y12 hy12=>?_
    subst hy12
    refine if_n (by decide) ?_
    refine ltt_i fun y hy=>?_
    subst hy
    refine if_i (by decide) ?_
    rfl
   refine bind_i (v:=false) (if_n (by decide) rfl) (if_n (by decide) ?_)
   have hM:hello_May false [4865,4867] [29,23] [] [] [] [97#8] 0 [] [] [] 1000 0 10 (262144+(d:Int))=some false:=by rw [May_cut e44C e45C,inB_n (x:=(262144+(d:Int))) (by omega)]; rfl
   exact bind_i hM (if_i rfl (bind_i Client24 (bind_i MayC (if_i rfl (bind_i Server24 (bind_i MayS rfl))))))
  ·skip
   refine ltt_i fun y0 hy0=>?_
   subst hy0
   refine if_n (by decide) ?_
   refine ltt_i fun y1 hy1=>?_
   subst hy1
   refine if_n (by decide) ?_
   refine ltt_i fun y2 hy2=>?_
   subst hy2
   refine if_n (by decide) ?_
   refine ltt_i fun y3 hy3=>?_
   subst hy3
   refine if_n (by decide) ?_
   refine ltt_i fun y4 hy4=>?_
   subst hy4
   refine bind_i (v:=(false,[29,23],[],[],0,[],(nl (65536+d)),1000,0,10,33290)) ?_ ?_
   ·refine if_n (by decide) ?_
    refine ltt_i fun y5 hy5=>?_
    subst hy5
    refine if_n (by decide) ?_
    refine ltt_i fun y6 hy6=>?_
    subst hy6
    refine if_n (by decide) ?_
    refine ltt_i fun y7 hy7=>?_
    subst hy7
    refine if_n (by decide) ?_
    refine ltt_i fun y8 hy8=>?_
    subst hy8
    refine if_n (by decide) ?_
    refine ltt_i fun y9 hy9=>?_
    subst hy9
    refine if_n (by decide) ?_
    refine ltt_i fun y10 hy10=>?_
    subst hy10
    refine if_n (by decide) ?_
    refine ltt_i fun y11 hy11=>?_
    subst hy11
    refine if_n (by decide) ?_
    refine ltt_i fun y12 hy12=>?_
    subst hy12
    refine if_n (by decide) ?_
    refine ltt_i fun y13 hy13=>?_
    subst hy13
    refine if_n (by decide) ?_
    refine ltt_i fun y hy=>?_
    subst hy
    refine if_i (by decide) ?_
    exact bind_i z2 rfl
   refine bind_i (v:=false) (if_n (by decide) rfl) (if_n (by decide) ?_)
   have hM:hello_May false [4865,4867] [29,23] [] [] [] [97#8] 0 [] [] (nl (65536+d)) 1000 0 10 33290=some false:=by rw [May_cut e44C e45C,decide_eq_false (p:=(nl (65536+d)).length≤65536) (by rw [nl_length]; omega)]; rfl
   exact bind_i hM (if_i rfl (bind_i Client24 (bind_i MayC (if_i rfl (bind_i Server24 (bind_i MayS rfl))))))
  ·skip
   refine ltt_i fun y0 hy0=>?_
   subst hy0
   refine if_n (by decide) ?_
   refine ltt_i fun y1 hy1=>?_
   subst hy1
   refine if_n (by decide) ?_
   refine ltt_i fun y2 hy2=>?_
   subst hy2
   refine if_n (by decide) ?_
   refine ltt_i fun y3 hy3=>?_
   subst hy3
   refine if_n (by decide) ?_
   refine ltt_i fun y4 hy4=>?_
   subst hy4
   refine bind_i (v:=(true,[29,23],[],[],0,[],[],1000,0,10,33290)) ?_ ?_
   ·refine if_n (by decide) ?_
    refine ltt_i fun y5 hy5=>?_
    subst hy5
    refine if_n (by decide) ?_
    refine ltt_i fun y6 hy6=>?_
    subst hy6
    refine if_n (by decide) ?_
    refine ltt_i fun y7 hy7=>?_
    subst hy7
    refine if_n (by decide) ?_
    refine ltt_i fun y8 hy8=>?_
    subst hy8
    refine if_n (by decide) ?_
    refine ltt_i fun y9 hy9=>?_
    subst hy9
    refine if_n (by decide) ?_
    refine ltt_i fun y10 hy10=>?_
    subst hy10
    refine if_n (by decide) ?_
    refine ltt_i fun y11 hy11=>?_
    subst hy11
    refine if_n (by decide) ?_
    refine ltt_i fun y12 hy12=>?_
    subst hy12
    refine if_n (by decide) ?_
    refine ltt_i fun y13 hy13=>?_
    subst hy13
    refine if_n (by decide) ?_
    refine ltt_i fun y14 hy14=>?_
    subst hy14
    refine if_n (by decide) ?_
    refine ltt_i fun y hy=>?_
    subst hy
    refine if_i (by decide) ?_
    rfl
   refine bind_i (v:=false) (if_n (by decide) rfl) (if_n (by decide) ?_)
   have hM:hello_May true [4865,4867] [29,23] [] [] [] [97#8] 0 [] [] [] 1000 0 10 33290=some false:=by rw [May_cut e44C e45C]; exact if_i rfl (if_i rfl (srv_key))
   exact bind_i hM (if_i rfl (bind_i Client24 (bind_i MayC (if_i rfl (bind_i Server24 (bind_i MayS rfl))))))
  ·skip
   refine ltt_i fun y0 hy0=>?_
   subst hy0
   refine if_n (by decide) ?_
   refine ltt_i fun y1 hy1=>?_
   subst hy1
   refine if_n (by decide) ?_
   refine ltt_i fun y2 hy2=>?_
   subst hy2
   refine if_n (by decide) ?_
   refine ltt_i fun y3 hy3=>?_
   subst hy3
   refine if_n (by decide) ?_
   refine ltt_i fun y4 hy4=>?_
   subst hy4
   refine bind_i (v:=(false,[29,23],[],[],(d:Int),[],[],1000,0,10,33290)) ?_ ?_
   ·refine if_n (by decide) ?_
    refine ltt_i fun y5 hy5=>?_
    subst hy5
    refine if_n (by decide) ?_
    refine ltt_i fun y6 hy6=>?_
    subst hy6
    refine if_n (by decide) ?_
    refine ltt_i fun y7 hy7=>?_
    subst hy7
    refine if_n (by decide) ?_
    refine ltt_i fun y8 hy8=>?_
    subst hy8
    refine if_n (by decide) ?_
    refine ltt_i fun y9 hy9=>?_
    subst hy9
    refine if_n (by decide) ?_
    refine ltt_i fun y10 hy10=>?_
    subst hy10
    refine if_n (by decide) ?_
    refine ltt_i fun y11 hy11=>?_
    subst hy11
    refine if_n (by decide) ?_
    refine ltt_i fun y12 hy12=>?_
    subst hy12
    refine if_n (by decide) ?_
    refine ltt_i fun y13 hy13=>?_
    subst hy13
    refine if_n (by decide) ?_
    refine ltt_i fun y14 hy14=>?_
    subst hy14
    refine if_n (by decide) ?_
    refine ltt_i fun y15 hy15=>?_
    subst hy15
    refine if_n (by decide) ?_
    refine ltt_i fun y hy=>?_
    subst hy
    refine if_i (by decide) ?_
    rfl
   refine bind_i (v:=false) (if_n (by decide) rfl) (if_n (by decide) ?_)
   have hM:hello_May false [4865,4867] [29,23] [] [] [] [97#8] (d:Int) [] [] [] 1000 0 10 33290=some false:=by rw [May_cut e44C e45C]; exact if_i rfl (if_n (by decide) (cli_tickets (by omega)))
   exact bind_i hM (if_i rfl (bind_i Client24 (bind_i MayC (if_i rfl (bind_i Server24 (bind_i MayS rfl))))))
  ·skip
   refine ltt_i fun y0 hy0=>?_
   subst hy0
   refine if_n (by decide) ?_
   refine ltt_i fun y1 hy1=>?_
   subst hy1
   refine if_n (by decide) ?_
   refine ltt_i fun y2 hy2=>?_
   subst hy2
   refine if_n (by decide) ?_
   refine ltt_i fun y3 hy3=>?_
   subst hy3
   refine if_n (by decide) ?_
   refine ltt_i fun y4 hy4=>?_
   subst hy4
   refine bind_i (v:=(false,[29,23],[],[],0,(nl e),[],1000,0,10,33290)) ?_ ?_
   ·refine if_n (by decide) ?_
    refine ltt_i fun y5 hy5=>?_
    subst hy5
    refine if_n (by decide) ?_
    refine ltt_i fun y6 hy6=>?_
    subst hy6
    refine if_n (by decide) ?_
    refine ltt_i fun y7 hy7=>?_
    subst hy7
    refine if_n (by decide) ?_
    refine ltt_i fun y8 hy8=>?_
    subst hy8
    refine if_n (by decide) ?_
    refine ltt_i fun y9 hy9=>?_
    subst hy9
    refine if_n (by decide) ?_
    refine ltt_i fun y10 hy10=>?_
    subst hy10
    refine if_n (by decide) ?_
    refine ltt_i fun y11 hy11=>?_
    subst hy11
    refine if_n (by decide) ?_
    refine ltt_i fun y12 hy12=>?_
    subst hy12
    refine if_n (by decide) ?_
    refine ltt_i fun y13 hy13=>?_
    subst hy13
    refine if_n (by decide) ?_
    refine ltt_i fun y14 hy14=>?_
    subst hy14
    refine if_n (by decide) ?_
    refine ltt_i fun y15 hy15=>?_
    subst hy15
    refine if_n (by decide) ?_
    refine ltt_i fun y16 hy16=>?_
    subst hy16
    refine if_n (by decide) ?_
    refine ltt_i fun y hy=>?_
    subst hy
    refine if_i (by decide) ?_
    exact bind_i z3 rfl
   by_cases hE:(d:Int) % 32=0
   ·refine bind_i (v:=true) (if_i (by decide) (congrArg some (decide_eq_true hE))) (if_i rfl ?_)
    have hE2:=he3.1 hE
    have hM:hello_May false [4865,4867] [29,23] [] [] [] [97#8] 0 (nl e) [] [] 1000 0 10 33290=some false:=by rw [May_cut e44C e45C]; exact if_i rfl (if_n (by decide) (cli_seal (fun h=>by have:=congrArg List.length h; rw [nl_length] at this; simp at this; omega)))
    exact bind_i hM (bind_i (v:=true) (if_i rfl (bind_i Client24 (bind_i MayC (if_i rfl (bind_i Server24 (bind_i MayS rfl)))))) rfl)
   ·refine bind_i (v:=false) (if_i (by decide) (congrArg some (decide_eq_false hE))) (if_n (by decide) ?_)
    have hE2:e ≠ 32:=fun h=>hE (he3.2 h)
    have hM:hello_May false [4865,4867] [29,23] [] [] [] [97#8] 0 (nl e) [] [] 1000 0 10 33290=some false:=by rw [May_cut e44C e45C]; exact if_i rfl (if_n (by decide) (cli_seal (fun h=>by have:=congrArg List.length h; rw [nl_length] at this; simp at this; omega)))
    exact bind_i hM (if_i rfl (bind_i Client24 (bind_i MayC (if_i rfl (bind_i Server24 (bind_i MayS rfl))))))
  ·skip
   refine ltt_i fun y0 hy0=>?_
   subst hy0
   refine if_n (by decide) ?_
   refine ltt_i fun y1 hy1=>?_
   subst hy1
   refine if_n (by decide) ?_
   refine ltt_i fun y2 hy2=>?_
   subst hy2
   refine if_n (by decide) ?_
   refine ltt_i fun y3 hy3=>?_
   subst hy3
   refine if_n (by decide) ?_
   refine ltt_i fun y4 hy4=>?_
   subst hy4
   refine bind_i (v:=(false,[29,23],[[]],[],0,[],[],1000,0,10,33290)) ?_ ?_
   ·refine if_n (by decide) ?_
    refine ltt_i fun y5 hy5=>?_
    subst hy5
    refine if_n (by decide) ?_
    refine ltt_i fun y6 hy6=>?_
    subst hy6
    refine if_n (by decide) ?_
    refine ltt_i fun y7 hy7=>?_
    subst hy7
    refine if_n (by decide) ?_
    refine ltt_i fun y8 hy8=>?_
    subst hy8
    refine if_n (by decide) ?_
    refine ltt_i fun y9 hy9=>?_
    subst hy9
    refine if_n (by decide) ?_
    refine ltt_i fun y10 hy10=>?_
    subst hy10
    refine if_n (by decide) ?_
    refine ltt_i fun y11 hy11=>?_
    subst hy11
    refine if_n (by decide) ?_
    refine ltt_i fun y12 hy12=>?_
    subst hy12
    refine if_n (by decide) ?_
    refine ltt_i fun y13 hy13=>?_
    subst hy13
    refine if_n (by decide) ?_
    refine ltt_i fun y14 hy14=>?_
    subst hy14
    refine if_n (by decide) ?_
    refine ltt_i fun y15 hy15=>?_
    subst hy15
    refine if_n (by decide) ?_
    refine ltt_i fun y16 hy16=>?_
    subst hy16
    refine if_n (by decide) ?_
    refine ltt_i fun y17 hy17=>?_
    subst hy17
    refine if_n (by decide) ?_
    refine ltt_i fun y hy=>?_
    subst hy
    refine if_i (by decide) ?_
    exact if_i (by decide) (ltt_i fun l hl=>by subst hl; rfl)
   refine bind_i (v:=false) (if_n (by decide) rfl) (if_n (by decide) ?_)
   have hM:hello_May false [4865,4867] [29,23] [[]] [] [] [97#8] 0 [] [] [] 1000 0 10 33290=some false:=by rw [May_cut e44C e45C]; exact if_i rfl (if_n (by decide) (cli_chain (by simp)))
   exact bind_i hM (if_i rfl (bind_i Client24 (bind_i MayC (if_i rfl (bind_i Server24 (bind_i MayS rfl))))))
  ·skip
   refine ltt_i fun y0 hy0=>?_
   subst hy0
   refine if_n (by decide) ?_
   refine ltt_i fun y1 hy1=>?_
   subst hy1
   refine if_n (by decide) ?_
   refine ltt_i fun y2 hy2=>?_
   subst hy2
   refine if_n (by decide) ?_
   refine ltt_i fun y3 hy3=>?_
   subst hy3
   refine if_n (by decide) ?_
   refine ltt_i fun y4 hy4=>?_
   subst hy4
   refine bind_i (v:=(false,[29,23],[],[nl (16384+d)],0,[],[],1000,0,10,33290)) ?_ ?_
   ·refine if_n (by decide) ?_
    refine ltt_i fun y5 hy5=>?_
    subst hy5
    refine if_n (by decide) ?_
    refine ltt_i fun y6 hy6=>?_
    subst hy6
    refine if_n (by decide) ?_
    refine ltt_i fun y7 hy7=>?_
    subst hy7
    refine if_n (by decide) ?_
    refine ltt_i fun y8 hy8=>?_
    subst hy8
    refine if_n (by decide) ?_
    refine ltt_i fun y9 hy9=>?_
    subst hy9
    refine if_n (by decide) ?_
    refine ltt_i fun y10 hy10=>?_
    subst hy10
    refine if_n (by decide) ?_
    refine ltt_i fun y11 hy11=>?_
    subst hy11
    refine if_n (by decide) ?_
    refine ltt_i fun y12 hy12=>?_
    subst hy12
    refine if_n (by decide) ?_
    refine ltt_i fun y13 hy13=>?_
    subst hy13
    refine if_n (by decide) ?_
    refine ltt_i fun y14 hy14=>?_
    subst hy14
    refine if_n (by decide) ?_
    refine ltt_i fun y15 hy15=>?_
    subst hy15
    refine if_n (by decide) ?_
    refine ltt_i fun y16 hy16=>?_
    subst hy16
    refine if_n (by decide) ?_
    refine ltt_i fun y17 hy17=>?_
    subst hy17
    refine if_n (by decide) ?_
    refine ltt_i fun y18 hy18=>?_
    subst hy18
    refine if_n (by decide) ?_
    exact bind_i z1 rfl
   refine bind_i (v:=false) (if_n (by decide) rfl) (if_n (by decide) ?_)
   have hM:hello_May false [4865,4867] [29,23] [] [] [nl (16384+d)] [97#8] 0 [] [] [] 1000 0 10 33290=some false:=by rw [May_cut e44C e45C]; exact if_i rfl (if_n (by decide) (cli_certs (ce_big (by rw [nl_length]; omega))))
   exact bind_i hM (if_i rfl (bind_i Client24 (bind_i MayC (if_i rfl (bind_i Server24 (bind_i MayS rfl))))))
 | true =>
  refine bind_i (v:=(true,[4867,4865],[23,29],[[99#8]],keyS,[],[],[])) (if_i rfl (bind_i Server24 rfl)) ?_
  refine ltt_i fun d1 hd1=>?_
  subst hd1
  simp only [wa,wb,wc,wd,we,wf,wg,wh,wi,wj,i31,he]
  clear wa wb wc wd we wf wg wh wi wj i31 he
  rcases lt20 hk with rfl | rfl | rfl | rfl | rfl | rfl | rfl | rfl | rfl | rfl | rfl | rfl | rfl | rfl | rfl | rfl | rfl | rfl | rfl | rfl
  ·skip
   refine ltt_i fun y hy=>?_
   subst hy
   refine if_i (by decide) ?_
   refine bind_i (v:=false) (if_n (by decide) rfl) (if_n (by decide) ?_)
   have hM:hello_May true [] [23,29] [[99#8]] keyS [] [] 0 [] [] [] 1000 0 10 33290=some false:=by rw [May_srv e44n e45S ce1 fi1 (by simp)]; rfl
   exact bind_i hM (if_i rfl (bind_i Client24 (bind_i MayC (if_i rfl (bind_i Server24 (bind_i MayS rfl))))))
  ·skip
   refine ltt_i fun y0 hy0=>?_
   subst hy0
   refine if_n (by decide) ?_
   refine ltt_i fun y hy=>?_
   subst hy
   refine if_i (by decide) ?_
   refine bind_i (v:=false) (if_n (by decide) rfl) (if_n (by decide) ?_)
   have hM:hello_May true [4865,4865] [23,29] [[99#8]] keyS [] [] 0 [] [] [] 1000 0 10 33290=some false:=by rw [May_srv e44t e45S ce1 fi1 (by simp)]; rfl
   exact bind_i hM (if_i rfl (bind_i Client24 (bind_i MayC (if_i rfl (bind_i Server24 (bind_i MayS rfl))))))
  ·skip
   refine ltt_i fun y0 hy0=>?_
   subst hy0
   refine if_n (by decide) ?_
   refine ltt_i fun y1 hy1=>?_
   subst hy1
   refine if_n (by decide) ?_
   refine ltt_i fun y hy=>?_
   subst hy
   refine if_i (by decide) ?_
   refine bind_i (v:=false) (if_n (by decide) rfl) (if_n (by decide) ?_)
   have hM:hello_May true [4867+(d:Int)] [23,29] [[99#8]] keyS [] [] 0 [] [] [] 1000 0 10 33290=some false:=by rw [May_srv (e44d h1 h2) e45S ce1 fi1 (by simp)]; rfl
   exact bind_i hM (if_i rfl (bind_i Client24 (bind_i MayC (if_i rfl (bind_i Server24 (bind_i MayS rfl))))))
  ·skip
   refine ltt_i fun y0 hy0=>?_
   subst hy0
   refine if_n (by decide) ?_
   refine ltt_i fun y1 hy1=>?_
   subst hy1
   refine if_n (by decide) ?_
   refine ltt_i fun y2 hy2=>?_
   subst hy2
   refine if_n (by decide) ?_
   refine ltt_i fun y hy=>?_
   subst hy
   refine if_i (by decide) ?_
   refine bind_i (v:=false) (if_n (by decide) rfl) (if_n (by decide) ?_)
   have hM:hello_May true [4867,4865] [] [[99#8]] keyS [] [] 0 [] [] [] 1000 0 10 33290=some false:=by rw [May_srv e44S e45n ce1 fi1 (by simp)]; rfl
   exact bind_i hM (if_i rfl (bind_i Client24 (bind_i MayC (if_i rfl (bind_i Server24 (bind_i MayS rfl))))))
  ·skip
   refine ltt_i fun y0 hy0=>?_
   subst hy0
   refine if_n (by decide) ?_
   refine ltt_i fun y1 hy1=>?_
   subst hy1
   refine if_n (by decide) ?_
   refine ltt_i fun y2 hy2=>?_
   subst hy2
   refine if_n (by decide) ?_
   refine ltt_i fun y3 hy3=>?_
   subst hy3
   refine if_n (by decide) ?_
   refine ltt_i fun y4 hy4=>?_
   subst hy4
   refine bind_i (v:=(true,[23,23],[[99#8]],[],0,[],[],1000,0,10,33290)) ?_ ?_
   ·refine if_i (by decide) ?_
    rfl
   refine bind_i (v:=false) (if_n (by decide) rfl) (if_n (by decide) ?_)
   have hM:hello_May true [4867,4865] [23,23] [[99#8]] keyS [] [] 0 [] [] [] 1000 0 10 33290=some false:=by rw [May_srv e44S e45t ce1 fi1 (by simp)]; rfl
   exact bind_i hM (if_i rfl (bind_i Client24 (bind_i MayC (if_i rfl (bind_i Server24 (bind_i MayS rfl))))))
  ·skip
   refine ltt_i fun y0 hy0=>?_
   subst hy0
   refine if_n (by decide) ?_
   refine ltt_i fun y1 hy1=>?_
   subst hy1
   refine if_n (by decide) ?_
   refine ltt_i fun y2 hy2=>?_
   subst hy2
   refine if_n (by decide) ?_
   refine ltt_i fun y3 hy3=>?_
   subst hy3
   refine if_n (by decide) ?_
   refine ltt_i fun y4 hy4=>?_
   subst hy4
   refine bind_i (v:=(true,[30+(d:Int)],[[99#8]],[],0,[],[],1000,0,10,33290)) ?_ ?_
   ·refine if_n (by decide) ?_
    refine ltt_i fun y hy=>?_
    subst hy
    refine if_i (by decide) ?_
    rfl
   refine bind_i (v:=false) (if_n (by decide) rfl) (if_n (by decide) ?_)
   have hM:hello_May true [4867,4865] [30+(d:Int)] [[99#8]] keyS [] [] 0 [] [] [] 1000 0 10 33290=some false:=by rw [May_srv e44S (e45d h1 h2) ce1 fi1 (by simp)]; rfl
   exact bind_i hM (if_i rfl (bind_i Client24 (bind_i MayC (if_i rfl (bind_i Server24 (bind_i MayS rfl))))))
  ·skip
   refine ltt_i fun y0 hy0=>?_
   subst hy0
   refine if_n (by decide) ?_
   refine ltt_i fun y1 hy1=>?_
   subst hy1
   refine if_n (by decide) ?_
   refine ltt_i fun y2 hy2=>?_
   subst hy2
   refine if_n (by decide) ?_
   refine ltt_i fun y3 hy3=>?_
   subst hy3
   refine if_n (by decide) ?_
   refine ltt_i fun y4 hy4=>?_
   subst hy4
   refine bind_i (v:=(true,[23,29],[[99#8]],[],0,[],[],(0 - (d:Int)),0,10,33290)) ?_ ?_
   ·refine if_n (by decide) ?_
    refine ltt_i fun y5 hy5=>?_
    subst hy5
    refine if_n (by decide) ?_
    refine ltt_i fun y hy=>?_
    subst hy
    refine if_i (by decide) ?_
    rfl
   refine bind_i (v:=false) (if_n (by decide) rfl) (if_n (by decide) ?_)
   have hM:hello_May true [4867,4865] [23,29] [[99#8]] keyS [] [] 0 [] [] [] (0 - (d:Int)) 0 10 33290=some false:=by rw [May_srv e44S e45S ce1 fi1 (by simp),inB_n (x:=(0 - (d:Int))) (by omega)]; rfl
   exact bind_i hM (if_i rfl (bind_i Client24 (bind_i MayC (if_i rfl (bind_i Server24 (bind_i MayS rfl))))))
  ·skip
   refine ltt_i fun y0 hy0=>?_
   subst hy0
   refine if_n (by decide) ?_
   refine ltt_i fun y1 hy1=>?_
   subst hy1
   refine if_n (by decide) ?_
   refine ltt_i fun y2 hy2=>?_
   subst hy2
   refine if_n (by decide) ?_
   refine ltt_i fun y3 hy3=>?_
   subst hy3
   refine if_n (by decide) ?_
   refine ltt_i fun y4 hy4=>?_
   subst hy4
   refine bind_i (v:=(true,[23,29],[[99#8]],[],0,[],[],(4294967295+(d:Int)),0,10,33290)) ?_ ?_
   ·refine if_n (by decide) ?_
    refine ltt_i fun y5 hy5=>?_
    subst hy5
    refine if_n (by decide) ?_
    refine ltt_i fun y6 hy6=>?_
    subst hy6
    refine if_n (by decide) ?_
    refine ltt_i fun y hy=>?_
    subst hy
    refine if_i (by decide) ?_
    rfl
   refine bind_i (v:=false) (if_n (by decide) rfl) (if_n (by decide) ?_)
   have hM:hello_May true [4867,4865] [23,29] [[99#8]] keyS [] [] 0 [] [] [] (4294967295+(d:Int)) 0 10 33290=some false:=by rw [May_srv e44S e45S ce1 fi1 (by simp),inB_n (x:=(4294967295+(d:Int))) (by omega)]; rfl
   exact bind_i hM (if_i rfl (bind_i Client24 (bind_i MayC (if_i rfl (bind_i Server24 (bind_i MayS rfl))))))
  ·skip
   refine ltt_i fun y0 hy0=>?_
   subst hy0
   refine if_n (by decide) ?_
   refine ltt_i fun y1 hy1=>?_
   subst hy1
   refine if_n (by decide) ?_
   refine ltt_i fun y2 hy2=>?_
   subst hy2
   refine if_n (by decide) ?_
   refine ltt_i fun y3 hy3=>?_
   subst hy3
   refine if_n (by decide) ?_
   refine ltt_i fun y4 hy4=>?_
   subst hy4
   refine bind_i (v:=(true,[23,29],[[99#8]],[],0,[],[],1000,(0 - (d:Int)),10,33290)) ?_ ?_
   ·refine if_n (by decide) ?_
    refine ltt_i fun y5 hy5=>?_
    subst hy5
    refine if_n (by decide) ?_
    refine ltt_i fun y6 hy6=>?_
    subst hy6
    refine if_n (by decide) ?_
    refine ltt_i fun y7 hy7=>?_
    subst hy7
    refine if_n (by decide) ?_
    refine ltt_i fun y hy=>?_
    subst hy
    refine if_i (by decide) ?_
    rfl
   refine bind_i (v:=false) (if_n (by decide) rfl) (if_n (by decide) ?_)
   have hM:hello_May true [4867,4865] [23,29] [[99#8]] keyS [] [] 0 [] [] [] 1000 (0 - (d:Int)) 10 33290=some false:=by rw [May_srv e44S e45S ce1 fi1 (by simp),inB_n (x:=(0 - (d:Int))) (by omega)]; rfl
   exact bind_i hM (if_i rfl (bind_i Client24 (bind_i MayC (if_i rfl (bind_i Server24 (bind_i MayS rfl))))))
  ·skip
   refine ltt_i fun y0 hy0=>?_
   subst hy0
   refine if_n (by decide) ?_
   refine ltt_i fun y1 hy1=>?_
   subst hy1
   refine if_n (by decide) ?_
   refine ltt_i fun y2 hy2=>?_
   subst hy2
   refine if_n (by decide) ?_
   refine ltt_i fun y3 hy3=>?_
   subst hy3
   refine if_n (by decide) ?_
   refine ltt_i fun y4 hy4=>?_
   subst hy4
   refine bind_i (v:=(true,[23,29],[[99#8]],[],0,[],[],1000,(16384+(d:Int)),10,33290)) ?_ ?_
   ·refine if_n (by decide) ?_
    refine ltt_i fun y5 hy5=>?_
    subst hy5
    refine if_n (by decide) ?_
    refine ltt_i fun y6 hy6=>?_
    subst hy6
    refine if_n (by decide) ?_
    refine ltt_i fun y7 hy7=>?_
    subst hy7
    refine if_n (by decide) ?_
    refine ltt_i fun y8 hy8=>?_
    subst hy8
    refine if_n (by decide) ?_
    refine ltt_i fun y hy=>?_
    subst hy
    refine if_i (by decide) ?_
    rfl
   refine bind_i (v:=false) (if_n (by decide) rfl) (if_n (by decide) ?_)
   have hM:hello_May true [4867,4865] [23,29] [[99#8]] keyS [] [] 0 [] [] [] 1000 (16384+(d:Int)) 10 33290=some false:=by rw [May_srv e44S e45S ce1 fi1 (by simp),inB_n (x:=(16384+(d:Int))) (by omega)]; rfl
   exact bind_i hM (if_i rfl (bind_i Client24 (bind_i MayC (if_i rfl (bind_i Server24 (bind_i MayS rfl))))))
  ·skip
   refine ltt_i fun y0 hy0=>?_
   subst hy0
   refine if_n (by decide) ?_
   refine ltt_i fun y1 hy1=>?_
   subst hy1
   refine if_n (by decide) ?_
   refine ltt_i fun y2 hy2=>?_
   subst hy2
   refine if_n (by decide) ?_
   refine ltt_i fun y3 hy3=>?_
   subst hy3
   refine if_n (by decide) ?_
   refine ltt_i fun y4 hy4=>?_
   subst hy4
   refine bind_i (v:=(true,[23,29],[[99#8]],[],0,[],[],1000,0,(4 - (d:Int)),33290)) ?_ ?_
   ·refine if_n (by decide) ?_
    refine ltt_i fun y5 hy5=>?_
    subst hy5
    refine if_n (by decide) ?_
    refine ltt_i fun y6 hy6=>?_
    subst hy6
    refine if_n (by decide) ?_
    refine ltt_i fun y7 hy7=>?_
    subst hy7
    refine if_n (by decide) ?_
    refine ltt_i fun y8 hy8=>?_
    subst hy8
    refine if_n (by decide) ?_
    refine ltt_i fun y9 hy9=>?_
    subst hy9
    refine if_n (by decide) ?_
    refine ltt_i fun y hy=>?_
    subst hy
    refine if_i (by decide) ?_
    rfl
   refine bind_i (v:=false) (if_n (by decide) rfl) (if_n (by decide) ?_)
   have hM:hello_May true [4867,4865] [23,29] [[99#8]] keyS [] [] 0 [] [] [] 1000 0 (4 - (d:Int)) 33290=some false:=by rw [May_srv e44S e45S ce1 fi1 (by simp),inB_n (x:=(4 - (d:Int))) (by omega)]; rfl
   exact bind_i hM (if_i rfl (bind_i Client24 (bind_i MayC (if_i rfl (bind_i Server24 (bind_i MayS rfl))))))
  ·skip
   refine ltt_i fun y0 hy0=>?_
   subst hy0
   refine if_n (by decide) ?_
   refine ltt_i fun y1 hy1=>?_
   subst hy1
   refine if_n (by decide) ?_
   refine ltt_i fun y2 hy2=>?_
   subst hy2
   refine if_n (by decide) ?_
   refine ltt_i fun y3 hy3=>?_
   subst hy3
   refine if_n (by decide) ?_
   refine ltt_i fun y4 hy4=>?_
   subst hy4
   refine bind_i (v:=(true,[23,29],[[99#8]],[],0,[],[],1000,0,(16777216+(d:Int)),33290)) ?_ ?_
   ·refine if_n (by decide) ?_
    refine ltt_i fun y5 hy5=>?_
    subst hy5
    refine if_n (by decide) ?_
    refine ltt_i fun y6 hy6=>?_
    subst hy6
    refine if_n (by decide) ?_
    refine ltt_i fun y7 hy7=>?_
    subst hy7
    refine if_n (by decide) ?_
    refine ltt_i fun y8 hy8=>?_
    subst hy8
    refine if_n (by decide) ?_
    refine ltt_i fun y9 hy9=>?_
    subst hy9
    refine if_n (by decide) ?_
    refine ltt_i fun y10 hy10=>?_
    subst hy10
    refine if_n (by decide) ?_
    refine ltt_i fun y hy=>?_
    subst hy
    refine if_i (by decide) ?_
    rfl
   refine bind_i (v:=false) (if_n (by decide) rfl) (if_n (by decide) ?_)
   have hM:hello_May true [4867,4865] [23,29] [[99#8]] keyS [] [] 0 [] [] [] 1000 0 (16777216+(d:Int)) 33290=some false:=by rw [May_srv e44S e45S ce1 fi1 (by simp),inB_n (x:=(16777216+(d:Int))) (by omega)]; rfl
   exact bind_i hM (if_i rfl (bind_i Client24 (bind_i MayC (if_i rfl (bind_i Server24 (bind_i MayS rfl))))))
  ·skip
   refine ltt_i fun y0 hy0=>?_
   subst hy0
   refine if_n (by decide) ?_
   refine ltt_i fun y1 hy1=>?_
   subst hy1
   refine if_n (by decide) ?_
   refine ltt_i fun y2 hy2=>?_
   subst hy2
   refine if_n (by decide) ?_
   refine ltt_i fun y3 hy3=>?_
   subst hy3
   refine if_n (by decide) ?_
   refine ltt_i fun y4 hy4=>?_
   subst hy4
   refine bind_i (v:=(true,[23,29],[[99#8]],[],0,[],[],1000,0,10,(33290 - (d:Int)))) ?_ ?_
   ·refine if_n (by decide) ?_
    refine ltt_i fun y5 hy5=>?_
    subst hy5
    refine if_n (by decide) ?_
    refine ltt_i fun y6 hy6=>?_
    subst hy6
    refine if_n (by decide) ?_
    refine ltt_i fun y7 hy7=>?_
    subst hy7
    refine if_n (by decide) ?_
    refine ltt_i fun y8 hy8=>?_
    subst hy8
    refine if_n (by decide) ?_
    refine ltt_i fun y9 hy9=>?_
    subst hy9
    refine if_n (by decide) ?_
    refine ltt_i fun y10 hy10=>?_
    subst hy10
    refine if_n (by decide) ?_
    refine ltt_i fun y11 hy11=>?_
    subst hy11
    refine if_n (by decide) ?_
    refine ltt_i fun y hy=>?_
    subst hy
    refine if_i (by decide) ?_
    rfl
   refine bind_i (v:=false) (if_n (by decide) rfl) (if_n (by decide) ?_)
   have hM:hello_May true [4867,4865] [23,29] [[99#8]] keyS [] [] 0 [] [] [] 1000 0 10 (33290 - (d:Int))=some false:=by rw [May_srv e44S e45S ce1 fi1 (by simp),inB_n (x:=(33290 - (d:Int))) (by omega)]; rfl
   exact bind_i hM (if_i rfl (bind_i Client24 (bind_i MayC (if_i rfl (bind_i Server24 (bind_i MayS rfl))))))
  ·skip
   refine ltt_i fun y0 hy0=>?_
   subst hy0
   refine if_n (by decide) ?_
   refine ltt_i fun y1 hy1=>?_
   subst hy1
   refine if_n (by decide) ?_
   refine ltt_i fun y2 hy2=>?_
   subst hy2
   refine if_n (by decide) ?_
   refine ltt_i fun y3 hy3=>?_
   subst hy3
   refine if_n (by decide) ?_
   refine ltt_i fun y4 hy4=>?_
   subst hy4
   refine bind_i (v:=(true,[23,29],[[99#8]],[],0,[],[],1000,0,10,(262144+(d:Int)))) ?_ ?_
   ·refine if_n (by decide) ?_
    refine ltt_i fun y5 hy5=>?_
    subst hy5
    refine if_n (by decide) ?_
    refine ltt_i fun y6 hy6=>?_
    subst hy6
    refine if_n (by decide) ?_
    refine ltt_i fun y7 hy7=>?_
    subst hy7
    refine if_n (by decide) ?_
    refine ltt_i fun y8 hy8=>?_
    subst hy8
    refine if_n (by decide) ?_
    refine ltt_i fun y9 hy9=>?_
    subst hy9
    refine if_n (by decide) ?_
    refine ltt_i fun y10 hy10=>?_
    subst hy10
    refine if_n (by decide) ?_
    refine ltt_i fun y11 hy11=>?_
    subst hy11
    refine if_n (by decide) ?_
    refine ltt_i fun y12 hy12=>?_
    subst hy12
    refine if_n (by decide) ?_
    refine ltt_i fun y hy=>?_
    subst hy
    refine if_i (by decide) ?_
    rfl
   refine bind_i (v:=false) (if_n (by decide) rfl) (if_n (by decide) ?_)
   have hM:hello_May true [4867,4865] [23,29] [[99#8]] keyS [] [] 0 [] [] [] 1000 0 10 (262144+(d:Int))=some false:=by rw [May_srv e44S e45S ce1 fi1 (by simp),inB_n (x:=(262144+(d:Int))) (by omega)]; rfl
   exact bind_i hM (if_i rfl (bind_i Client24 (bind_i MayC (if_i rfl (bind_i Server24 (bind_i MayS rfl))))))
  ·skip
   refine ltt_i fun y0 hy0=>?_
   subst hy0
   refine if_n (by decide) ?_
   refine ltt_i fun y1 hy1=>?_
   subst hy1
   refine if_n (by decide) ?_
   refine ltt_i fun y2 hy2=>?_
   subst hy2
   refine if_n (by decide) ?_
   refine ltt_i fun y3 hy3=>?_
   subst hy3
   refine if_n (by decide) ?_
   refine ltt_i fun y4 hy4=>?_
   subst hy4
   refine bind_i (v:=(true,[23,29],[[99#8]],[],0,[],(nl (65536+d)),1000,0,10,33290)) ?_ ?_
   ·refine if_n (by decide) ?_
    refine ltt_i fun y5 hy5=>?_
    subst hy5
    refine if_n (by decide) ?_
    refine ltt_i fun y6 hy6=>?_
    subst hy6
    refine if_n (by decide) ?_
    refine ltt_i fun y7 hy7=>?_
    subst hy7
    refine if_n (by decide) ?_
    refine ltt_i fun y8 hy8=>?_
    subst hy8
    refine if_n (by decide) ?_
    refine ltt_i fun y9 hy9=>?_
    subst hy9
    refine if_n (by decide) ?_
    refine ltt_i fun y10 hy10=>?_
    subst hy10
    refine if_n (by decide) ?_
    refine ltt_i fun y11 hy11=>?_
    subst hy11
    refine if_n (by decide) ?_
    refine ltt_i fun y12 hy12=>?_
    subst hy12
    refine if_n (by decide) ?_
    refine ltt_i fun y13 hy13=>?_
    subst hy13
    refine if_n (by decide) ?_
    refine ltt_i fun y hy=>?_
    subst hy
    refine if_i (by decide) ?_
    exact bind_i z2 rfl
   refine bind_i (v:=false) (if_n (by decide) rfl) (if_n (by decide) ?_)
   have hM:hello_May true [4867,4865] [23,29] [[99#8]] keyS [] [] 0 [] [] (nl (65536+d)) 1000 0 10 33290=some false:=by rw [May_srv e44S e45S ce1 fi1 (by simp),decide_eq_false (p:=(nl (65536+d)).length≤65536) (by rw [nl_length]; omega)]; rfl
   exact bind_i hM (if_i rfl (bind_i Client24 (bind_i MayC (if_i rfl (bind_i Server24 (bind_i MayS rfl))))))
  ·skip
   refine ltt_i fun y0 hy0=>?_
   subst hy0
   refine if_n (by decide) ?_
   refine ltt_i fun y1 hy1=>?_
   subst hy1
   refine if_n (by decide) ?_
   refine ltt_i fun y2 hy2=>?_
   subst hy2
   refine if_n (by decide) ?_
   refine ltt_i fun y3 hy3=>?_
   subst hy3
   refine if_n (by decide) ?_
   refine ltt_i fun y4 hy4=>?_
   subst hy4
   refine bind_i (v:=(false,[23,29],[[99#8]],[],0,[],[],1000,0,10,33290)) ?_ ?_
   ·refine if_n (by decide) ?_
    refine ltt_i fun y5 hy5=>?_
    subst hy5
    refine if_n (by decide) ?_
    refine ltt_i fun y6 hy6=>?_
    subst hy6
    refine if_n (by decide) ?_
    refine ltt_i fun y7 hy7=>?_
    subst hy7
    refine if_n (by decide) ?_
    refine ltt_i fun y8 hy8=>?_
    subst hy8
    refine if_n (by decide) ?_
    refine ltt_i fun y9 hy9=>?_
    subst hy9
    refine if_n (by decide) ?_
    refine ltt_i fun y10 hy10=>?_
    subst hy10
    refine if_n (by decide) ?_
    refine ltt_i fun y11 hy11=>?_
    subst hy11
    refine if_n (by decide) ?_
    refine ltt_i fun y12 hy12=>?_
    subst hy12
    refine if_n (by decide) ?_
    refine ltt_i fun y13 hy13=>?_
    subst hy13
    refine if_n (by decide) ?_
    refine ltt_i fun y14 hy14=>?_
    subst hy14
    refine if_n (by decide) ?_
    refine ltt_i fun y hy=>?_
    subst hy
    refine if_i (by decide) ?_
    rfl
   refine bind_i (v:=false) (if_n (by decide) rfl) (if_n (by decide) ?_)
   have hM:hello_May false [4867,4865] [23,29] [[99#8]] keyS [] [] 0 [] [] [] 1000 0 10 33290=some false:=by rw [May_cut e44S e45S]; exact if_i rfl (if_n (by decide) (cli_chain (by simp)))
   exact bind_i hM (if_i rfl (bind_i Client24 (bind_i MayC (if_i rfl (bind_i Server24 (bind_i MayS rfl))))))
  ·skip
   refine ltt_i fun y0 hy0=>?_
   subst hy0
   refine if_n (by decide) ?_
   refine ltt_i fun y1 hy1=>?_
   subst hy1
   refine if_n (by decide) ?_
   refine ltt_i fun y2 hy2=>?_
   subst hy2
   refine if_n (by decide) ?_
   refine ltt_i fun y3 hy3=>?_
   subst hy3
   refine if_n (by decide) ?_
   refine ltt_i fun y4 hy4=>?_
   subst hy4
   refine bind_i (v:=(true,[23,29],[[99#8]],[],(d:Int),[],[],1000,0,10,33290)) ?_ ?_
   ·refine if_n (by decide) ?_
    refine ltt_i fun y5 hy5=>?_
    subst hy5
    refine if_n (by decide) ?_
    refine ltt_i fun y6 hy6=>?_
    subst hy6
    refine if_n (by decide) ?_
    refine ltt_i fun y7 hy7=>?_
    subst hy7
    refine if_n (by decide) ?_
    refine ltt_i fun y8 hy8=>?_
    subst hy8
    refine if_n (by decide) ?_
    refine ltt_i fun y9 hy9=>?_
    subst hy9
    refine if_n (by decide) ?_
    refine ltt_i fun y10 hy10=>?_
    subst hy10
    refine if_n (by decide) ?_
    refine ltt_i fun y11 hy11=>?_
    subst hy11
    refine if_n (by decide) ?_
    refine ltt_i fun y12 hy12=>?_
    subst hy12
    refine if_n (by decide) ?_
    refine ltt_i fun y13 hy13=>?_
    subst hy13
    refine if_n (by decide) ?_
    refine ltt_i fun y14 hy14=>?_
    subst hy14
    refine if_n (by decide) ?_
    refine ltt_i fun y15 hy15=>?_
    subst hy15
    refine if_n (by decide) ?_
    refine ltt_i fun y hy=>?_
    subst hy
    refine if_i (by decide) ?_
    rfl
   refine bind_i (v:=false) (if_n (by decide) rfl) (if_n (by decide) ?_)
   have hM:hello_May true [4867,4865] [23,29] [[99#8]] keyS [] [] (d:Int) [] [] [] 1000 0 10 33290=some false:=by rw [May_srv e44S e45S ce1 fi1 (by decide),decide_eq_false (p:=([]:Str)=[]∧(d:Int)=0) (by omega)]; rfl
   exact bind_i hM (if_i rfl (bind_i Client24 (bind_i MayC (if_i rfl (bind_i Server24 (bind_i MayS rfl))))))
  ·skip
   refine ltt_i fun y0 hy0=>?_
   subst hy0
   refine if_n (by decide) ?_
   refine ltt_i fun y1 hy1=>?_
   subst hy1
   refine if_n (by decide) ?_
   refine ltt_i fun y2 hy2=>?_
   subst hy2
   refine if_n (by decide) ?_
   refine ltt_i fun y3 hy3=>?_
   subst hy3
   refine if_n (by decide) ?_
   refine ltt_i fun y4 hy4=>?_
   subst hy4
   refine bind_i (v:=(true,[23,29],[[99#8]],[],0,(nl e),[],1000,0,10,33290)) ?_ ?_
   ·refine if_n (by decide) ?_
    refine ltt_i fun y5 hy5=>?_
    subst hy5
    refine if_n (by decide) ?_
    refine ltt_i fun y6 hy6=>?_
    subst hy6
    refine if_n (by decide) ?_
    refine ltt_i fun y7 hy7=>?_
    subst hy7
    refine if_n (by decide) ?_
    refine ltt_i fun y8 hy8=>?_
    subst hy8
    refine if_n (by decide) ?_
    refine ltt_i fun y9 hy9=>?_
    subst hy9
    refine if_n (by decide) ?_
    refine ltt_i fun y10 hy10=>?_
    subst hy10
    refine if_n (by decide) ?_
    refine ltt_i fun y11 hy11=>?_
    subst hy11
    refine if_n (by decide) ?_
    refine ltt_i fun y12 hy12=>?_
    subst hy12
    refine if_n (by decide) ?_
    refine ltt_i fun y13 hy13=>?_
    subst hy13
    refine if_n (by decide) ?_
    refine ltt_i fun y14 hy14=>?_
    subst hy14
    refine if_n (by decide) ?_
    refine ltt_i fun y15 hy15=>?_
    subst hy15
    refine if_n (by decide) ?_
    refine ltt_i fun y16 hy16=>?_
    subst hy16
    refine if_n (by decide) ?_
    refine ltt_i fun y hy=>?_
    subst hy
    refine if_i (by decide) ?_
    exact bind_i z3 rfl
   by_cases hE:(d:Int) % 32=0
   ·refine bind_i (v:=true) (if_i (by decide) (congrArg some (decide_eq_true hE))) (if_i rfl ?_)
    have hE2:=he3.1 hE
    have hM:hello_May true [4867,4865] [23,29] [[99#8]] keyS [] [] 0 (nl e) [] [] 1000 0 10 33290=some true:=by rw [May_srv e44S e45S ce1 fi1 (by decide),decide_eq_true (p:=(nl e).length=32) (by rw [nl_length]; exact hE2)]; rfl
    exact bind_i hM (bind_i (v:=true) (if_i rfl (bind_i Client24 (bind_i MayC (if_i rfl (bind_i Server24 (bind_i MayS rfl)))))) rfl)
   ·refine bind_i (v:=false) (if_i (by decide) (congrArg some (decide_eq_false hE))) (if_n (by decide) ?_)
    have hE2:e ≠ 32:=fun h=>hE (he3.2 h)
    have hM:hello_May true [4867,4865] [23,29] [[99#8]] keyS [] [] 0 (nl e) [] [] 1000 0 10 33290=some false:=by rw [May_srv e44S e45S ce1 fi1 (by decide),decide_eq_false (p:=(nl e).length=32) (by rw [nl_length]; omega),decide_eq_false (p:=nl e=[]∧(0:Int)=0) (fun h=>by have:=congrArg List.length h.1; rw [nl_length] at this; simp at this; omega)]; rfl
    exact bind_i hM (if_i rfl (bind_i Client24 (bind_i MayC (if_i rfl (bind_i Server24 (bind_i MayS rfl))))))
  ·skip
   refine ltt_i fun y0 hy0=>?_
   subst hy0
   refine if_n (by decide) ?_
   refine ltt_i fun y1 hy1=>?_
   subst hy1
   refine if_n (by decide) ?_
   refine ltt_i fun y2 hy2=>?_
   subst hy2
   refine if_n (by decide) ?_
   refine ltt_i fun y3 hy3=>?_
   subst hy3
   refine if_n (by decide) ?_
   refine ltt_i fun y4 hy4=>?_
   subst hy4
   refine bind_i (v:=(true,[23,29],[[99#8],[]],[],0,[],[],1000,0,10,33290)) ?_ ?_
   ·refine if_n (by decide) ?_
    refine ltt_i fun y5 hy5=>?_
    subst hy5
    refine if_n (by decide) ?_
    refine ltt_i fun y6 hy6=>?_
    subst hy6
    refine if_n (by decide) ?_
    refine ltt_i fun y7 hy7=>?_
    subst hy7
    refine if_n (by decide) ?_
    refine ltt_i fun y8 hy8=>?_
    subst hy8
    refine if_n (by decide) ?_
    refine ltt_i fun y9 hy9=>?_
    subst hy9
    refine if_n (by decide) ?_
    refine ltt_i fun y10 hy10=>?_
    subst hy10
    refine if_n (by decide) ?_
    refine ltt_i fun y11 hy11=>?_
    subst hy11
    refine if_n (by decide) ?_
    refine ltt_i fun y12 hy12=>?_
    subst hy12
    refine if_n (by decide) ?_
    refine ltt_i fun y13 hy13=>?_
    subst hy13
    refine if_n (by decide) ?_
    refine ltt_i fun y14 hy14=>?_
    subst hy14
    refine if_n (by decide) ?_
    refine ltt_i fun y15 hy15=>?_
    subst hy15
    refine if_n (by decide) ?_
    refine ltt_i fun y16 hy16=>?_
    subst hy16
    refine if_n (by decide) ?_
    refine ltt_i fun y17 hy17=>?_
    subst hy17
    refine if_n (by decide) ?_
    refine ltt_i fun y hy=>?_
    subst hy
    refine if_i (by decide) ?_
    exact if_i (by decide) (ltt_i fun l hl=>by subst hl; rfl)
   refine bind_i (v:=false) (if_n (by decide) rfl) (if_n (by decide) ?_)
   have hM:hello_May true [4867,4865] [23,29] [[99#8],[]] keyS [] [] 0 [] [] [] 1000 0 10 33290=some false:=by rw [May_srv e44S e45S ce2 fi2 (by decide)]; rfl
   exact bind_i hM (if_i rfl (bind_i Client24 (bind_i MayC (if_i rfl (bind_i Server24 (bind_i MayS rfl))))))
  ·skip
   refine ltt_i fun y0 hy0=>?_
   subst hy0
   refine if_n (by decide) ?_
   refine ltt_i fun y1 hy1=>?_
   subst hy1
   refine if_n (by decide) ?_
   refine ltt_i fun y2 hy2=>?_
   subst hy2
   refine if_n (by decide) ?_
   refine ltt_i fun y3 hy3=>?_
   subst hy3
   refine if_n (by decide) ?_
   refine ltt_i fun y4 hy4=>?_
   subst hy4
   refine bind_i (v:=(true,[23,29],[[99#8]],[nl (16384+d)],0,[],[],1000,0,10,33290)) ?_ ?_
   ·refine if_n (by decide) ?_
    refine ltt_i fun y5 hy5=>?_
    subst hy5
    refine if_n (by decide) ?_
    refine ltt_i fun y6 hy6=>?_
    subst hy6
    refine if_n (by decide) ?_
    refine ltt_i fun y7 hy7=>?_
    subst hy7
    refine if_n (by decide) ?_
    refine ltt_i fun y8 hy8=>?_
    subst hy8
    refine if_n (by decide) ?_
    refine ltt_i fun y9 hy9=>?_
    subst hy9
    refine if_n (by decide) ?_
    refine ltt_i fun y10 hy10=>?_
    subst hy10
    refine if_n (by decide) ?_
    refine ltt_i fun y11 hy11=>?_
    subst hy11
    refine if_n (by decide) ?_
    refine ltt_i fun y12 hy12=>?_
    subst hy12
    refine if_n (by decide) ?_
    refine ltt_i fun y13 hy13=>?_
    subst hy13
    refine if_n (by decide) ?_
    refine ltt_i fun y14 hy14=>?_
    subst hy14
    refine if_n (by decide) ?_
    refine ltt_i fun y15 hy15=>?_
    subst hy15
    refine if_n (by decide) ?_
    refine ltt_i fun y16 hy16=>?_
    subst hy16
    refine if_n (by decide) ?_
    refine ltt_i fun y17 hy17=>?_
    subst hy17
    refine if_n (by decide) ?_
    refine ltt_i fun y18 hy18=>?_
    subst hy18
    refine if_n (by decide) ?_
    exact bind_i z1 rfl
   refine bind_i (v:=false) (if_n (by decide) rfl) (if_n (by decide) ?_)
   have hM:hello_May true [4867,4865] [23,29] [[99#8]] keyS [nl (16384+d)] [] 0 [] [] [] 1000 0 10 33290=some false:=by rw [May_srv e44S e45S ce1 fi1 (by simp)]; rfl
   exact bind_i hM (if_i rfl (bind_i Client24 (bind_i MayC (if_i rfl (bind_i Server24 (bind_i MayS rfl))))))
end Go.Proofs
end

/-
  Part 2 of the proof of HelloAges.
-/
import Derived.Test.YtkgeoekcnlgfnaaGreatDoorKf1
import Derived.Test.YtkgeoekcnlgfnaaGreatDoorKf2
import Derived.Test.YtkgeoekcnlgfnaaGreatDoorKf3
import Derived.Test.YtkgeoekcnlgfnaaGreatDoorKf4
import Derived.Test.YtkgeoekcnlgfnaaGreatDoorKf5
import Derived.Test.YtkgeoekcnlgfnaaGreatDoorKf6
import Derived.Test.YtkgeoekcnlgfnaaGreatDoorKf7
import Derived.Test.YtkgeoekcnlgfnaaGreatDoorKf8
import Derived.Test.YtkgeoekcnlgfnaaGreatDoorKf9
import Derived.Test.YtkgeoekcnlgfnaaGreatDoorKf10
import Derived.Test.YtkgeoekcnlgfnaaGreatDoorKf11
import Derived.Test.YtkgeoekcnlgfnaaGreatDoorKf12
import Derived.Test.YtkgeoekcnlgfnaaGreatDoorKf13
import Derived.Test.YtkgeoekcnlgfnaaGreatDoorKf14
import Derived.Test.YtkgeoekcnlgfnaaGreatDoorKf15
import Derived.Test.YtkgeoekcnlgfnaaGreatDoorKf16
import Derived.Test.YtkgeoekcnlgfnaaGreatDoorKf17
import Derived.Test.YtkgeoekcnlgfnaaGreatDoorKf18
import Derived.Test.YtkgeoekcnlgfnaaGreatDoorKf19
import Derived.Test.YtkgeoekcnlgfnaaGreatDoorKf20
import Derived.Test.YtkgeoekcnlgfnaaGreatDoorKf21
import Derived.Test.YtkgeoekcnlgfnaaGreatDoorKf22
import Derived.Test.YtkgeoekcnlgfnaaGreatDoorKf23
import Derived.Test.YtkgeoekcnlgfnaaGreatDoorKf24
import Derived.Test.YtkgeoekcnlgfnaaGreatDoorKf25
import Derived.Test.YtkgeoekcnlgfnaaGreatDoorKf26
import Derived.Test.YtkgeoekcnlgfnaaGreatDoorKf27
import Derived.Test.YtkgeoekcnlgfnaaGreatDoorKf28
import Derived.Test.YtkgeoekcnlgfnaaGreatDoorKf29
import Derived.Test.YtkgeoekcnlgfnaaGreatDoorKf30
import Derived.Test.YtkgeoekcnlgfnaaGreatDoorHelloAgesA1
set_option linter.unusedVariables false
set_option linter.unusedSimpArgs false
section
namespace Go.Proofs
open Go Go.Kx
theorem mask32 (x:Int):iop (· &&& ·) x 4294967295=x % 4294967296:=and_mask x 32 (by decide)
theorem age_w {C G A:Int} (h:0≤C - G) (h2:C - G≤604800) (a:0≤A) (a2:A≤4294967295):w64 (w64 (1000 * w64 (C - G))+A)=1000 * (C - G)+A:=by
 rw [w64_id (x:=C - G) (by omega) (by omega),w64_id (x:=1000 * (C - G)) (by omega) (by omega),w64_id (by omega) (by omega)]
theorem age_w2 {C G A:Int} (h:0≤C - G) (h2:C - G≤604800) (a:0≤A) (a2:A≤4294967295):w64 (w64 (w64 (C - G) * 1000)+A)=1000 * (C - G)+A:=by
 rw [w64_id (x:=C - G) (by omega) (by omega),w64_id (x:=(C - G) * 1000) (by omega) (by omega),w64_id (by omega) (by omega)]; omega
theorem dif_w {C G:Int} (c:0≤C) (c2:C≤4294967295) (g:0≤G) (g2:G≤4294967295):w64 (C - G)=C - G:=w64_id (by omega) (by omega)
theorem minmax {z:Int}:0≤min (max 0 z) 4294967295∧min (max 0 z) 4294967295≤4294967295:=by omega
theorem sz67:(aead_Sizes 4867).map (·.2.1)=some 256:=by kernel_rfl
theorem con67:slices_Contains___int_int_ [4865,4867] 4867=some true:=by kernel_rfl
theorem ceN:hello_certs [] 0=some true:=by kernel_rfl
theorem psk_true {s:Bool} {G2:List Int} {ch:List Str} {key:Str} {ro:List Str} {nm:Str} {tk:Int} {sl:Str} {psk:List (Str × Str × Int × Int × Int × Int)} {tape:Str} {clock pad limit ring A G K:Int}
  (a:0≤A) (a2:A≤4294967295) (g:0≤G) (g2:G≤4294967295) (k:0≤K) (k2:K≤604800) :
  hello_psk s [4865,4867] G2 ch key ro nm tk sl psk tape clock pad limit ring [116#8] (nl 32) 4867 A G K=some true:=by
 unfold hello_psk
 have h:=sz67
 cases hx:aead_Sizes 4867 with
 | none=>rw [hx] at h; cases h
 | some p =>
  rw [hx] at h
  have h2:p.2.1=256:=Option.some.inj h
  refine bind_i rfl (bind_i con67 (if_i rfl (if_i ?_ (bind_i (v:=true) (by rw [hin_eq]; rfl) (if_i rfl (bind_i (v:=true) (by rw [hin_eq]; exact congrArg some (decide_eq_true ⟨a,a2⟩)) (if_i rfl (bind_i (v:=true) (by rw [hin_eq]; exact congrArg some (decide_eq_true ⟨g,g2⟩)) (if_i rfl (bind_i (v:=true) (by rw [hin_eq]; exact congrArg some (decide_eq_true ⟨k,k2⟩)) rfl))))))))))
  rw [h2]; rfl
theorem MayP {C A G K:Int} (c:0≤C) (c2:C≤4294967295) (a:0≤A) (a2:A≤4294967295) (g:0≤G) (g2:G≤4294967295) (k:0≤K) (k2:K≤604800) :
  hello_May false [4865,4867] [29,23] [] [] [] [97#8] 0 [] [([116#8],nl 32,4867,A,G,K)] [] C 0 10 33290=some true:=by
 rw [May_cut e44C e45C]
 refine if_i (by rw [show inB C 0 4294967295=true from decide_eq_true ⟨c,c2⟩]; rfl) (if_n (by decide) ?_)
 unfold hello_client
 refine bind_i (v:=false) (if_n (by decide) (if_n (by decide) (if_n (by decide) (if_n (by decide) rfl)))) (if_n (by decide) (bind_i ceN (if_i rfl (if_i (by decide) (bind_i (v:=false) ?_ rfl)))))
 unfold slices_ContainsFunc___api_Psk_api_Psk__fn1_75
 refine bind_i (v := -1) ?_ rfl
 unfold slices_IndexFunc___api_Psk_api_Psk__fn1_75
 refine bind_i (v := .inl ()) (loop_fn (fun j=>(j:Int)) 1 _ (by decide) rfl (fun j hj=>?_) ?_) rfl
 ·obtain rfl:j=0:=by omega
  unfold slices_IndexFunc___api_Psk_api_Psk__fn1_75.b0
  refine if_i (by simp) (if_i (by simp) (bind_i (v:=false) ?_ rfl))
  unfold hello_client_1
  exact bind_i (psk_true a a2 g g2 k k2) rfl
 ·unfold slices_IndexFunc___api_Psk_api_Psk__fn1_75.b0
  exact if_n (by simp) rfl
theorem cl1:slices_Clone___int_int_ [4865,4867]=some [4865,4867]:=by kernel_rfl
theorem cl2:slices_Clone___int_int_ [29,23]=some [29,23]:=by kernel_rfl
theorem si1:halberdlaw0_SameInts [4865,4867] [4865,4867]=some true:=by kernel_rfl
theorem si2:halberdlaw0_SameInts [29,23] [29,23]=some true:=by kernel_rfl
theorem si3:halberdlaw0_SameInts [1] [1]=some true:=by kernel_rfl
set_option maxRecDepth 10000 in
theorem st1:halberdlaw0_SameTexts [nl 32] [nl 32]=some true:=by kernel_rfl
theorem First_none {C A G K:Int} (c:0≤C) (c2:C≤4294967295) (a:0≤A) (a2:A≤4294967295) (g:0≤G) (g2:G≤4294967295) (k:0≤K) (k2:K≤604800) (h:C<G ∨ K<C - G) :
  hello_First false [4865,4867] [29,23] [] [] [] [97#8] 0 [] [([116#8],nl 32,4867,A,G,K)] [] C 0 10 33290 (nl 32) (nl 32) [107#8]=some (1,nl 32,nl 32,[97#8],0,[4865,4867],[772],[29,23],[1027],[],[(29,[107#8])],[],[],[],[]):=by
 unfold hello_First
 refine bind_i (MayP c c2 a a2 g g2 k k2) (bind_i (v:=false) (if_n (by decide) (if_n (by decide) (if_n (by rw [nl_length]; decide) (if_n (by rw [nl_length]; decide) rfl)))) (if_n (by decide) (bind_i cl1 (bind_i cl2 (if_i (by decide) (bind_i (v:=([],[],0,0,0,0,false)) ?_ (if_n (by decide) rfl)))))))
 unfold hello_Counts
 refine if_n (by simp) (if_i (by simp) ?_)
 by_cases q:C<G
 ·exact if_i q rfl
 ·have q2:K<w64 (C - G):=by rw [dif_w c c2 g g2]; omega
  exact if_n q (if_i (by simp) (if_i (by simp) (if_i q2 rfl)))
theorem First_some {C A G K:Int} (c:0≤C) (c2:C≤4294967295) (a:0≤A) (a2:A≤4294967295) (g:0≤G) (g2:G≤4294967295) (k:0≤K) (k2:K≤604800) (h : ¬ C<G) (h2 : ¬ K<C - G) :
  hello_First false [4865,4867] [29,23] [] [] [] [97#8] 0 [] [([116#8],nl 32,4867,A,G,K)] [] C 0 10 33290 (nl 32) (nl 32) [107#8]=some (1,nl 32,nl 32,[97#8],0,[4865,4867],[772],[29,23],[1027],[1],[(29,[107#8])],[([116#8],(1000 * (C - G)+A) % 4294967296)],[nl 32],[],[]):=by
 unfold hello_First
 refine bind_i (MayP c c2 a a2 g g2 k k2) (bind_i (v:=false) (if_n (by decide) (if_n (by decide) (if_n (by rw [nl_length]; decide) (if_n (by rw [nl_length]; decide) rfl)))) (if_n (by decide) (bind_i cl1 (bind_i cl2 (if_i (by decide) (bind_i (v:=([116#8],nl 32,4867,A,G,K,true)) ?_ (if_i rfl (ltt_i fun X hX=>?_))))))))
 ·unfold hello_Counts
  have q2 : ¬ K<w64 (C - G):=by rw [dif_w c c2 g g2]; omega
  exact if_n (by simp) (if_i (by simp) (if_n h (if_i (by simp) (if_i (by simp) (if_n q2 (if_i (by simp) rfl))))))
 ·have e:X=(1000 * (C - G)+A) % 4294967296:=by rw [hX,mask32]; exact congrArg (· % 4294967296) (age_w (C:=C) (G:=G) (A:=A) (by omega) (by omega) a a2)
  rw [e]
  refine if_i (by dsimp only; rw [nl_length]; decide) (if_i (by simp) ?_)
  rfl
set_option maxRecDepth 10000 in
theorem HelloAges_true (got life clock add:Int):halberdlaw24_HelloAges got life clock add=some true:=by
 unfold halberdlaw24_HelloAges
 refine bind_i awake24 (if_n (by decide) (bind_i Client24 (ltt_i fun C hC=>ltt_i fun X hX=>ltt_i fun K hK=>?_)))
 have c:0≤C:=by rw [hC,mask32]; exact Int.emod_nonneg _ (by decide)
 have c2:C≤4294967295:=by rw [hC,mask32]; have:=Int.emod_lt_of_pos clock (show (0:Int)<4294967296 by decide); omega
 have x:0≤X:=by rw [hX,mask32]; exact Int.emod_nonneg _ (by decide)
 have x2:X≤4294967295:=by rw [hX,mask32]; have:=Int.emod_lt_of_pos got (show (0:Int)<4294967296 by decide); omega
 have hk : ∃ n:Nat,K=(n:Int)∧n≤604800:=by
  have h:((BitVec.ofInt 64 life) % 604801#64).toNat<604801:=by rw [BitVec.toNat_umod]; exact Nat.mod_lt _ (by decide)
  generalize ((BitVec.ofInt 64 life) % 604801#64).toNat=n at h hK
  exact ⟨n,by rw [hK,w64_id (by omega) (by omega)],by omega⟩
 have k:0≤K:=by obtain ⟨n,h1,h2⟩:=hk; omega
 have k2:K≤604800:=by obtain ⟨n,h1,h2⟩:=hk; omega
 clear hk hK hC hX
 obtain ⟨G,hG,g,g2⟩ : ∃ G:Int,(if (iop (· &&& ·) life 1)=1 then (ltt (min (max 0 (w64 ((w64 ((w64 (C - K))+(iop (· &&& ·) got 3))) - 1))) 4294967295) fun (g_13:Int)=>(some g_13)) else (some X))=some G∧0≤G∧G≤4294967295:=by
  by_cases q:(iop (· &&& ·) life 1)=1
  ·exact ⟨_,if_pos q,minmax.1,minmax.2⟩
  ·exact ⟨X,if_neg q,x,x2⟩
 refine bind_i hG (bind_i (z24_eq 32 (by decide)) (ltt_i fun A hA=>?_))
 clear hG
 have a:0≤A:=by rw [hA,mask32]; exact Int.emod_nonneg _ (by decide)
 have a2:A≤4294967295:=by rw [hA,mask32]; have:=Int.emod_lt_of_pos add (show (0:Int)<4294967296 by decide); omega
 refine bind_i (z24_eq 32 (by decide)) (bind_i (z24_eq 32 (by decide)) ?_)
 have j2 : ∀ (r:Bool),r=false → True:=fun _ _=>trivial
 by_cases q:C<G ∨ K<C - G
 ·refine bind_i (First_none c c2 a a2 g g2 k k2 q) (bind_i (v:=0) rfl (bind_i (v:=false) (if_n (by decide) (bind_i si1 (if_n (by decide) (bind_i si2 (if_n (by decide) (if_n (by decide) (if_n (by decide) (if_i (by decide) rfl)))))))) (if_n (by decide) (bind_i (v:=true) ?_ (if_i rfl rfl)))))
  by_cases q1:C<G
  ·exact if_i q1 rfl
  ·refine if_n q1 (congrArg some (decide_eq_true ?_))
   rw [dif_w c c2 g g2]; omega
 ·have q1 : ¬ C<G:=fun h=>q (.inl h)
  have q2 : ¬ K<C - G:=fun h=>q (.inr h)
  refine bind_i (First_some c c2 a a2 g g2 k k2 q1 q2) (bind_i (v:=0) rfl (bind_i (v:=false) (if_n (by decide) (bind_i si1 (if_n (by decide) (bind_i si2 (if_n (by decide) (if_n (by simp) (if_n (by simp) (if_i (by simp) rfl)))))))) (if_n (by decide) (bind_i (v:=false) (if_n q1 (congrArg some (decide_eq_false (by rw [dif_w c c2 g g2]; exact q2)))) (if_n (by decide) (ltt_i fun x5 h5=>ltt_i fun x6 h6=>?_))))))
  have e:x6=(1000 * (C - G)+A) % 4294967296:=by rw [h6,mask32,h5, ← hA]; exact congrArg (· % 4294967296) (age_w2 (C:=C) (G:=G) (A:=A) (by omega) (by omega) a a2)
  rw [e]
  refine if_i rfl (bind_i si3 (if_i rfl (if_i rfl (if_i (by simp) (if_i ?_ (bind_i (z24_eq 32 (by decide)) (if_i rfl (bind_i st1 rfl))))))))
  simp [Lf.all,Lf.eq,lg]
end Go.Proofs
end

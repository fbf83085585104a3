/-
  Part 33 of the proof of what several laws share.
-/
import Derived.Test.YtkgeoekcnlgfnaaGreatDoorKe1
import Derived.Test.YtkgeoekcnlgfnaaGreatDoorKe2
import Derived.Test.YtkgeoekcnlgfnaaGreatDoorKe3
import Derived.Test.YtkgeoekcnlgfnaaGreatDoorKe4
import Derived.Test.YtkgeoekcnlgfnaaGreatDoorKe5
import Derived.Test.YtkgeoekcnlgfnaaGreatDoorKe6
import Derived.Test.YtkgeoekcnlgfnaaGreatDoorKe7
import Derived.Test.YtkgeoekcnlgfnaaGreatDoorKe14
import Derived.Test.YtkgeoekcnlgfnaaGreatDoorKe15
import Derived.Test.YtkgeoekcnlgfnaaGreatDoorKe16
import Derived.Test.YtkgeoekcnlgfnaaGreatDoorKe17
import Derived.Test.YtkgeoekcnlgfnaaGreatDoorKe18
import Derived.Test.YtkgeoekcnlgfnaaGreatDoorKe19
import Derived.Test.YtkgeoekcnlgfnaaGreatDoorKe20
import Derived.Test.YtkgeoekcnlgfnaaGreatDoorKe21
import Derived.Test.YtkgeoekcnlgfnaaGreatDoorKe22
import Derived.Test.YtkgeoekcnlgfnaaGreatDoorKe26
import Derived.Test.YtkgeoekcnlgfnaaGreatDoorKe27
import Derived.Test.YtkgeoekcnlgfnaaGreatDoorKe28
import Derived.Test.YtkgeoekcnlgfnaaGreatDoorKe29
import Derived.Test.YtkgeoekcnlgfnaaGreatDoorKe30
import Derived.Test.YtkgeoekcnlgfnaaGreatDoorKe31
import Derived.Test.YtkgeoekcnlgfnaaGreatDoorKe32
set_option linter.unusedVariables false
set_option linter.unusedSimpArgs false
section
namespace Go.Proofs
open Go Go.Kx
def hl (s:Int):Nat:=if s=4866 then 48 else 32
def okS (s:Int):Prop:=s=4865 ∨ s=4866 ∨ s=4867
def sz (s:Int):Int × Int × Int:=if s=4865 then (16,256,0) else if s=4866 then (32,384,0) else if s=4867 then (32,256,0) else (0,0,800)
theorem aeadS_eq (s:Int):aead_Sizes s=some (sz s):=by
 unfold aead_Sizes sz
 by_cases c1:s=4865
 ·simp [ltt,c1]
 ·by_cases c2:s=4866
  ·simp [ltt,c2]
  ·by_cases c3:s=4867
   ·simp [ltt,c3]
   ·simp [ltt,c1,c2,c3]
theorem refS_eq (s:Int):halberdref4_Sizes s=some (sz s):=by
 unfold halberdref4_Sizes sz
 by_cases c1:s=4865
 ·simp [ltt,c1]
 ·by_cases c2:s=4866
  ·simp [ltt,c2]
  ·by_cases c3:s=4867
   ·simp [ltt,c3]
   ·simp [ltt,c1,c2,c3]
theorem sz_ok {s:Int} (h:okS s):(sz s).2.2=0∧w64 ((sz s).2.1.tdiv 8)=(hl s:Int):=by
 rcases h with rfl | rfl | rfl <;> exact ⟨by decide,by decide⟩
theorem sz_no {s:Int} (h : ¬ okS s):(sz s).2.2=800:=by
 unfold okS at h
 unfold sz
 rw [if_neg (by omega),if_neg (by omega),if_neg (by omega)]
theorem bytesI_four (x:Int):bytesI x 4=[BitVec.ofInt 8 (shrI' x 24),BitVec.ofInt 8 (shrI' x 16),BitVec.ofInt 8 (shrI' x 8),BitVec.ofInt 8 x]:=by
 have hr:List.range 4=[0,1,2,3]:=rfl
 have h1:shrI' x 8=x / 256:=rfl
 have h2:shrI' x 16=x / 65536:=rfl
 have h3:shrI' x 24=x / 16777216:=rfl
 unfold bytesI
 rw [hr,h1,h2,h3]
 simp
theorem bytesI_twoT (x:Int):bytesI x 2=[BitVec.ofInt 8 (shrI' x 8),BitVec.ofInt 8 x]:=by
 have hr:List.range 2=[0,1]:=rfl
 have hs:shrI' x 8=x / 256:=rfl
 unfold bytesI
 rw [hr,hs]
 simp
theorem wb2T (x:Int):wire_Bytes x 2=some (bytesI x 2):=by
 unfold wire_Bytes
 refine ltt_i fun x1 hx1=>if_n (by rw [hx1]; decide) (ltt_i fun x2 hx2=>if_n (by rw [hx2]; decide) (ltt_i fun x3 hx3=>if_i (by rw [hx3]; decide) (if_i (by simp) (ltt_i fun l hl=>if_i (by rw [hl]; simp) (ltt_i fun l2 hl2=>?_)))))
 rw [hl2,hl,bytesI_twoT]; rfl
theorem wb4T (x:Int):wire_Bytes x 4=some (bytesI x 4):=by
 unfold wire_Bytes
 refine ltt_i fun x1 hx1=>if_i (by rw [hx1]; decide) (if_i (by simp) (ltt_i fun l1 h1=>if_i (by rw [h1]; simp) (ltt_i fun l2 h2=>if_i (by rw [h2,h1]; simp) (ltt_i fun l3 h3=>if_i (by rw [h3,h2,h1]; simp) (ltt_i fun l4 h4=>?_)))))
 rw [h4,h3,h2,h1,bytesI_four]; rfl
def ok32 (x:Int):Prop:=0≤x∧x<4294967296
instance (x:Int):Decidable (ok32 x):=by unfold ok32; infer_instance
theorem put4 (x:Int):wire_Put x 4=some (if ok32 x then (bytesI x 4,0) else ([],101)):=by
 have e1:w64 (8 * 4)=32:=by decide
 have hs:shrI' x 32=x / 4294967296:=rfl
 unfold wire_Put
 rw [e1,hs]
 refine if_n (by decide) (if_n (by decide) ?_)
 by_cases c:ok32 x
 ·rw [if_pos c]
  unfold ok32 at c
  exact if_n (by omega) (if_i (by decide) (if_n (by omega) (bind_i (wb4T x) rfl)))
 ·rw [if_neg c]
  unfold ok32 at c
  by_cases c2:x<0
  ·exact if_i c2 rfl
  ·exact if_n c2 (if_i (by decide) (if_i (by omega) rfl))
theorem chk_eq (r2 r3:Str × Int):loop (ticket_plain.b0 r2 r3) BIG 0=some (if r2.2=0∧r3.2=0 then .inl () else .inr (([]:Str),Er.wr 2000 (Er.no (if r2.2 ≠ 0 then r2.2 else r3.2)))):=by
 have e0:w64 (((0:Nat):Int)+1)=((0+1:Nat):Int):=by decide
 have e1:w64 (((1:Nat):Int)+1)=((1+1:Nat):Int):=by decide
 by_cases c2:r2.2=0
 ·by_cases c3:r3.2=0
  ·rw [if_pos ⟨c2,c3⟩]
   refine loop_fn (fun k=>(k:Int)) 2 _ (by decide) rfl (fun k hk=>?_) ?_
   ·unfold ticket_plain.b0
    rcases (show k=0 ∨ k=1 by omega) with rfl | rfl
    ·exact if_i (by decide) (if_i (by decide) (if_i (by simp) (ltt_i fun x hx=>if_n (by rw [hx]; exact fun h=>h c2) (by rw [e0]))))
    ·exact if_i (by decide) (if_i (by decide) (if_i (by simp) (ltt_i fun x hx=>if_n (by rw [hx]; exact fun h=>h c3) (by rw [e1]))))
   ·unfold ticket_plain.b0
    exact if_n (by decide) rfl
  ·rw [if_neg (fun h=>c3 h.2),if_neg (fun h=>h c2)]
   refine loop_fn (fun k=>(k:Int)) 1 _ (by decide) rfl (fun k hk=>?_) ?_
   ·unfold ticket_plain.b0
    obtain rfl:k=0:=by omega
    exact if_i (by decide) (if_i (by decide) (if_i (by simp) (ltt_i fun x hx=>if_n (by rw [hx]; exact fun h=>h c2) (by rw [e0]))))
   ·unfold ticket_plain.b0
    exact if_i (by decide) (if_i (by decide) (if_i (by simp) (ltt_i fun x hx=>if_i (by rw [hx]; exact c3) (ltt_i fun y hy=>by rw [hy,hx]; rfl))))
 ·rw [if_neg (fun h=>c2 h.1),if_pos c2]
  refine loop_fn (fun k=>(k:Int)) 0 _ (by decide) rfl (fun k hk=>by omega) ?_
  unfold ticket_plain.b0
  exact if_i (by decide) (if_i (by decide) (if_i (by simp) (ltt_i fun x hx=>if_i (by rw [hx]; exact c2) (ltt_i fun y hy=>by rw [hy,hx]; rfl))))
def okT (su:Int) (sec:Str) (mk ad:Int):Prop:=okS su∧sec.length=hl su∧ok32 mk∧ok32 ad
instance (su:Int) (sec:Str) (mk ad:Int):Decidable (okT su sec mk ad):=by unfold okT okS; infer_instance
def encT (su:Int) (sec:Str) (mk ad:Int):Str:=bytesI su 2++bytesI mk 4++bytesI ad 4++sec
theorem encT_length (su:Int) (sec:Str) (mk ad:Int):(encT su sec mk ad).length=10+sec.length:=by
 unfold encT; simp only [List.length_append,bytesI_length]
theorem hl_le (s:Int):hl s≤48:=by unfold hl; split <;> omega
theorem plain_ok {su:Int} {sec:Str} {mk ad:Int} (h:okT su sec mk ad):ticket_plain su sec mk ad=some (encT su sec mk ad,Er.nil):=by
 obtain ⟨h1,h2,h3,h4⟩:=h
 have hs:=sz_ok h1
 have hle:=hl_le su
 unfold ticket_plain
 refine bind_i (aeadS_eq su) (if_n (by rw [hs.1]; decide) (bind_i (put4 mk) (bind_i (put4 ad) (bind_i (chk_eq _ _) ?_))))
 rw [if_pos h3,if_pos h4,if_pos ⟨rfl,rfl⟩]
 refine if_n (by rw [hs.2,h2]; exact fun h=>h rfl) (bind_i (wb2T su) (if_i (by simp only [bytesI_length]; decide) (if_i (by simp only [List.length_append,bytesI_length]; decide) (if_i (by simp only [List.length_append,bytesI_length]; omega) (ltt_i fun x hx=>?_)))))
 rw [hx]; rfl
theorem plain_no {su:Int} {sec:Str} {mk ad:Int} (h : ¬ okT su sec mk ad) : ∃ e,ticket_plain su sec mk ad=some ([],e)∧Er.isNil e=false:=by
 unfold ticket_plain
 by_cases h1:okS su
 ·have hs:=sz_ok h1
  by_cases h3:ok32 mk∧ok32 ad
  ·refine ⟨Er.no 2000,?_,rfl⟩
   refine bind_i (aeadS_eq su) (if_n (by rw [hs.1]; decide) (bind_i (put4 mk) (bind_i (put4 ad) (bind_i (chk_eq _ _) ?_))))
   rw [if_pos h3.1,if_pos h3.2,if_pos ⟨rfl,rfl⟩]
   exact if_i (by rw [hs.2]; intro h2; exact h ⟨h1,by omega,h3.1,h3.2⟩) rfl
  ·refine ⟨Er.wr 2000 (Er.no 101),?_,rfl⟩
   refine bind_i (aeadS_eq su) (if_n (by rw [hs.1]; decide) (bind_i (put4 mk) (bind_i (put4 ad) (bind_i (chk_eq _ _) ?_))))
   by_cases c:ok32 mk
   ·rw [if_pos c,if_neg (fun h=>h3 ⟨c,h⟩),if_neg (fun h=>absurd (show (101:Int)=0 from h.2) (by decide))]; rfl
   ·rw [if_neg c,if_neg (fun h=>absurd (show (101:Int)=0 from h.1) (by decide))]; rfl
 ·refine ⟨Er.wr 2000 (Er.no 800),?_,rfl⟩
  refine bind_i (aeadS_eq su) (if_i (by rw [sz_no h1]; decide) (ltt_i fun x hx=>?_))
  rw [hx,sz_no h1]
def sealT (key nonce:Str) (su:Int) (sec:Str) (mk ad:Int):Str × Int:=if okT su sec mk ad∧key.length=32∧nonce.length=12 then (nonce++(sealE key nonce [] (encT su sec mk ad)).1,0) else ([],2000)
theorem sealE_ok {key nonce:Str} {s:Str} (hk:key.length=32) (hn:nonce.length=12) (hs:s.length≤65536):sealE key nonce [] s=(xo key nonce 2 s++tagE key nonce [] (xo key nonce 2 s),0):=by
 unfold sealE
 rw [if_pos ⟨.inr hk,hn,by simp,hs⟩]
theorem sealE_len {key nonce:Str} {s:Str} (hk:key.length=32) (hn:nonce.length=12) (hs:s.length≤65536):(sealE key nonce [] s).1.length=s.length+16:=by
 rw [sealE_ok hk hn hs,List.length_append,xo_length,tagE_length]
theorem sealT_pos {key nonce:Str} {su:Int} {sec:Str} {mk ad:Int} (h:okT su sec mk ad∧key.length=32∧nonce.length=12):sealT key nonce su sec mk ad=(nonce++(sealE key nonce [] (encT su sec mk ad)).1,0):=if_pos h
theorem sealT_neg {key nonce:Str} {su:Int} {sec:Str} {mk ad:Int} (h : ¬ (okT su sec mk ad∧key.length=32∧nonce.length=12)):sealT key nonce su sec mk ad=([],2000):=if_neg h
instance (s:Int):Decidable (okS s):=by unfold okS; infer_instance
theorem Bits_eq (s:Int):halberdref19_Bits s=some (if okS s then ((sz s).2.1,0) else (0,1900)):=by
 unfold halberdref19_Bits
 by_cases h:okS s
 ·rw [if_pos h]
  exact bind_i (refS_eq s) (if_n (by rw [(sz_ok h).1]; decide) rfl)
 ·rw [if_neg h]
  exact bind_i (refS_eq s) (if_i (by rw [sz_no h]; decide) rfl)
theorem SealTR_eq (key nonce:Str) (su:Int) (sec:Str) (mk ad:Int):halberdref19_SealTicket key nonce su sec mk ad=some (sealT key nonce su sec mk ad):=by
 unfold halberdref19_SealTicket
 refine bind_i (Bits_eq su) ?_
 by_cases h1:okS su
 ·have hs:=(sz_ok h1).2
  have hle:=hl_le su
  rw [if_pos h1]
  dsimp only
  rw [hs]
  by_cases h:(okT su sec mk ad∧key.length=32∧nonce.length=12)
  ·obtain ⟨⟨_,h2,h3,h4⟩,c1,c2⟩:=id h
   unfold ok32 at h3 h4
   have hl:=encT_length su sec mk ad
   have hsl:=sealE_len c1 c2 (s:=encT su sec mk ad) (by omega)
   rw [sealT_pos h]
   refine bind_i (v:=false) (if_n (by decide) (if_n (by omega) (if_n (by omega) (if_n (by omega) (if_n (by omega) (if_n (by omega) (if_n (by omega) (by rw [decide_eq_false (by omega)])))))))) ?_
   refine if_n (by decide) (bind_i (Be_eq su 2 (by decide)) (bind_i (Be_eq mk 4 (by decide)) (if_i (by simp only [bytesI_length]; decide) (bind_i (Be_eq ad 4 (by decide)) (if_i (by simp only [List.length_append,bytesI_length]; decide) (if_i (by simp only [List.length_append,bytesI_length]; omega) (bind_i (SealR_eq _ _ _ _) (if_i ?_ (ltt_i fun x hx=>by rw [hx]; rfl)))))))))
   show nonce.length+(sealE key nonce [] (encT su sec mk ad)).1.length≤_
   omega
  ·rw [sealT_neg h]
   refine bind_i (v:=true) (if_n (by decide) ?_) (if_i rfl rfl)
   by_cases c1:key.length=32
   ·refine if_n (by omega) ?_
    by_cases c2:nonce.length=12
    ·refine if_n (by omega) ?_
     by_cases c3:sec.length=hl su
     ·refine if_n (by omega) ?_
      by_cases c4:mk<0
      ·exact if_i c4 rfl
      ·refine if_n c4 ?_
       by_cases c5:4294967295<mk
       ·exact if_i c5 rfl
       ·refine if_n c5 ?_
        by_cases c6:ad<0
        ·exact if_i c6 rfl
        ·refine if_n c6 ?_
         have:4294967295<ad:=by
          by_cases c7:4294967295<ad
          ·exact c7
          ·exact absurd ⟨⟨h1,c3,⟨by omega,by omega⟩,⟨by omega,by omega⟩⟩,c1,c2⟩ h
         rw [decide_eq_true this]
     ·exact if_i (by omega) rfl
    ·exact if_i (by omega) rfl
   ·exact if_i (by omega) rfl
 ·rw [sealT_neg (fun x=>h1 x.1.1),if_neg h1]
  exact bind_i (v:=true) (if_i (by decide) rfl) (if_i rfl rfl)
end Go.Proofs
end

section
namespace Go.Proofs
open Go Go.Kx
theorem told_eq (e:Er):ticket_told e=some (Er.tell e 0):=by
 cases e <;> rfl
theorem sub_cat (s:Str) (a b c:Nat) (h:a≤b) (h2:b≤c):sub s a b++sub s b c=sub s a c:=by
 unfold sub
 have:s.drop b=(s.drop a).drop (b - a):=by rw [List.drop_drop]; congr 1; omega
 rw [this,show c - a=(b - a)+(c - b) from by omega,List.take_add]
theorem openE_len (key nonce aad s:Str):(openE key nonce aad s).1.length≤65536:=by
 unfold openE
 split
 ·rename_i h
  have:=h.2.2.2
  split
  ·exact Nat.zero_le _
  ·split
   ·exact Nat.zero_le _
   ·dsimp only; rw [xo_length,sub_length (by omega)]; omega
 ·exact Nat.zero_le _
theorem encT_num (p:Str) (h:10≤p.length):encT ((numB p 0 2:Nat):Int) (sub p 10 p.length) ((numB p 2 4:Nat):Int) ((numB p 6 4:Nat):Int)=p:=by
 unfold encT
 rw [enc_num p 0 2 (by omega),enc_num p 2 4 (by omega),enc_num p 6 4 (by omega),sub_cat _ _ _ _ (by omega) (by omega),sub_cat _ _ _ _ (by omega) (by omega),sub_cat _ _ _ _ (by omega) (by omega),sub_all]
abbrev noT (e:Int):Int × Str × Int × Int × Int:=(0,[],0,0,e)
def okP (p:Str):Prop:=10≤p.length∧okT ((numB p 0 2:Nat):Int) (sub p 10 p.length) ((numB p 2 4:Nat):Int) ((numB p 6 4:Nat):Int)
instance (p:Str):Decidable (okP p):=by unfold okP; infer_instance
def rdT (p:Str):Int × Str × Int × Int × Int:=(((numB p 0 2:Nat):Int),sub p 10 p.length,((numB p 2 4:Nat):Int),((numB p 6 4:Nat):Int),0)
def openT (key s:Str):Int × Str × Int × Int × Int :=
 if key.length ≠ 32 then noT 2000 else if s.length<12 then noT 2001 else if (openE key (sub s 0 12) [] (sub s 12 s.length)).2=0∧okP (openE key (sub s 0 12) [] (sub s 12 s.length)).1 then rdT (openE key (sub s 0 12) [] (sub s 12 s.length)).1 else noT 2001
theorem U16_eq (s:Str) (a:Nat) (hs:s.length<1152921504606846976) (ha:a<1152921504606846976):wire_U16 s (a:Int)=some (rdN s a 2):=by
 unfold wire_U16; exact bind_i (number_eq s a 2 (by decide) hs ha) rfl
theorem U32_eq (s:Str) (a:Nat) (hs:s.length<1152921504606846976) (ha:a<1152921504606846976):wire_U32 s (a:Int)=some (rdN s a 4):=by
 unfold wire_U32; exact bind_i (number_eq s a 4 (by decide) hs ha) rfl
theorem rdN_ok {s:Str} {a n:Nat} (h:a+n≤s.length):rdN s a n=(((numB s a n:Nat):Int),((a+n:Nat):Int),0):=if_pos h
theorem rdN_no {s:Str} {a n:Nat} (h : ¬ a+n≤s.length):rdN s a n=(0,0,100):=if_neg h
theorem inner_eq (p:Str) (hp:p.length≤65536) : ∃ e:Er,((wire_U16 p 0).bind fun (r_2:Int × Int × Int)=>((wire_U32 p r_2.2.1).bind fun (r_3:Int × Int × Int)=>((wire_U32 p r_3.2.1).bind fun (r_4:Int × Int × Int)=>(if r_4.2.2 ≠ 0 then (ltt (Er.wr 2001 (Er.no r_4.2.2)) fun (x2:Er)=>(some ((0:Int),([]:Str),(0:Int),(0:Int),x2))) else (if 0≤r_4.2.1 then (if (r_4.2.1).toNat≤p.length then ((ticket_plain r_2.1 (sub p ((r_4.2.1).toNat) (p.length)) r_3.1 r_4.1).bind fun (r_5:Str × Er)=>((if (!(Er.isNil r_5.2))=true then (some true) else (some (decide (r_5.1 ≠ p)))).bind fun (j1:Bool)=>(if j1=true then (some (0,([]:Str),0,0,Er.no 2001)) else (some (r_2.1,sub p ((r_4.2.1).toNat) (p.length),r_3.1,r_4.1,Er.nil))))) else none) else none)))))
   = some (if okP p then ((rdT p).1,(rdT p).2.1,(rdT p).2.2.1,(rdT p).2.2.2.1,Er.nil) else (0,[],0,0,e))∧Er.tell e 0=2001:=by
 have bad : ∀ r2 r3 r4:Int × Int × Int,r4.2.2=100 → (if r4.2.2 ≠ 0 then (ltt (Er.wr 2001 (Er.no r4.2.2)) fun (x2:Er)=>(some ((0:Int),([]:Str),(0:Int),(0:Int),x2))) else (if 0≤r4.2.1 then (if (r4.2.1).toNat≤p.length then ((ticket_plain r2.1 (sub p ((r4.2.1).toNat) (p.length)) r3.1 r4.1).bind fun (r_5:Str × Er)=>((if (!(Er.isNil r_5.2))=true then (some true) else (some (decide (r_5.1 ≠ p)))).bind fun (j1:Bool)=>(if j1=true then (some (0,([]:Str),0,0,Er.no 2001)) else (some (r2.1,sub p ((r4.2.1).toNat) (p.length),r3.1,r4.1,Er.nil))))) else none) else none))=some (0,[],0,0,Er.wr 2001 (Er.no 100)):=fun r2 r3 r4 h=>by
  rw [h]; exact if_i (by decide) (ltt_i fun x hx=>by rw [hx])
 by_cases c10:10≤p.length
 ·refine ⟨Er.no 2001,?_,rfl⟩
  refine bind_i (U16_eq p 0 (by omega) (by decide)) ?_
  rw [rdN_ok (show 0+2≤p.length by omega)]
  refine bind_i (U32_eq p (0+2) (by omega) (by decide)) ?_
  rw [rdN_ok (show 0+2+4≤p.length by omega)]
  refine bind_i (U32_eq p (0+2+4) (by omega) (by decide)) ?_
  rw [rdN_ok (show 0+2+4+4≤p.length by omega)]
  refine if_n (by dsimp only; decide) (if_i (by dsimp only; omega) ?_)
  have e:(((0+2+4+4:Nat):Int)).toNat=10:=rfl
  dsimp only
  rw [e]
  refine if_i c10 ?_
  by_cases h:okT ((numB p 0 2:Nat):Int) (sub p 10 p.length) ((numB p 2 4:Nat):Int) ((numB p 6 4:Nat):Int)
  ·have hP:okP p:=⟨c10,h⟩
   rw [if_pos hP]
   exact bind_i (plain_ok h) (bind_i (v:=false) (if_n (by simp [Er.isNil]) (by rw [encT_num p c10]; simp)) rfl)
  ·have hP : ¬ okP p:=fun x=>h x.2
   rw [if_neg hP]
   obtain ⟨e,he,hn⟩:=plain_no h
   exact bind_i he (bind_i (v:=true) (if_i (by rw [hn]; rfl) rfl) rfl)
 ·have hP : ¬ okP p:=fun x=>c10 x.1
  simp only [if_neg hP]
  by_cases c2:2≤p.length
  ·by_cases c6:6≤p.length
   ·refine ⟨Er.wr 2001 (Er.no 100),?_,rfl⟩
    refine bind_i (U16_eq p 0 (by omega) (by decide)) ?_
    rw [rdN_ok (show 0+2≤p.length by omega)]
    refine bind_i (U32_eq p (0+2) (by omega) (by decide)) ?_
    rw [rdN_ok (show 0+2+4≤p.length by omega)]
    refine bind_i (U32_eq p (0+2+4) (by omega) (by decide)) ?_
    rw [rdN_no (show ¬ 0+2+4+4≤p.length by omega)]
    exact bad _ _ _ rfl
   ·by_cases c4:4≤p.length
    ·refine ⟨Er.no 2001,?_,rfl⟩
     refine bind_i (U16_eq p 0 (by omega) (by decide)) ?_
     rw [rdN_ok (show 0+2≤p.length by omega)]
     refine bind_i (U32_eq p (0+2) (by omega) (by decide)) ?_
     rw [rdN_no (show ¬ 0+2+4≤p.length by omega)]
     refine bind_i (U32_eq p 0 (by omega) (by decide)) ?_
     rw [rdN_ok (show 0+4≤p.length by omega)]
     refine if_n (by dsimp only; decide) (if_i (by dsimp only; omega) ?_)
     have e:(((0+4:Nat):Int)).toNat=4:=rfl
     dsimp only
     rw [e]
     refine if_i c4 ?_
     have hn : ¬ okT ((numB p 0 2:Nat):Int) (sub p 4 p.length) 0 ((numB p 0 4:Nat):Int):=by
      intro h
      have h2:=h.2.1
      rw [sub_length (Nat.le_refl _)] at h2
      unfold hl at h2
      split at h2 <;> omega
     obtain ⟨e,he,hi⟩:=plain_no hn
     exact bind_i he (bind_i (v:=true) (if_i (by rw [hi]; rfl) rfl) rfl)
    ·refine ⟨Er.wr 2001 (Er.no 100),?_,rfl⟩
     refine bind_i (U16_eq p 0 (by omega) (by decide)) ?_
     rw [rdN_ok (show 0+2≤p.length by omega)]
     refine bind_i (U32_eq p (0+2) (by omega) (by decide)) ?_
     rw [rdN_no (show ¬ 0+2+4≤p.length by omega)]
     refine bind_i (U32_eq p 0 (by omega) (by decide)) ?_
     rw [rdN_no (show ¬ 0+4≤p.length by omega)]
     exact bad _ _ _ rfl
  ·refine ⟨Er.wr 2001 (Er.no 100),?_,rfl⟩
   refine bind_i (U16_eq p 0 (by omega) (by decide)) ?_
   rw [rdN_no (show ¬ 0+2≤p.length by omega)]
   refine bind_i (U32_eq p 0 (by omega) (by decide)) ?_
   rw [rdN_no (show ¬ 0+4≤p.length by omega)]
   refine bind_i (U32_eq p 0 (by omega) (by decide)) ?_
   rw [rdN_no (show ¬ 0+4≤p.length by omega)]
   exact bad _ _ _ rfl
theorem OpenT_eq (key s:Str):ticket_Open key s=some (openT key s):=by
 unfold ticket_Open openT
 by_cases hk:key.length=32
 ·rw [if_neg (show ¬ key.length ≠ 32 by omega)]
  refine if_n (by omega) ?_
  have main : ∃ e:Er,ticket_open key s=some ((if s.length<12 then noT 0 else if (openE key (sub s 0 12) [] (sub s 12 s.length)).2=0∧okP (openE key (sub s 0 12) [] (sub s 12 s.length)).1 then rdT (openE key (sub s 0 12) [] (sub s 12 s.length)).1 else noT 0).1,(if s.length<12 then noT 0 else if (openE key (sub s 0 12) [] (sub s 12 s.length)).2=0∧okP (openE key (sub s 0 12) [] (sub s 12 s.length)).1 then rdT (openE key (sub s 0 12) [] (sub s 12 s.length)).1 else noT 0).2.1,(if s.length<12 then noT 0 else if (openE key (sub s 0 12) [] (sub s 12 s.length)).2=0∧okP (openE key (sub s 0 12) [] (sub s 12 s.length)).1 then rdT (openE key (sub s 0 12) [] (sub s 12 s.length)).1 else noT 0).2.2.1,(if s.length<12 then noT 0 else if (openE key (sub s 0 12) [] (sub s 12 s.length)).2=0∧okP (openE key (sub s 0 12) [] (sub s 12 s.length)).1 then rdT (openE key (sub s 0 12) [] (sub s 12 s.length)).1 else noT 0).2.2.2.1,e) ∧
    Er.tell e 0=(if s.length<12 then noT 2001 else if (openE key (sub s 0 12) [] (sub s 12 s.length)).2=0∧okP (openE key (sub s 0 12) [] (sub s 12 s.length)).1 then rdT (openE key (sub s 0 12) [] (sub s 12 s.length)).1 else noT 2001).2.2.2.2:=by
   unfold ticket_open
   by_cases c:s.length<12
   ·rw [if_pos c,if_pos c]
    exact ⟨Er.no 2001,if_i (by omega) rfl,rfl⟩
   ·rw [if_neg c,if_neg c]
    obtain ⟨o,ho⟩ : ∃ o,openE key (sub s 0 12) [] (sub s 12 s.length)=o:=⟨_,rfl⟩
    have hlen:=openE_len key (sub s 0 12) [] (sub s 12 s.length)
    rw [ho] at hlen ⊢
    by_cases c2:o.2=0
    ·obtain ⟨e,he,ht⟩:=inner_eq o.1 hlen
     by_cases c3:okP o.1
     ·refine ⟨Er.nil,if_n (by omega) (if_i (by omega) (if_i (by omega) (bind_i ((Open_eq _ _ _ _).trans (congrArg some ho)) (if_n (by rw [c2]; decide) (he.trans ?_))))),?_⟩
      ·rw [if_pos c3,if_pos (show o.2=0∧okP o.1 from ⟨c2,c3⟩)]
      ·rw [if_pos (show o.2=0∧okP o.1 from ⟨c2,c3⟩)]; rfl
     ·refine ⟨e,if_n (by omega) (if_i (by omega) (if_i (by omega) (bind_i ((Open_eq _ _ _ _).trans (congrArg some ho)) (if_n (by rw [c2]; decide) (he.trans ?_))))),?_⟩
      ·rw [if_neg c3,if_neg (show ¬ (o.2=0∧okP o.1) from fun h=>c3 h.2)]
      ·rw [if_neg (show ¬ (o.2=0∧okP o.1) from fun h=>c3 h.2)]; exact ht
    ·refine ⟨Er.wr 2001 (Er.no o.2),if_n (by omega) (if_i (by omega) (if_i (by omega) (bind_i ((Open_eq _ _ _ _).trans (congrArg some ho)) (if_i c2 (ltt_i fun x hx=>?_))))),?_⟩
     ·rw [hx,if_neg (show ¬ (o.2=0∧okP o.1) from fun h=>c2 h.1)]
     ·rw [if_neg (show ¬ (o.2=0∧okP o.1) from fun h=>c2 h.1)]; rfl
  obtain ⟨e,he,ht⟩:=main
  refine bind_i he (bind_i (told_eq e) ?_)
  rw [ht]
  by_cases c:s.length<12
  ·rw [if_pos c,if_pos c]
  ·rw [if_neg c,if_neg c]
   split <;> rfl
 ·rw [if_pos hk]
  exact if_i (by omega) rfl
end Go.Proofs
end

section
namespace Go.Proofs
open Go Go.Kx
theorem open_sealP {key nonce p:Str} (hk:key.length=32) (hn:nonce.length=12) (hp:p.length≤65536):openT key (nonce++(sealE key nonce [] p).1)=if okP p then rdT p else noT 2001:=by
 have hl:=sealE_len hk hn hp
 have hL:(nonce++(sealE key nonce [] p).1).length=12+(p.length+16):=by rw [List.length_append]; omega
 unfold openT
 rw [if_neg (by omega),if_neg (by omega),sub_pre _ _ 12 hn.symm,sub_suf _ _ 12 _ hn.symm rfl,open_seal key nonce [] p (.inr hk) hn (by simp) hp]
 by_cases h:okP p
 ·rw [if_pos ⟨rfl,h⟩,if_pos h]
 ·rw [if_neg (fun x=>h x.2),if_neg h]
theorem rd_enc {su:Int} {sec:Str} {mk ad:Int} (h1:0≤su∧su<65536) (h2:ok32 mk) (h3:ok32 ad):rdT (encT su sec mk ad)=(su,sec,mk,ad,0):=by
 obtain ⟨a,rfl⟩:=Int.eq_ofNat_of_zero_le h1.1
 obtain ⟨b,rfl⟩:=Int.eq_ofNat_of_zero_le h2.1
 obtain ⟨c,rfl⟩:=Int.eq_ofNat_of_zero_le h3.1
 unfold ok32 at h2 h3
 have n1:numB (encT (a:Int) sec (b:Int) (c:Int)) 0 2=a:=by
  have:=num_at [] (bytesI (b:Int) 4++bytesI (c:Int) 4++sec) 2 a (by omega)
  simpa [encT,List.append_assoc] using this
 have n2:numB (encT (a:Int) sec (b:Int) (c:Int)) 2 4=b:=by
  have:=num_at (bytesI (a:Int) 2) (bytesI (c:Int) 4++sec) 4 b (by omega)
  rw [bytesI_length] at this
  simpa [encT,List.append_assoc] using this
 have n3:numB (encT (a:Int) sec (b:Int) (c:Int)) 6 4=c:=by
  have:=num_at (bytesI (a:Int) 2++bytesI (b:Int) 4) sec 4 c (by omega)
  rw [List.length_append,bytesI_length,bytesI_length] at this
  simpa [encT,List.append_assoc] using this
 unfold rdT
 rw [n1,n2,n3,show sub (encT (a:Int) sec (b:Int) (c:Int)) 10 (encT (a:Int) sec (b:Int) (c:Int)).length=sec from sub_suf _ _ 10 _ (by simp only [List.length_append,bytesI_length]) rfl]
theorem okP_enc {su:Int} {sec:Str} {mk ad:Int} (h1:0≤su∧su<65536) (h2:ok32 mk) (h3:ok32 ad):okP (encT su sec mk ad) ↔ okT su sec mk ad:=by
 have h:=rd_enc (sec:=sec) h1 h2 h3
 have e1:((numB (encT su sec mk ad) 0 2:Nat):Int)=su:=congrArg (·.1) h
 have e2:sub (encT su sec mk ad) 10 (encT su sec mk ad).length=sec:=congrArg (·.2.1) h
 have e3:((numB (encT su sec mk ad) 2 4:Nat):Int)=mk:=congrArg (·.2.2.1) h
 have e4:((numB (encT su sec mk ad) 6 4:Nat):Int)=ad:=congrArg (·.2.2.2.1) h
 have hl:=encT_length su sec mk ad
 unfold okP
 rw [e1,e2,e3,e4]
 exact ⟨fun x=>x.2,fun x=>⟨by omega,x⟩⟩
theorem okS_small {su:Int} (h:okS su):0≤su∧su<65536:=by unfold okS at h; omega
theorem open_sealT {key nonce:Str} {su:Int} {sec:Str} {mk ad:Int} (h:okT su sec mk ad) (hk:key.length=32) (hn:nonce.length=12):openT key (sealT key nonce su sec mk ad).1=(su,sec,mk,ad,0):=by
 have hle:=hl_le su
 have hl:=encT_length su sec mk ad
 have h2:=h.2.1
 rw [sealT_pos ⟨h,hk,hn⟩]
 show openT key (nonce++(sealE key nonce [] (encT su sec mk ad)).1)=_
 rw [open_sealP hk hn (by omega),if_pos ((okP_enc (okS_small h.1) h.2.2.1 h.2.2.2).2 h),rd_enc (okS_small h.1) h.2.2.1 h.2.2.2]
end Go.Proofs
end

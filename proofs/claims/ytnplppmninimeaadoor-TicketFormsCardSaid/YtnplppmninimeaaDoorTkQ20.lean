/-
  Part 20 of the proof of what several laws share.
-/
import Derived.Laws.Externs
import Derived.Shelf.Spec.BitsCarry
import Derived.Test.YtnplppmninimeaaDoorTkQ1
import Derived.Test.YtnplppmninimeaaDoorTkQ2
import Derived.Test.YtnplppmninimeaaDoorTkQ3
import Derived.Test.YtnplppmninimeaaDoorTkQ4
import Derived.Test.YtnplppmninimeaaDoorTkQ5
import Derived.Test.YtnplppmninimeaaDoorTkQ6
import Derived.Test.YtnplppmninimeaaDoorTkQ7
import Derived.Test.YtnplppmninimeaaDoorTkQ8
import Derived.Test.YtnplppmninimeaaDoorTkQ9
import Derived.Test.YtnplppmninimeaaDoorTkQ10
import Derived.Test.YtnplppmninimeaaDoorTkQ11
import Derived.Test.YtnplppmninimeaaDoorTkQ12
import Derived.Test.YtnplppmninimeaaDoorTkQ13
import Derived.Test.YtnplppmninimeaaDoorTkQ14
import Derived.Test.YtnplppmninimeaaDoorTkQ15
import Derived.Test.YtnplppmninimeaaDoorTkQ16
import Derived.Test.YtnplppmninimeaaDoorTkQ17
import Derived.Test.YtnplppmninimeaaDoorTkQ18
import Derived.Test.YtnplppmninimeaaDoorTkQ19
set_option linter.unusedVariables false
set_option linter.unusedSimpArgs false
section
namespace Go.Proofs
open Go Go.Kx
def hl (s:Int):Nat:=if s=4866 then 48 else 32
def okS (s:Int):Prop:=s=4865 ∨ s=4866 ∨ s=4867
def sz (s:Int):Int × Int × Int:=if s=4865 then (16,256,0) else if s=4866 then (32,384,0) else if s=4867 then (32,256,0) else (0,0,800)
theorem aeadS_eq (s:Int):aead_Sizes s=some (sz s):=by
 unfold aead_Sizes sz
 by_cases c1:s=4865
 ·simp [ltt,c1]
 ·by_cases c2:s=4866
  ·simp [ltt,c2]
  ·by_cases c3:s=4867
   ·simp [ltt,c3]
   ·simp [ltt,c1,c2,c3]
theorem refS_eq (s:Int):halberdref4_Sizes s=some (sz s):=by
 unfold halberdref4_Sizes sz
 by_cases c1:s=4865
 ·simp [ltt,c1]
 ·by_cases c2:s=4866
  ·simp [ltt,c2]
  ·by_cases c3:s=4867
   ·simp [ltt,c3]
   ·simp [ltt,c1,c2,c3]
theorem sz_ok {s:Int} (h:okS s):(sz s).2.2=0∧w64 ((sz s).2.1.tdiv 8)=(hl s:Int):=by
 rcases h with rfl | rfl | rfl <;> exact ⟨by decide,by decide⟩
theorem sz_no {s:Int} (h : ¬ okS s):(sz s).2.2=800:=by
 unfold okS at h
 unfold sz
 rw [if_neg (by omega),if_neg (by omega),if_neg (by omega)]
theorem bytesI_four (x:Int):bytesI x 4=[BitVec.ofInt 8 (shrI' x 24),BitVec.ofInt 8 (shrI' x 16),BitVec.ofInt 8 (shrI' x 8),BitVec.ofInt 8 x]:=by
 have hr:List.range 4=[0,1,2,3]:=rfl
 have h1:shrI' x 8=x / 256:=rfl
 have h2:shrI' x 16=x / 65536:=rfl
 have h3:shrI' x 24=x / 16777216:=rfl
 unfold bytesI
 rw [hr,h1,h2,h3]
 simp
theorem bytesI_twoT (x:Int):bytesI x 2=[BitVec.ofInt 8 (shrI' x 8),BitVec.ofInt 8 x]:=by
 have hr:List.range 2=[0,1]:=rfl
 have hs:shrI' x 8=x / 256:=rfl
 unfold bytesI
 rw [hr,hs]
 simp
theorem wb2T (x:Int):wire_Bytes x 2=some (bytesI x 2):=by
 unfold wire_Bytes
 refine ltt_i fun x1 hx1=>if_n (by rw [hx1]; decide) (ltt_i fun x2 hx2=>if_n (by rw [hx2]; decide) (ltt_i fun x3 hx3=>if_i (by rw [hx3]; decide) (if_i (by simp) (ltt_i fun l hl=>if_i (by rw [hl]; simp) (ltt_i fun l2 hl2=>?_)))))
 rw [hl2,hl,bytesI_twoT]; rfl
theorem wb4T (x:Int):wire_Bytes x 4=some (bytesI x 4):=by
 unfold wire_Bytes
 refine ltt_i fun x1 hx1=>if_i (by rw [hx1]; decide) (if_i (by simp) (ltt_i fun l1 h1=>if_i (by rw [h1]; simp) (ltt_i fun l2 h2=>if_i (by rw [h2,h1]; simp) (ltt_i fun l3 h3=>if_i (by rw [h3,h2,h1]; simp) (ltt_i fun l4 h4=>?_)))))
 rw [h4,h3,h2,h1,bytesI_four]; rfl
def ok32 (x:Int):Prop:=0≤x∧x<4294967296
instance (x:Int):Decidable (ok32 x):=by unfold ok32; infer_instance
theorem put4 (x:Int):wire_Put x 4=some (if ok32 x then (bytesI x 4,0) else ([],101)):=by
 have e1:w64 (8 * 4)=32:=by decide
 have hs:shrI' x 32=x / 4294967296:=rfl
 unfold wire_Put
 rw [e1,hs]
 refine if_n (by decide) (if_n (by decide) ?_)
 by_cases c:ok32 x
 ·rw [if_pos c]
  unfold ok32 at c
  exact if_n (by omega) (if_i (by decide) (if_n (by omega) (bind_i (wb4T x) rfl)))
 ·rw [if_neg c]
  unfold ok32 at c
  by_cases c2:x<0
  ·exact if_i c2 rfl
  ·exact if_n c2 (if_i (by decide) (if_i (by omega) rfl))
theorem chk_eq (r2 r3:Str × Int):loop (ticket_plain.b0 r2 r3) BIG 0=some (if r2.2=0∧r3.2=0 then .inl () else .inr (([]:Str),Er.wr 2000 (Er.no (if r2.2 ≠ 0 then r2.2 else r3.2)))):=by
 have e0:w64 (((0:Nat):Int)+1)=((0+1:Nat):Int):=by decide
 have e1:w64 (((1:Nat):Int)+1)=((1+1:Nat):Int):=by decide
 by_cases c2:r2.2=0
 ·by_cases c3:r3.2=0
  ·rw [if_pos ⟨c2,c3⟩]
   refine loop_fn (fun k=>(k:Int)) 2 _ (by decide) rfl (fun k hk=>?_) ?_
   ·unfold ticket_plain.b0
    rcases (show k=0 ∨ k=1 by omega) with rfl | rfl
    ·exact if_i (by decide) (if_i (by decide) (if_i (by simp) (ltt_i fun x hx=>if_n (by rw [hx]; exact fun h=>h c2) (by rw [e0]))))
    ·exact if_i (by decide) (if_i (by decide) (if_i (by simp) (ltt_i fun x hx=>if_n (by rw [hx]; exact fun h=>h c3) (by rw [e1]))))
   ·unfold ticket_plain.b0
    exact if_n (by decide) rfl
  ·rw [if_neg (fun h=>c3 h.2),if_neg (fun h=>h c2)]
   refine loop_fn (fun k=>(k:Int)) 1 _ (by decide) rfl (fun k hk=>?_) ?_
   ·unfold ticket_plain.b0
    obtain rfl:k=0:=by omega
    exact if_i (by decide) (if_i (by decide) (if_i (by simp) (ltt_i fun x hx=>if_n (by rw [hx]; exact fun h=>h c2) (by rw [e0]))))
   ·unfold ticket_plain.b0
    exact if_i (by decide) (if_i (by decide) (if_i (by simp) (ltt_i fun x hx=>if_i (by rw [hx]; exact c3) (ltt_i fun y hy=>by rw [hy,hx]; rfl))))
 ·rw [if_neg (fun h=>c2 h.1),if_pos c2]
  refine loop_fn (fun k=>(k:Int)) 0 _ (by decide) rfl (fun k hk=>by omega) ?_
  unfold ticket_plain.b0
  exact if_i (by decide) (if_i (by decide) (if_i (by simp) (ltt_i fun x hx=>if_i (by rw [hx]; exact c2) (ltt_i fun y hy=>by rw [hy,hx]; rfl))))
def okT (su:Int) (sec:Str) (mk ad:Int):Prop:=okS su∧sec.length=hl su∧ok32 mk∧ok32 ad
instance (su:Int) (sec:Str) (mk ad:Int):Decidable (okT su sec mk ad):=by unfold okT okS; infer_instance
def encT (su:Int) (sec:Str) (mk ad:Int):Str:=bytesI su 2++bytesI mk 4++bytesI ad 4++sec
theorem encT_length (su:Int) (sec:Str) (mk ad:Int):(encT su sec mk ad).length=10+sec.length:=by
 unfold encT; simp only [List.length_append,bytesI_length]
theorem hl_le (s:Int):hl s≤48:=by unfold hl; split <;> omega
theorem plain_ok {su:Int} {sec:Str} {mk ad:Int} (h:okT su sec mk ad):ticket_plain su sec mk ad=some (encT su sec mk ad,Er.nil):=by
 obtain ⟨h1,h2,h3,h4⟩:=h
 have hs:=sz_ok h1
 have hle:=hl_le su
 unfold ticket_plain
 refine bind_i (aeadS_eq su) (if_n (by rw [hs.1]; decide) (bind_i (put4 mk) (bind_i (put4 ad) (bind_i (chk_eq _ _) ?_))))
 rw [if_pos h3,if_pos h4,if_pos ⟨rfl,rfl⟩]
 refine if_n (by rw [hs.2,h2]; exact fun h=>h rfl) (bind_i (wb2T su) (if_i (by simp only [bytesI_length]; decide) (if_i (by simp only [List.length_append,bytesI_length]; decide) (if_i (by simp only [List.length_append,bytesI_length]; omega) (ltt_i fun x hx=>?_)))))
 rw [hx]; rfl
theorem plain_no {su:Int} {sec:Str} {mk ad:Int} (h : ¬ okT su sec mk ad) : ∃ e,ticket_plain su sec mk ad=some ([],e)∧Er.isNil e=false:=by
 unfold ticket_plain
 by_cases h1:okS su
 ·have hs:=sz_ok h1
  by_cases h3:ok32 mk∧ok32 ad
  ·refine ⟨Er.no 2000,?_,rfl⟩
   refine bind_i (aeadS_eq su) (if_n (by rw [hs.1]; decide) (bind_i (put4 mk) (bind_i (put4 ad) (bind_i (chk_eq _ _) ?_))))
   rw [if_pos h3.1,if_pos h3.2,if_pos ⟨rfl,rfl⟩]
   exact if_i (by rw [hs.2]; intro h2; exact h ⟨h1,by omega,h3.1,h3.2⟩) rfl
  ·refine ⟨Er.wr 2000 (Er.no 101),?_,rfl⟩
   refine bind_i (aeadS_eq su) (if_n (by rw [hs.1]; decide) (bind_i (put4 mk) (bind_i (put4 ad) (bind_i (chk_eq _ _) ?_))))
   by_cases c:ok32 mk
   ·rw [if_pos c,if_neg (fun h=>h3 ⟨c,h⟩),if_neg (fun h=>absurd (show (101:Int)=0 from h.2) (by decide))]; rfl
   ·rw [if_neg c,if_neg (fun h=>absurd (show (101:Int)=0 from h.1) (by decide))]; rfl
 ·refine ⟨Er.wr 2000 (Er.no 800),?_,rfl⟩
  refine bind_i (aeadS_eq su) (if_i (by rw [sz_no h1]; decide) (ltt_i fun x hx=>?_))
  rw [hx,sz_no h1]
def sealT (key nonce:Str) (su:Int) (sec:Str) (mk ad:Int):Str × Int:=if okT su sec mk ad∧key.length=32∧nonce.length=12 then (nonce++(sealE key nonce [] (encT su sec mk ad)).1,0) else ([],2000)
theorem sealE_ok {key nonce:Str} {s:Str} (hk:key.length=32) (hn:nonce.length=12) (hs:s.length≤65536):sealE key nonce [] s=(xo key nonce 2 s++tagE key nonce [] (xo key nonce 2 s),0):=by
 unfold sealE
 rw [if_pos ⟨.inr hk,hn,by simp,hs⟩]
theorem sealE_len {key nonce:Str} {s:Str} (hk:key.length=32) (hn:nonce.length=12) (hs:s.length≤65536):(sealE key nonce [] s).1.length=s.length+16:=by
 rw [sealE_ok hk hn hs,List.length_append,xo_length,tagE_length]
theorem sealT_pos {key nonce:Str} {su:Int} {sec:Str} {mk ad:Int} (h:okT su sec mk ad∧key.length=32∧nonce.length=12):sealT key nonce su sec mk ad=(nonce++(sealE key nonce [] (encT su sec mk ad)).1,0):=if_pos h
theorem sealT_neg {key nonce:Str} {su:Int} {sec:Str} {mk ad:Int} (h : ¬ (okT su sec mk ad∧key.length=32∧nonce.length=12)):sealT key nonce su sec mk ad=([],2000):=if_neg h
theorem SealT_eq (key nonce:Str) (su:Int) (sec:Str) (mk ad:Int):ticket_Seal key nonce su sec mk ad=some (sealT key nonce su sec mk ad):=by
 unfold ticket_Seal
 by_cases h:okT su sec mk ad
 ·have hle:=hl_le su
  have hl:=encT_length su sec mk ad
  have h2:=h.2.1
  refine bind_i (plain_ok h) ?_
  dsimp only
  by_cases c1:key.length=32
  ·by_cases c2:nonce.length=12
   ·have hsl:=sealE_len c1 c2 (s:=encT su sec mk ad) (by omega)
    rw [sealT_pos ⟨h,c1,c2⟩]
    refine bind_i (v:=false) (if_n (by simp [Er.isNil]) (if_n (by omega) (by simp [c2]))) (if_n (by decide) (bind_i (Seal_eq _ _ _ _) (if_i (by omega) (ltt_i fun x hx=>by rw [hx]))))
   ·rw [sealT_neg (fun h=>c2 h.2.2)]
    exact bind_i (v:=true) (if_n (by simp [Er.isNil]) (if_n (by omega) (by simp; omega))) (if_i rfl rfl)
  ·rw [sealT_neg (fun h=>c1 h.2.1)]
   exact bind_i (v:=true) (if_n (by simp [Er.isNil]) (if_i (by omega) rfl)) (if_i rfl rfl)
 ·obtain ⟨e,he,hn⟩:=plain_no h
  rw [sealT_neg (fun x=>h x.1)]
  exact bind_i he (bind_i (v:=true) (if_i (by rw [hn]; rfl) rfl) (if_i rfl rfl))
instance (s:Int):Decidable (okS s):=by unfold okS; infer_instance
theorem Bits_eq (s:Int):halberdref19_Bits s=some (if okS s then ((sz s).2.1,0) else (0,1900)):=by
 unfold halberdref19_Bits
 by_cases h:okS s
 ·rw [if_pos h]
  exact bind_i (refS_eq s) (if_n (by rw [(sz_ok h).1]; decide) rfl)
 ·rw [if_neg h]
  exact bind_i (refS_eq s) (if_i (by rw [sz_no h]; decide) rfl)
theorem SealTR_eq (key nonce:Str) (su:Int) (sec:Str) (mk ad:Int):halberdref19_SealTicket key nonce su sec mk ad=some (sealT key nonce su sec mk ad):=by
 unfold halberdref19_SealTicket
 refine bind_i (Bits_eq su) ?_
 by_cases h1:okS su
 ·have hs:=(sz_ok h1).2
  have hle:=hl_le su
  rw [if_pos h1]
  dsimp only
  rw [hs]
  by_cases h:(okT su sec mk ad∧key.length=32∧nonce.length=12)
  ·obtain ⟨⟨_,h2,h3,h4⟩,c1,c2⟩:=id h
   unfold ok32 at h3 h4
   have hl:=encT_length su sec mk ad
   have hsl:=sealE_len c1 c2 (s:=encT su sec mk ad) (by omega)
   rw [sealT_pos h]
   refine bind_i (v:=false) (if_n (by decide) (if_n (by omega) (if_n (by omega) (if_n (by omega) (if_n (by omega) (if_n (by omega) (if_n (by omega) (by rw [decide_eq_false (by omega)])))))))) ?_
   refine if_n (by decide) (bind_i (Be_eq su 2 (by decide)) (bind_i (Be_eq mk 4 (by decide)) (if_i (by simp only [bytesI_length]; decide) (bind_i (Be_eq ad 4 (by decide)) (if_i (by simp only [List.length_append,bytesI_length]; decide) (if_i (by simp only [List.length_append,bytesI_length]; omega) (bind_i (SealR_eq _ _ _ _) (if_i ?_ (ltt_i fun x hx=>by rw [hx]; rfl)))))))))
   show nonce.length+(sealE key nonce [] (encT su sec mk ad)).1.length≤_
   omega
  ·rw [sealT_neg h]
   refine bind_i (v:=true) (if_n (by decide) ?_) (if_i rfl rfl)
   by_cases c1:key.length=32
   ·refine if_n (by omega) ?_
    by_cases c2:nonce.length=12
    ·refine if_n (by omega) ?_
     by_cases c3:sec.length=hl su
     ·refine if_n (by omega) ?_
      by_cases c4:mk<0
      ·exact if_i c4 rfl
      ·refine if_n c4 ?_
       by_cases c5:4294967295<mk
       ·exact if_i c5 rfl
       ·refine if_n c5 ?_
        by_cases c6:ad<0
        ·exact if_i c6 rfl
        ·refine if_n c6 ?_
         have:4294967295<ad:=by
          by_cases c7:4294967295<ad
          ·exact c7
          ·exact absurd ⟨⟨h1,c3,⟨by omega,by omega⟩,⟨by omega,by omega⟩⟩,c1,c2⟩ h
         rw [decide_eq_true this]
     ·exact if_i (by omega) rfl
    ·exact if_i (by omega) rfl
   ·exact if_i (by omega) rfl
 ·rw [sealT_neg (fun x=>h1 x.1.1),if_neg h1]
  exact bind_i (v:=true) (if_i (by decide) rfl) (if_i rfl rfl)
end Go.Proofs
end

section
namespace Go.Proofs
open Go Go.Kx
theorem told_eq (e:Er):ticket_told e=some (Er.tell e 0):=by
 cases e <;> rfl
theorem sub_cat (s:Str) (a b c:Nat) (h:a≤b) (h2:b≤c):sub s a b++sub s b c=sub s a c:=by
 unfold sub
 have:s.drop b=(s.drop a).drop (b - a):=by rw [List.drop_drop]; congr 1; omega
 rw [this,show c - a=(b - a)+(c - b) from by omega,List.take_add]
theorem openE_len (key nonce aad s:Str):(openE key nonce aad s).1.length≤65536:=by
 unfold openE
 split
 ·rename_i h
  have:=h.2.2.2
  split
  ·exact Nat.zero_le _
  ·split
   ·exact Nat.zero_le _
   ·dsimp only; rw [xo_length,sub_length (by omega)]; omega
 ·exact Nat.zero_le _
theorem reseal {key nonce c p:Str} (hk:key.length=32) (hn:nonce.length=12) (h:openE key nonce [] c=(p,0)):sealE key nonce [] p=(c,0):=by
 unfold openE at h
 by_cases h1:okG key nonce [] c.length 65552
 ·rw [if_pos h1] at h
  by_cases h2:c.length<16
  ·rw [if_pos h2] at h; cases h
  ·rw [if_neg h2] at h
   by_cases h3:tagE key nonce [] (sub c 0 (c.length - 16)) ≠ sub c (c.length - 16) c.length
   ·rw [if_pos h3] at h; cases h
   ·rw [if_neg h3] at h
    have h3:=Classical.not_not.1 h3
    have hc:=h1.2.2.2
    obtain rfl:xo key nonce 2 (sub c 0 (c.length - 16))=p:=congrArg Prod.fst h
    rw [sealE_ok hk hn (by rw [xo_length,sub_length (by omega)]; omega),xo_xo,h3,sub_cat _ _ _ _ (by omega) (by omega),sub_all]
 ·rw [if_neg h1] at h; cases h
theorem encT_num (p:Str) (h:10≤p.length):encT ((numB p 0 2:Nat):Int) (sub p 10 p.length) ((numB p 2 4:Nat):Int) ((numB p 6 4:Nat):Int)=p:=by
 unfold encT
 rw [enc_num p 0 2 (by omega),enc_num p 2 4 (by omega),enc_num p 6 4 (by omega),sub_cat _ _ _ _ (by omega) (by omega),sub_cat _ _ _ _ (by omega) (by omega),sub_cat _ _ _ _ (by omega) (by omega),sub_all]
abbrev noT (e:Int):Int × Str × Int × Int × Int:=(0,[],0,0,e)
def okP (p:Str):Prop:=10≤p.length∧okT ((numB p 0 2:Nat):Int) (sub p 10 p.length) ((numB p 2 4:Nat):Int) ((numB p 6 4:Nat):Int)
instance (p:Str):Decidable (okP p):=by unfold okP; infer_instance
def rdT (p:Str):Int × Str × Int × Int × Int:=(((numB p 0 2:Nat):Int),sub p 10 p.length,((numB p 2 4:Nat):Int),((numB p 6 4:Nat):Int),0)
def openT (key s:Str):Int × Str × Int × Int × Int :=
 if key.length ≠ 32 then noT 2000 else if s.length<12 then noT 2001 else if (openE key (sub s 0 12) [] (sub s 12 s.length)).2=0∧okP (openE key (sub s 0 12) [] (sub s 12 s.length)).1 then rdT (openE key (sub s 0 12) [] (sub s 12 s.length)).1 else noT 2001
theorem U16_eq (s:Str) (a:Nat) (hs:s.length<1152921504606846976) (ha:a<1152921504606846976):wire_U16 s (a:Int)=some (rdN s a 2):=by
 unfold wire_U16; exact bind_i (number_eq s a 2 (by decide) hs ha) rfl
theorem U32_eq (s:Str) (a:Nat) (hs:s.length<1152921504606846976) (ha:a<1152921504606846976):wire_U32 s (a:Int)=some (rdN s a 4):=by
 unfold wire_U32; exact bind_i (number_eq s a 4 (by decide) hs ha) rfl
theorem rdN_ok {s:Str} {a n:Nat} (h:a+n≤s.length):rdN s a n=(((numB s a n:Nat):Int),((a+n:Nat):Int),0):=if_pos h
theorem rdN_no {s:Str} {a n:Nat} (h : ¬ a+n≤s.length):rdN s a n=(0,0,100):=if_neg h
theorem inner_eq (p:Str) (hp:p.length≤65536) : ∃ e:Er,((wire_U16 p 0).bind fun (r_2:Int × Int × Int)=>((wire_U32 p r_2.2.1).bind fun (r_3:Int × Int × Int)=>((wire_U32 p r_3.2.1).bind fun (r_4:Int × Int × Int)=>(if r_4.2.2 ≠ 0 then (ltt (Er.wr 2001 (Er.no r_4.2.2)) fun (x2:Er)=>(some ((0:Int),([]:Str),(0:Int),(0:Int),x2))) else (if 0≤r_4.2.1 then (if (r_4.2.1).toNat≤p.length then ((ticket_plain r_2.1 (sub p ((r_4.2.1).toNat) (p.length)) r_3.1 r_4.1).bind fun (r_5:Str × Er)=>((if (!(Er.isNil r_5.2))=true then (some true) else (some (decide (r_5.1 ≠ p)))).bind fun (j1:Bool)=>(if j1=true then (some (0,([]:Str),0,0,Er.no 2001)) else (some (r_2.1,sub p ((r_4.2.1).toNat) (p.length),r_3.1,r_4.1,Er.nil))))) else none) else none)))))
   = some (if okP p then ((rdT p).1,(rdT p).2.1,(rdT p).2.2.1,(rdT p).2.2.2.1,Er.nil) else (0,[],0,0,e))∧Er.tell e 0=2001:=by
 have bad : ∀ r2 r3 r4:Int × Int × Int,r4.2.2=100 → (if r4.2.2 ≠ 0 then (ltt (Er.wr 2001 (Er.no r4.2.2)) fun (x2:Er)=>(some ((0:Int),([]:Str),(0:Int),(0:Int),x2))) else (if 0≤r4.2.1 then (if (r4.2.1).toNat≤p.length then ((ticket_plain r2.1 (sub p ((r4.2.1).toNat) (p.length)) r3.1 r4.1).bind fun (r_5:Str × Er)=>((if (!(Er.isNil r_5.2))=true then (some true) else (some (decide (r_5.1 ≠ p)))).bind fun (j1:Bool)=>(if j1=true then (some (0,([]:Str),0,0,Er.no 2001)) else (some (r2.1,sub p ((r4.2.1).toNat) (p.length),r3.1,r4.1,Er.nil))))) else none) else none))=some (0,[],0,0,Er.wr 2001 (Er.no 100)):=fun r2 r3 r4 h=>by
  rw [h]; exact if_i (by decide) (ltt_i fun x hx=>by rw [hx])
 by_cases c10:10≤p.length
 ·refine ⟨Er.no 2001,?_,rfl⟩
  refine bind_i (U16_eq p 0 (by omega) (by decide)) ?_
  rw [rdN_ok (show 0+2≤p.length by omega)]
  refine bind_i (U32_eq p (0+2) (by omega) (by decide)) ?_
  rw [rdN_ok (show 0+2+4≤p.length by omega)]
  refine bind_i (U32_eq p (0+2+4) (by omega) (by decide)) ?_
  rw [rdN_ok (show 0+2+4+4≤p.length by omega)]
  refine if_n (by dsimp only; decide) (if_i (by dsimp only; omega) ?_)
  have e:(((0+2+4+4:Nat):Int)).toNat=10:=rfl
  dsimp only
  rw [e]
  refine if_i c10 ?_
  by_cases h:okT ((numB p 0 2:Nat):Int) (sub p 10 p.length) ((numB p 2 4:Nat):Int) ((numB p 6 4:Nat):Int)
  ·have hP:okP p:=⟨c10,h⟩
   rw [if_pos hP]
   exact bind_i (plain_ok h) (bind_i (v:=false) (if_n (by simp [Er.isNil]) (by rw [encT_num p c10]; simp)) rfl)
  ·have hP : ¬ okP p:=fun x=>h x.2
   rw [if_neg hP]
   obtain ⟨e,he,hn⟩:=plain_no h
   exact bind_i he (bind_i (v:=true) (if_i (by rw [hn]; rfl) rfl) rfl)
 ·have hP : ¬ okP p:=fun x=>c10 x.1
  simp only [if_neg hP]
  by_cases c2:2≤p.length
  ·by_cases c6:6≤p.length
   ·refine ⟨Er.wr 2001 (Er.no 100),?_,rfl⟩
    refine bind_i (U16_eq p 0 (by omega) (by decide)) ?_
    rw [rdN_ok (show 0+2≤p.length by omega)]
    refine bind_i (U32_eq p (0+2) (by omega) (by decide)) ?_
    rw [rdN_ok (show 0+2+4≤p.length by omega)]
    refine bind_i (U32_eq p (0+2+4) (by omega) (by decide)) ?_
    rw [rdN_no (show ¬ 0+2+4+4≤p.length by omega)]
    exact bad _ _ _ rfl
   ·by_cases c4:4≤p.length
    ·refine ⟨Er.no 2001,?_,rfl⟩
     refine bind_i (U16_eq p 0 (by omega) (by decide)) ?_
     rw [rdN_ok (show 0+2≤p.length by omega)]
     refine bind_i (U32_eq p (0+2) (by omega) (by decide)) ?_
     rw [rdN_no (show ¬ 0+2+4≤p.length by omega)]
     refine bind_i (U32_eq p 0 (by omega) (by decide)) ?_
     rw [rdN_ok (show 0+4≤p.length by omega)]
     refine if_n (by dsimp only; decide) (if_i (by dsimp only; omega) ?_)
     have e:(((0+4:Nat):Int)).toNat=4:=rfl
     dsimp only
     rw [e]
     refine if_i c4 ?_
     have hn : ¬ okT ((numB p 0 2:Nat):Int) (sub p 4 p.length) 0 ((numB p 0 4:Nat):Int):=by
      intro h
      have h2:=h.2.1
      rw [sub_length (Nat.le_refl _)] at h2
      unfold hl at h2
      split at h2 <;> omega
     obtain ⟨e,he,hi⟩:=plain_no hn
     exact bind_i he (bind_i (v:=true) (if_i (by rw [hi]; rfl) rfl) rfl)
    ·refine ⟨Er.wr 2001 (Er.no 100),?_,rfl⟩
     refine bind_i (U16_eq p 0 (by omega) (by decide)) ?_
     rw [rdN_ok (show 0+2≤p.length by omega)]
     refine bind_i (U32_eq p (0+2) (by omega) (by decide)) ?_
     rw [rdN_no (show ¬ 0+2+4≤p.length by omega)]
     refine bind_i (U32_eq p 0 (by omega) (by decide)) ?_
     rw [rdN_no (show ¬ 0+4≤p.length by omega)]
     exact bad _ _ _ rfl
  ·refine ⟨Er.wr 2001 (Er.no 100),?_,rfl⟩
   refine bind_i (U16_eq p 0 (by omega) (by decide)) ?_
   rw [rdN_no (show ¬ 0+2≤p.length by omega)]
   refine bind_i (U32_eq p 0 (by omega) (by decide)) ?_
   rw [rdN_no (show ¬ 0+4≤p.length by omega)]
   refine bind_i (U32_eq p 0 (by omega) (by decide)) ?_
   rw [rdN_no (show ¬ 0+4≤p.length by omega)]
   exact bad _ _ _ rfl
theorem OpenT_eq (key s:Str):ticket_Open key s=some (openT key s):=by
 unfold ticket_Open openT
 by_cases hk:key.length=32
 ·rw [if_neg (show ¬ key.length ≠ 32 by omega)]
  refine if_n (by omega) ?_
  have main : ∃ e:Er,ticket_open key s=some ((if s.length<12 then noT 0 else if (openE key (sub s 0 12) [] (sub s 12 s.length)).2=0∧okP (openE key (sub s 0 12) [] (sub s 12 s.length)).1 then rdT (openE key (sub s 0 12) [] (sub s 12 s.length)).1 else noT 0).1,(if s.length<12 then noT 0 else if (openE key (sub s 0 12) [] (sub s 12 s.length)).2=0∧okP (openE key (sub s 0 12) [] (sub s 12 s.length)).1 then rdT (openE key (sub s 0 12) [] (sub s 12 s.length)).1 else noT 0).2.1,(if s.length<12 then noT 0 else if (openE key (sub s 0 12) [] (sub s 12 s.length)).2=0∧okP (openE key (sub s 0 12) [] (sub s 12 s.length)).1 then rdT (openE key (sub s 0 12) [] (sub s 12 s.length)).1 else noT 0).2.2.1,(if s.length<12 then noT 0 else if (openE key (sub s 0 12) [] (sub s 12 s.length)).2=0∧okP (openE key (sub s 0 12) [] (sub s 12 s.length)).1 then rdT (openE key (sub s 0 12) [] (sub s 12 s.length)).1 else noT 0).2.2.2.1,e) ∧
    Er.tell e 0=(if s.length<12 then noT 2001 else if (openE key (sub s 0 12) [] (sub s 12 s.length)).2=0∧okP (openE key (sub s 0 12) [] (sub s 12 s.length)).1 then rdT (openE key (sub s 0 12) [] (sub s 12 s.length)).1 else noT 2001).2.2.2.2:=by
   unfold ticket_open
   by_cases c:s.length<12
   ·rw [if_pos c,if_pos c]
    exact ⟨Er.no 2001,if_i (by omega) rfl,rfl⟩
   ·rw [if_neg c,if_neg c]
    obtain ⟨o,ho⟩ : ∃ o,openE key (sub s 0 12) [] (sub s 12 s.length)=o:=⟨_,rfl⟩
    have hlen:=openE_len key (sub s 0 12) [] (sub s 12 s.length)
    rw [ho] at hlen ⊢
    by_cases c2:o.2=0
    ·obtain ⟨e,he,ht⟩:=inner_eq o.1 hlen
     by_cases c3:okP o.1
     ·refine ⟨Er.nil,if_n (by omega) (if_i (by omega) (if_i (by omega) (bind_i ((Open_eq _ _ _ _).trans (congrArg some ho)) (if_n (by rw [c2]; decide) (he.trans ?_))))),?_⟩
      ·rw [if_pos c3,if_pos (show o.2=0∧okP o.1 from ⟨c2,c3⟩)]
      ·rw [if_pos (show o.2=0∧okP o.1 from ⟨c2,c3⟩)]; rfl
     ·refine ⟨e,if_n (by omega) (if_i (by omega) (if_i (by omega) (bind_i ((Open_eq _ _ _ _).trans (congrArg some ho)) (if_n (by rw [c2]; decide) (he.trans ?_))))),?_⟩
      ·rw [if_neg c3,if_neg (show ¬ (o.2=0∧okP o.1) from fun h=>c3 h.2)]
      ·rw [if_neg (show ¬ (o.2=0∧okP o.1) from fun h=>c3 h.2)]; exact ht
    ·refine ⟨Er.wr 2001 (Er.no o.2),if_n (by omega) (if_i (by omega) (if_i (by omega) (bind_i ((Open_eq _ _ _ _).trans (congrArg some ho)) (if_i c2 (ltt_i fun x hx=>?_))))),?_⟩
     ·rw [hx,if_neg (show ¬ (o.2=0∧okP o.1) from fun h=>c2 h.1)]
     ·rw [if_neg (show ¬ (o.2=0∧okP o.1) from fun h=>c2 h.1)]; rfl
  obtain ⟨e,he,ht⟩:=main
  refine bind_i he (bind_i (told_eq e) ?_)
  rw [ht]
  by_cases c:s.length<12
  ·rw [if_pos c,if_pos c]
  ·rw [if_neg c,if_neg c]
   split <;> rfl
 ·rw [if_pos hk]
  exact if_i (by omega) rfl
theorem OpenTR_eq (key s:Str):halberdref19_OpenTicket key s=some (openT key s):=by
 unfold halberdref19_OpenTicket openT
 by_cases hk:key.length=32
 ·rw [if_neg (show ¬ key.length ≠ 32 by omega)]
  refine if_n (by omega) ?_
  by_cases c:s.length<12
  ·rw [if_pos c]; exact if_i (by omega) rfl
  ·rw [if_neg c]
   refine if_n (by omega) (if_i (by omega) (if_i (by omega) (bind_i (OpenR_eq _ _ _ _) ?_)))
   obtain ⟨o,ho⟩ : ∃ o,openE key (sub s 0 12) [] (sub s 12 s.length)=o:=⟨_,rfl⟩
   have hlen:=openE_len key (sub s 0 12) [] (sub s 12 s.length)
   rw [ho] at hlen ⊢
   by_cases c2:o.2=0
   ·by_cases c10:10≤o.1.length
    ·refine bind_i (v:=false) (if_n (by rw [c2]; decide) (by rw [decide_eq_false (by omega)])) (if_n (by decide) ?_)
     have g2:halberdref1_Num o.1 0 2=some (rdN o.1 0 2):=Num_eq o.1 0 2 (by decide) (by omega) (by decide)
     have g4:halberdref1_Num o.1 2 4=some (rdN o.1 2 4):=Num_eq o.1 2 4 (by decide) (by omega) (by decide)
     have g6:halberdref1_Num o.1 6 4=some (rdN o.1 6 4):=Num_eq o.1 6 4 (by decide) (by omega) (by decide)
     rw [rdN_ok (by omega)] at g2 g4 g6
     refine bind_i g2 (bind_i g4 (bind_i g6 (if_i c10 (if_i (by omega) (bind_i (SealTR_eq _ _ _ _ _ _) ?_)))))
     have hn:(sub s 0 12).length=12:=by rw [sub_length (by omega)]
     by_cases h:okT ((numB o.1 0 2:Nat):Int) (sub o.1 10 o.1.length) ((numB o.1 2 4:Nat):Int) ((numB o.1 6 4:Nat):Int)
     ·rw [sealT_pos ⟨h,hk,hn⟩,encT_num o.1 c10,reseal hk hn (p:=o.1) (c:=sub s 12 s.length) (by rw [ho]; exact Prod.ext rfl c2)]
      rw [if_pos (show o.2=0∧okP o.1 from ⟨c2,c10,h⟩)]
      have hcat:sub s 0 12++sub s 12 s.length=s:=by rw [sub_cat _ _ _ _ (by omega) (by omega),sub_all]
      exact bind_i (v:=false) (if_n (fun h=>h rfl) (by rw [hcat]; simp)) rfl
     ·rw [sealT_neg (fun x=>h x.1),if_neg (show ¬ (o.2=0∧okP o.1) from fun x=>h x.2.2)]
      exact bind_i (v:=true) (if_i (by decide) rfl) rfl
    ·rw [if_neg (show ¬ (o.2=0∧okP o.1) from fun x=>c10 x.2.1)]
     exact bind_i (v:=true) (if_n (by rw [c2]; decide) (by rw [decide_eq_true (by omega)])) rfl
   ·rw [if_neg (show ¬ (o.2=0∧okP o.1) from fun x=>c2 x.1)]
    exact bind_i (v:=true) (if_i c2 rfl) rfl
 ·rw [if_pos hk]
  exact if_i (by omega) rfl
end Go.Proofs
end

section
namespace Go.Kx
open Go
variable {P:Program} {t e:TypeId} {x y:Operand}
theorem guard_agg (w:World) {op:BinOp} {xs ys:Array Value} (hg:P.eqGuardType P.depth t=false):(eqGuard op t x y (.agg xs) (.agg ys)).run P w = .ok () w:=by
 cases op <;> simp [eqGuard,Sem.run_bind,program,Sem.run,hg]
end Go.Kx
end

section
namespace Go.Kx
open Go
variable {P:Program} {t e:TypeId} {x y:Operand}
inductive Lk where | i | s | b
inductive Lf where | i (a:Int) | s (a:Str) | b (a:Bool)
def Lf.v:Lf → Value
 | .i a=>vi a
 | .s a=>vs a
 | .b a=>vb a
def Lf.kind:Lf → Lk
 | .i _ => .i
 | .s _ => .s
 | .b _ => .b
def Lf.eq:Lf → Lf → Bool
 | .i p, .i q=>decide (p=q)
 | .s p, .s q=>decide (p=q)
 | .b p, .b q=>p == q
 | _,_=>false
def Lf.all:List Lf → List Lf → Bool
 | x :: r,y :: q=>Lf.eq x y && Lf.all r q
 | _,_=>true
def lkOk:Option TypeDesc → Lk → Bool
 | some (.int .i64), .i=>true
 | some .string, .s=>true
 | some .bool, .b=>true
 | _,_=>false
def fsOk (P:Program):List Field → Nat → List Lk → Bool
 | [],_,[]=>true
 | f :: fs,k,q :: r=>f.name != "_" && (Nat.beq f.offset k && (lkOk (P.underlying f.type) q && fsOk P fs (k+1) r))
 | _,_,_=>false
theorem lk_i {u:Option TypeDesc} (h:lkOk u .i=true):u=some (.int .i64):=by
 unfold lkOk at h; split at h <;> simp_all
theorem lk_s {u:Option TypeDesc} (h:lkOk u .s=true):u=some .string:=by
 unfold lkOk at h; split at h <;> simp_all
theorem lk_b {u:Option TypeDesc} (h:lkOk u .b=true):u=some .bool:=by
 unfold lkOk at h; split at h <;> simp_all
theorem lf_part (w:World) {cs:List Value} {off:Nat} {a:Lf} (ht:lkOk (P.underlying t) a.kind=true) (hv:cs[off]? = some a.v):(part t cs.toArray off).run P w = .ok a.v w:=by
 have hv':cs.toArray[off]? = some a.v:=by simpa using hv
 cases a
 ·simp [part,isAgg,Sem.run_bind,run_underlying (lk_i ht),hv']
 ·simp [part,isAgg,Sem.run_bind,run_underlying (lk_s ht),hv']
 ·simp [part,isAgg,Sem.run_bind,run_underlying (lk_b ht),hv']
theorem bytes_eq (a b:Str):(bytes a == bytes b)=decide (a=b):=by
 show ((bytes a).data == (bytes b).data)=_
 rw [Bool.eq_iff_iff,beq_iff_eq,decide_eq_true_eq]
 constructor
 ·intro h
  have h1:=eqS a b
  have h2:bytes a=bytes b:=by
   cases ha:bytes a; cases hb:bytes b
   rw [ha,hb] at h
   simp only at h
   rw [h]
  rw [h2] at h1
  simpa using h1.symm
 ·rintro rfl; rfl
theorem lf_eq (w:World) (d:Nat) (a b:Lf) (ht:lkOk (P.underlying t) a.kind=true) (hk:b.kind=a.kind):(Op.equalIn (d+1) t a.v b.v).run P w = .ok (Lf.eq a b) w:=by
 cases a
 ·cases b with
  | i b=>simp [Lf.v,Lf.eq,vi,Op.equalIn,Sem.run_bind,run_underlying (lk_i ht)]; rfl
  | s b=>exact absurd hk (by simp [Lf.kind])
  | b b=>exact absurd hk (by simp [Lf.kind])
 ·cases b with
  | s b=>simp [Lf.v,Lf.eq,vs,Op.equalIn,Sem.run_bind,run_underlying (lk_s ht),bytes_eq]
  | i b=>exact absurd hk (by simp [Lf.kind])
  | b b=>exact absurd hk (by simp [Lf.kind])
 ·cases b with
  | b b=>simp [Lf.v,Lf.eq,vb,Op.equalIn,Sem.run_bind,run_underlying (lk_b ht)]
  | s b=>exact absurd hk (by simp [Lf.kind])
  | i b=>exact absurd hk (by simp [Lf.kind])
theorem st_loop (w:World) (d:Nat) (cs ds:List Value) :
  ∀ (fs:List Field) (k:Nat) (xs ys:List Lf),fsOk P fs k (xs.map Lf.kind)=true → ys.map Lf.kind=xs.map Lf.kind → (∀ i v,xs[i]? = some v → cs[k+i]? = some v.v) → (∀ i v,ys[i]? = some v → ds[k+i]? = some v.v) →
  (forIn (m:=Sem) fs (none,PUnit.unit) (fun f (_:Option Bool × PUnit)=>do
   if f.name ≠ "_" then
    if !(← Op.equalIn (d+1) f.type (← part f.type cs.toArray f.offset) (← part f.type ds.toArray f.offset)) then pure (ForInStep.done (some false,PUnit.unit))
    else pure (ForInStep.yield (none,PUnit.unit))
   else pure (ForInStep.yield (none,PUnit.unit)))).run P w = .ok (if Lf.all xs ys then none else some false,PUnit.unit) w
 | [],_,xs,ys,hf,hk,_,_=>by
  cases xs with
  | nil=>simp [Sem.run,Lf.all]
  | cons x r=>simp [fsOk] at hf
 | f :: fs,k,xs,ys,hf,hk,hx,hy=>by
  cases xs with
  | nil=>simp [fsOk] at hf
  | cons a r =>
   cases ys with
   | nil=>simp at hk
   | cons b q =>
    simp only [List.map_cons,fsOk,Bool.and_eq_true,bne_iff_ne] at hf
    obtain ⟨hn,ho,hl,hr⟩:=hf
    simp only [List.map_cons,List.cons.injEq] at hk
    have ho:=Nat.eq_of_beq_eq_true ho
    have h1:=lf_part (P:=P) w hl (off:=f.offset) (cs:=cs) (by rw [ho]; exact hx 0 a rfl)
    have h2:=lf_part (P:=P) w (by rw [hk.1]; exact hl) (off:=f.offset) (cs:=ds) (a:=b) (t:=f.type) (by rw [ho]; exact hy 0 b rfl)
    have h3:=lf_eq (P:=P) w d a b hl hk.1
    have ih:=st_loop w d cs ds fs (k+1) r q hr hk.2 (fun i v h=>by rw [Nat.add_assoc,Nat.add_comm 1 i]; exact hx (i+1) v h) (fun i v h=>by rw [Nat.add_assoc,Nat.add_comm 1 i]; exact hy (i+1) v h)
    rw [List.forIn_cons]
    simp only [hn,ne_eq,not_false_eq_true,if_true,Sem.run_bind,h1,h2,h3,Result.andThen_ok]
    cases hb:Lf.eq a b
    ·have e0:Lf.all (a :: r) (b :: q)=false:=by simp [Lf.all,hb]
     rw [e0]; rfl
    ·have e0:Lf.all (a :: r) (b :: q)=Lf.all r q:=by simp [Lf.all,hb]
     rw [e0]; exact ih
theorem eqSt0 (w:World) (d:Nat) {fs:List Field} (ht:P.underlying t=some (.struct fs.toArray)) (hs:P.stoodInHeld t=false) (xs ys:List Lf) (hf:fsOk P fs 0 (xs.map Lf.kind)=true) (hk:ys.map Lf.kind=xs.map Lf.kind) :
  (Op.equalIn (d+2) t (.agg (xs.map Lf.v).toArray) (.agg (ys.map Lf.v).toArray)).run P w = .ok (Lf.all xs ys) w:=by
 have hl:=st_loop (P:=P) w d (xs.map Lf.v) (ys.map Lf.v) fs 0 xs ys hf hk (fun i v h=>by simp [h]) (fun i v h=>by simp [h])
 unfold Op.equalIn
 simp only [Sem.run_bind,run_underlying ht,Result.andThen_ok,run_program,hs,Bool.false_eq_true,if_false,List.forIn_toArray]
 refine (congrArg (fun r=>Result.andThen r _) hl).trans ?_
 simp only [Result.andThen_ok]
 cases Lf.all xs ys <;> simp [Sem.run]
theorem eqlSt (w:World) {fs:List Field} (ht:P.underlying t=some (.struct fs.toArray)) (hs:P.stoodInHeld t=false) (hg:P.eqGuardType P.depth t=false) (xs ys:List Lf) (hf:fsOk P fs 0 (xs.map Lf.kind)=true) (hk:ys.map Lf.kind=xs.map Lf.kind)
  {vx vy:Value} (hx:vx = .agg (xs.map Lf.v).toArray) (hy:vy = .agg (ys.map Lf.v).toArray):(binG .eql t x y vx vy).run P w = .ok (vb (Lf.all xs ys)) w:=hx ▸ hy ▸ binG_of w (guard_agg w hg) (by
 have h:=eqSt0 w 9998 ht hs xs ys hf hk
 show ((Op.equalIn (9998+2) t _ _) >>= fun r=>pure (Value.bool r)).run P w=_
 rw [Sem.run_bind,h]; simp [vb])
end Go.Kx
end

section
namespace Go.Proofs
open Go Go.Kx
open TrydI Tryd
def halberdlaw20_filled.b0 (s_:Str) (k:Int) (s0:Int × List (BitVec 8)):Option ((Int × List (BitVec 8)) ⊕ (List (BitVec 8))) :=
 (if s0.1<k then (some (decide (s0.1<((s_).length:Int)))) else (some false)).bind fun (j1:Bool)=>(if j1=true then (if 0≤s0.1∧s0.1<((s_).length:Int) then (if 0≤s0.1∧s0.1<((k).toNat:Int) then (if (s0.1).toNat<(s0.2).length then (ltt (s0.2.set ((s0.1).toNat) (sg s_ s0.1)) fun (m_1:List (BitVec 8))=>(ltt (w64 (s0.1+1)) fun (i1:Int)=>(some (.inl (i1,m_1))))) else none) else none) else none) else (some (.inr s0.2)))
def halberdlaw20_filled (s_:Str) (k:Int):Option (Str) :=
 if 0≤k∧k≤17592186044416 then ((loop (halberdlaw20_filled.b0 s_ k) BIG (0,List.replicate ((k).toNat) 0#8)).bind fun (t_1:List (BitVec 8))=>(if (t_1).length=(k).toNat then (some t_1) else none)) else none
set_option maxHeartbeats 4000000 in
set_option maxRecDepth 20000 in
theorem F14_calls (s_:Str) (k:Int) (r:Str) (H:halberdlaw20_filled s_ k=some r) :
  Does Tryd.prog 14 [vs s_,vi k] [] [] (Γ:=Unit) (fun g=>vs r) (fun g=>[]):=by
 intro w hmem hro hd
 refine calls_of (N:=28) (m0:=[(0,vs s_),(1,vi k)]) func14 rfl ntmps14 (argM_ok [vs s_,vi k]) rfl hmem hro hd ?_
 unfold halberdlaw20_filled at H
 refine TC_seq (TC_region (TVa ?_))
 refine TL_nil (TX_next (TC_seq (TC_region (TVm ?_))))
 obtain ⟨h1,H⟩:=if_elim H
 refine TLe (E_mk1 rfl rfl underlying40 inf5 (z:=v8 0#8) rfl rfl rfl (B:=1) rfl h1.1 (Int.le_refl _) (mk_b 1 rfl h1) (mk_c h1) (n':=(k).toNat) (c':=(k).toNat) rfl rfl (cs:=e8 (List.replicate ((k).toNat) 0#8)) (rep_map (f:=v8))) (fun b1=>?_)
 refine TVa ?_
 refine TL_nil (TX_next (TC_seq (TC_seq (TC_region (TVa ?_)))))
 refine TL_nil (TX_next (TC_block ?_))
 obtain ⟨t_1,Hl,H⟩:=bind_elim H
 refine TC.sub (m':=[(0,_),(1,_),(5,_),(6,_)]) ⟨rfl,rfl,rfl,rfl,trivial⟩ ?_
 refine TC.pull (is:=[0]) (L':=[_]) rfl ?_
 refine TC_loopL (id:=0) (body:=(halberdlaw20_filled.b0 s_ k)) (σ:=Int × List (BitVec 8)) (Γ:=Unit) (Γx:=Unit) (fun s0 g0_=>[(0,vs s_),(1,vi k),(5,sl (some (b1,0)) ((k).toNat) ((k).toNat)),(6,vi s0.1)]) (fun s0 g0_=>[⟨some (b1,0),e8 s0.2⟩]) (fun t g=>[(5,sl (some (b1,0)) ((k).toNat) ((k).toNat))]) (fun t g=>[⟨some (b1,0),e8 t⟩]) ?_ BIG (0,List.replicate ((k).toNat) 0#8) () t_1 Hl ?_
 ·intro s0 g0_ r1 H K hK hE
  unfold halberdlaw20_filled.b0 at H
  refine TC_seq (TC_seq (TC_region (TVm ?_)))
  refine TVm ?_
  refine TLv (V_bin rfl rfl (fun w=>lssI w s0.1 k)) ?_
  refine TVm ?_
  obtain ⟨j1,Hj,H⟩:=bind_elim H
  refine TL_join (Γ:=Unit) (fun gj1=>[(0,vs s_),(1,vi k),(5,sl (some (b1,0)) ((k).toNat) ((k).toNat)),(6,vi s0.1),(17,vb j1)]) (fun gj1=>[⟨some (b1,0),e8 s0.2⟩]) ?_ ?_
  ·intro gj1
   refine TX_next (TCb H (fun hc H=>?_) (fun hc H=>?_))
   ·refine TC_skip (TX_next (TC_seq (TC_block (TC_region (TVm ?_)))))
    refine TVm ?_
    refine TVm ?_
    refine TVm ?_
    obtain ⟨h2,H⟩:=if_elim H
    refine TLv (V_idxStr rfl rfl (i:=s0.1) underlying9 h2.1 h2.2) ?_
    obtain ⟨h3,H⟩:=if_elim H
    obtain ⟨h4,H⟩:=if_elim H
    refine TLv (V_idxSl (i:=s0.1) rfl rfl underlying40 inf5 rfl (fun _ h=>by cases h) h3.1 h3.2 (k:=(s0.1).toNat) (km1 _)) ?_
    refine TLn (E_store (j:=0) rfl rfl inf5 rfl rfl rfl (by simpa using h4) (cs':=e8 (s0.2.set ((s0.1).toNat) (sg s_ s0.1))) (set_map (f:=v8) (l:=s0.2) (k:=((s0.1).toNat)) (x:=(sg s_ s0.1)))) (fun _=>?_)
    obtain ⟨m_1,hm_1,H⟩:=ltt_elim H
    refine TL_reE (j:=0) (A:=some (b1,0)) (cs:=e8 (s0.2.set ((s0.1).toNat) (sg s_ s0.1))) (cs':=e8 m_1) rfl (congrArg (e8) hm_1) ?_
    refine TL_nil (TX_block_normal (TX_next (TC_region (TVm ?_))))
    refine TLv (V_bin rfl rfl (fun w=>addI w s0.1 1)) ?_
    refine TVa ?_
    obtain ⟨i1,hi1,H⟩:=ltt_elim H
    refine TLr 6 (congrArg vi hi1) ?_
    refine TL_nil ?_
    obtain rfl:=sj H
    exact TXk [0] (hK (i1,m_1) rfl ())
   ·refine TC_exit (TX_then_exit (TX_then_exit ?_))
    obtain rfl:=sj H
    exact TXj [0] (hE s0.2 rfl ())
  ·intro hJ
   replace H:=Hj
   refine TFd (d:=12) H (fun hc H=>?_) (fun hc H=>?_)
   ·refine TLw (V_move rfl) ?_
    refine TLw (V_move rfl) ?_
    refine TLw (V_len_str rfl underlying9) ?_
    refine TLw (V_bin rfl rfl (fun w=>lssI w s0.1 ((s_).length:Int))) ?_
    refine TVt ?_
    refine TL_nil ?_
    obtain rfl:=sj H
    exact TXj [0] (hJ ())
   ·refine TLs ?_
    refine TLs ?_
    refine TLs ?_
    refine TLs ?_
    refine TVf ?_
    refine TL_nil ?_
    obtain rfl:=sj H
    exact TXj [0] (hJ ())
 ·intro g
  refine TX_block_exit (TX_next (TC_seq (TC_region (TVm ?_))))
  obtain ⟨h5,H⟩:=if_elim H
  refine TLv (V_b2s rfl underlying40 underlying5 underlying9 (.o 0) h5) ?_
  refine TVa ?_
  refine TL_nil (TX_next (TC_ret ?_))
  obtain rfl:=sj H
  exact TX1
end Go.Proofs
end

section
namespace Go.Proofs
open Go Go.Kx
open TrydI Tryd
def halberdlaw0_Num (e:Int):Option (Int) :=
 some e
set_option maxHeartbeats 4000000 in
set_option maxRecDepth 20000 in
theorem F11_calls (e:Int) (r:Int) (H:halberdlaw0_Num e=some r) :
  Does Tryd.prog 11 [vi e] [] [] (Γ:=Unit) (fun g=>vi r) (fun g=>[]):=by
 intro w hmem hro hd
 refine calls_of (N:=4) (m0:=[(0,vi e)]) func11 rfl ntmps11 (argM_ok [vi e]) rfl hmem hro hd ?_
 unfold halberdlaw0_Num at H
 refine TC_seq (TC_region (TVa ?_))
 refine TL_nil (TX_next (TC_seq (TC_region (TVm ?_))))
 refine TVa ?_
 refine TL_nil (TX_next (TC_ret ?_))
 obtain rfl:=sj H
 exact TX1
end Go.Proofs
end

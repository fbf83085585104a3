/-
  Part 12 of the proof of what several laws share.
-/
import Derived.Test.YtkgeoekcnlgfnaaGreatDoorKh11
set_option maxHeartbeats 4000000
set_option maxRecDepth 20000
set_option linter.unusedVariables false
set_option linter.unusedSimpArgs false
section
namespace Go.Proofs
open Go Go.Kx
open TryzI Tryz
def RU (w_:List (Vx 8 4)) (ZA Ur c:Str):Option (Str) :=
 if (List.replicate 16 0#8).length=16 then ((ZF w_ (List.replicate 16 0#8)).bind fun Zu=>((Wt (ZJ (8 * ((Ur).length:Int))) 8).bind fun YJ=>((Wt (ZJ (8 * ((c).length:Int))) 8).bind fun X7=>(if (YJ).length+(X7).length≤4611686018427387904 then ((TD Ur).bind fun Xu=>((TD c).bind fun UC=>(if (Xu).length+(UC).length≤4611686018427387904 then (if (Xu++UC).length+(YJ++X7).length≤4611686018427387904 then ((VQ Zu ((Xu++UC)++(YJ++X7))).bind fun MV=>((Yt w_ ZA 1 MV).bind fun JM=>(some JM))) else none) else none))) else none)))) else none
theorem BD {Aw_:Y6} {cw_:Nat} {w_:List (Vx 8 4)} {ZA:Str} {Ur:Str} {c:Str} (mo:(w_).length≤cw_) {r:Str} (H:RU w_ ZA Ur c=some r) :
  Does Tryz.prog 82 [sl Aw_ ((w_).length) cw_,vs ZA,vs Ur,vs c] [] [⟨Aw_,eF (fun V:Vx 8 4=>e8 V.toList) w_⟩] (Γ:=Unit) (fun g=>vs r) (fun g=>[]):=by
 intro w hmem hro hd
 refine Zn func82 rfl ntmps82 rfl hmem hro hd ?_
 unfold RU at H
 refine Z_ (Y2 ?_)
 refine Z6 (Z_ (YP ?_))
 refine YE (OA rfl rfl underlying86 Yn (z:=v8 0#8) rfl rfl rfl (B:=1) rfl (by decide) (Int.le_refl _) (by decide) (by decide) (n':=16) (c':=16) rfl rfl (cs:=e8 (List.replicate 16 0#8)) (Ti (f:=v8))) (fun b1=>?_)
 have ⟨h1,H⟩:=Z4 H
 refine ZV (QY rfl underlying86 underlying5 underlying9 (.o 0) h1) ?_
 have ⟨Zu,Yk,H⟩:=Z9 H
 refine YE (Y4 (B_ mo Yk :) call99 ⟨.r 0,trivial⟩) (fun Re=>?_)
 refine Y2 ?_
 refine Z6 (Z_ (YP ?_))
 refine ZV (Zf rfl underlying9) ?_
 refine ZV (ZT Ma) ?_
 have ⟨YJ,X6,H⟩:=Z9 H
 refine YE (Y4 (ML X6 :) call60 .z) (fun UD=>?_)
 refine YP ?_
 refine ZV (Zf rfl underlying9) ?_
 refine ZV (ZT Ma) ?_
 have ⟨X7,Vt,H⟩:=Z9 H
 refine YE (Y4 (ML Vt :) call60 .z) (fun Pm=>?_)
 have ⟨h2,H⟩:=Z4 H
 refine ZV (Zg rfl rfl (fun w=>G9 w YJ X7 h2)) ?_
 refine Y2 ?_
 refine Z6 (Z_ (Zj 4 rfl ?_))
 have ⟨Xu,UH,H⟩:=Z9 H
 refine YE (Y4 (Dk UH :) call101 .z) (fun JV=>?_)
 refine YP ?_
 have ⟨UC,Qi,H⟩:=Z9 H
 refine YE (Y4 (Dk Qi :) call101 .z) (fun zM=>?_)
 have ⟨h3,H⟩:=Z4 H
 refine ZV (Zg rfl rfl (fun w=>G9 w Xu UC h3)) ?_
 refine YP ?_
 have ⟨h4,H⟩:=Z4 H
 refine ZV (Zg rfl rfl (fun w=>G9 w (Xu++UC) (YJ++X7) h4)) ?_
 have ⟨MV,KG,H⟩:=Z9 H
 refine YE (Y4 (xA KG :) call100 .z) (fun jV=>?_)
 have ⟨JM,L_,H⟩:=Z9 H
 refine YE (Y4 (F9 mo L_ :) call81 ⟨.r 0,trivial⟩) (fun rE=>?_)
 refine Y2 ?_
 refine Z6 (N7 [8] rfl rfl ?_)
 refine Y7 ?_
 obtain rfl:=sj H
 exact Wj
def ld (s:Str) (a:Nat):E2:=(Ae s a 8,Ae s (a+8) 8)
theorem uf (b:Str) (h:16≤b.length) (h2:b.length<1152921504606846976):PV b=some (ld b 0):=by
 unfold PV
 refine Z5 (v:=ld b 0) (Vw (fun k=>((k:Int),Ae b 0 k,Ae b 8 k)) 8 _ (by omega) rfl (fun k hk=>?_) ?_) rfl
 ·have e1:ZJ ((k:Int)+1)=((k+1:Nat):Int):=Vj (b:=1) (by omega)
  have e2:ZJ (8+(k:Int))=((8+k:Nat):Int):=Vj (a:=8) (by omega)
  unfold PV.b0
  simp only [e1,e2,Int.toNat_natCast,jv]
  clear e1 e2
  refine ZM (by omega) (ZM (by omega) (ZM (by omega) ?_))
  simp only [Ae,Nat.zero_add]
 ·exact Zi (by show ¬ (((8:Nat):Int)<8); omega) rfl
theorem Bz (b:Str) (h:16≤b.length) (h2:b.length<1152921504606846976):V8 b=some (ld b 0):=by
 unfold V8
 refine Z5 (v:=ld b 0) (Vw (fun k=>(Ae b 0 k,Ae b 8 k,(k:Int))) 8 _ (by omega) rfl (fun k hk=>?_) ?_) rfl
 ·have e1:ZJ ((k:Int)+1)=((k+1:Nat):Int):=Vj (b:=1) (by omega)
  have e2:ZJ (8+(k:Int))=((8+k:Nat):Int):=Vj (a:=8) (by omega)
  unfold V8.b0
  simp only [e1,e2,Int.toNat_natCast,J6]
  clear e1 e2
  refine ZM (by omega) (ZM (by omega) (Ze fun a ha=>ZM (by omega) (Ze fun b1 hb1=>Ze fun i hi=>?_)))
  rw [ha,hb1,hi]
  simp only [Ae,Nat.zero_add]
 ·exact Zi (by show ¬ (((8:Nat):Int)<8); omega) rfl
def L8 (e:E2):Str:=wU e.1 8++wU e.2 8
theorem Sz (e:E2):(L8 e).length=16:=by simp [L8,zx]
theorem Gi (e:E2) (i:Nat) (hi:i<16):(L8 e).getD i 0#8=if i<8 then (e.1 >>> (8 * (7 - i))).setWidth 8 else (e.2 >>> (8 * (7 - (i - 8)))).setWidth 8:=by
 unfold L8 wU
 rw [List.getD_eq_getElem?_getD,List.getElem?_append]
 by_cases c:i<8
 ·simp [c]
 ·simp [c,show i - 8<8 by omega]
theorem Bo (e:E2) : ∃ V:Vx 8 16,V.toList=L8 e∧VP e.1 e.2=some V:=by
 refine ⟨Vector.ofFn fun i=>(L8 e).getD i.val 0#8,?_,?_⟩
 ·refine List.ext_getElem (by simp [Sz]) fun i h1 h2=>?_
  simp [List.getD_eq_getElem?_getD,h2]
 ·unfold VP
  have key : ∀ k,k≤8 → ∃ V:Vx 8 16,(∀ i,i<16 → vg V i=if (i<k ∨ (8≤i∧i<8+k)) then (L8 e).getD i 0#8 else 0#8)∧True:=fun k hk =>
   ⟨Vector.ofFn fun i=>if (i.val<k ∨ (8≤i.val∧i.val<8+k)) then (L8 e).getD i.val 0#8 else 0#8,fun i hi=>by rw [Tw hi],trivial⟩
  refine Z5 (Vw (fun k=>((k:Int),(Vector.ofFn fun i=>if (i.val<k ∨ (8≤i.val∧i.val<8+k)) then (L8 e).getD i.val 0#8 else 0#8:Vx 8 16))) 8 _ (by omega) ?_ (fun k hk=>?_) ?_) rfl
  ·refine Prod.ext rfl (RA fun i hi=>?_)
   rw [MC hi,Tw hi,if_neg (by omega)]
   simp
  ·have e1:ZJ ((k:Int)+1)=((k+1:Nat):Int):=Vj (b:=1) (by omega)
   have e2:ZJ (8+(k:Int))=((8+k:Nat):Int):=Vj (a:=8) (by omega)
   have e3:ZJ (8 * (k:Int))=((8 * k:Nat):Int):=GI (a:=8) (by omega)
   have e4:ZJ (56 - ((8 * k:Nat):Int))=((56 - 8 * k:Nat):Int):=Bd (a:=56) (by omega) (by omega)
   unfold VP.b0
   simp only [e1,e2,e3,e4,Int.toNat_natCast]
   clear e1 e2 e3 e4
   refine ZM (by omega) (ZM (by omega) (ZM (by omega) (ZM (by omega) (Ze fun m hm=>ZM (by omega) (Ze fun m2 qz=>?_)))))
   have:m2=(Vector.ofFn fun i=>if (i.val<k+1 ∨ (8≤i.val∧i.val<8+(k+1))) then (L8 e).getD i.val 0#8 else 0#8:Vx 8 16):=by
    rw [qz,hm]
    refine RA fun i hi=>?_
    rw [Qr (by omega) hi,Qr (by omega) hi,Tw hi,Tw hi]
    dsimp only
    by_cases c1:8+k=i
    ·rw [if_pos c1,if_pos (by omega),Gi e i hi,if_neg (by omega),show 8 * (7 - (i - 8))=56 - 8 * k by omega]
    ·rw [if_neg c1]
     by_cases c2:k=i
     ·rw [if_pos c2,if_pos (by omega),Gi e i hi,if_pos (by omega),show 8 * (7 - i)=56 - 8 * k by omega]
     ·rw [if_neg c2]
      by_cases c3:(i<k ∨ (8≤i∧i<8+k))
      ·rw [if_pos c3,if_pos (by omega)]
      ·rw [if_neg c3,if_neg (by omega)]
   rw [this]
  ·refine Zi (by show ¬ (((8:Nat):Int)<8); omega) (congrArg some (congrArg Sum.inr ?_))
   refine RA fun i hi=>?_
   rw [Tw hi,Tw hi,if_pos (by omega)]
theorem mQ (e:E2):Vy e.1 e.2=some (L8 e):=by
 unfold Vy
 have hl : ∀ k,((List.range 16).map fun i=>if (i+k<8 ∨ (8≤i∧i+k<16)) then 0#8 else (L8 e).getD i 0#8).length=16:=fun k=>by simp
 refine Z5 (v:=L8 e) (Vw (fun k=>(e.1 >>> (8 * k),e.2 >>> (8 * k),(7:Int) - k,(List.range 16).map fun i=>if (i+k<8 ∨ (8≤i∧i+k<16)) then 0#8 else (L8 e).getD i 0#8)) 8 _ (by omega) ?_ (fun k hk=>?_) ?_) (ZM (Sz e) rfl)
 ·refine Prod.ext (by simp) (Prod.ext (by simp) (Prod.ext rfl ?_))
  rfl
 ·have e1:ZJ (7 - (k:Int) - 1)=7 - ((k+1:Nat):Int):=by rw [Yr (by omega) (by omega)]; omega
  have e2:ZJ (8+(7 - (k:Int)))=((15 - k:Nat):Int):=by rw [Yr (by omega) (by omega)]; omega
  have e3:(7 - (k:Int)).toNat=7 - k:=by omega
  unfold Vy.b0
  simp only [e1,e2,e3,Int.toNat_natCast]
  clear e1 e2 e3
  refine ZM (by omega) (ZM (by omega) (ZM (by rw [hl]; omega) (Ze fun m hm=>ZM (by omega) (ZM (by rw [hm,List.length_set,hl]; omega) (Ze fun m2 qz=>Ze fun j hj=>?_)))))
  have aar : ∀ x:BitVec 64,(x &&& 255#64).setWidth 8=x.setWidth 8:=fun x=>by
   apply BitVec.eq_of_toNat_eq
   simp only [BitVec.toNat_setWidth,BitVec.toNat_and,BitVec.toNat_ofNat]
   have:x.toNat &&& 255=x.toNat % 2 ^ 8:=Nat.and_two_pow_sub_one_eq_mod _ 8
   rw [show 255 % 2 ^ 64=255 from rfl,this,Nat.mod_mod]
  have:m2=(List.range 16).map fun i=>if (i+(k+1)<8 ∨ (8≤i∧i+(k+1)<16)) then 0#8 else (L8 e).getD i 0#8:=by
   rw [qz,hm,aar,aar]
   refine List.ext_getElem (by simp) fun i h1 h2=>?_
   simp only [List.length_map,List.length_range] at h2
   simp only [List.getElem_set,List.getElem_map,List.getElem_range]
   by_cases c1:15 - k=i
   ·rw [if_pos c1,if_neg (by omega),Gi e i h2,if_neg (by omega),show 8 * (7 - (i - 8))=8 * k by omega]
   ·rw [if_neg c1]
    by_cases c2:7 - k=i
    ·rw [if_pos c2,if_neg (by omega),Gi e i h2,if_pos (by omega),show 8 * (7 - i)=8 * k by omega]
    ·rw [if_neg c2]
     by_cases c3:(i+k<8 ∨ (8≤i∧i+k<16))
     ·rw [if_pos c3,if_pos (by omega)]
     ·rw [if_neg c3,if_neg (by omega)]
  rw [hj,this, ← BitVec.shiftRight_add, ← BitVec.shiftRight_add,show 8 * k+8=8 * (k+1) by omega]
 ·refine Zi (by show ¬ (0:Int)≤7 - ((8:Nat):Int); omega) (congrArg some (congrArg Sum.inr ?_))
  refine List.ext_getElem (by simp [Sz]) fun i h1 h2=>?_
  rw [Sz] at h2
  simp only [List.getElem_map,List.getElem_range]
  rw [if_neg (by omega),List.getD_eq_getElem?_getD,List.getElem?_eq_getElem (by rw [Sz]; omega)]
  rfl
theorem yE (x:BitVec 64):(x &&& 15#64).toNat<16:=by
 rw [BitVec.toNat_and]
 exact Nat.lt_of_le_of_lt Nat.and_le_right (by decide)
theorem BX (x:BitVec 64) (s t:Nat) (ht:t<4):((x >>> s) &&& 15#64).toNat.testBit t=x.getLsbD (s+t):=by
 rw [BitVec.toNat_and,Nat.testBit_and,BitVec.testBit_toNat,BitVec.getLsbD_ushiftRight]
 have:(15#64).toNat.testBit t=true:=by
  rcases t with _ | _ | _ | _ | t <;> first | decide | omega
 rw [this,Bool.and_true]
theorem vF (h y:E2) (b:Str) (hb:16≤b.length) (gV:b.length<1152921504606846976):TS (GL h 4) FD y.1 y.2 b=some (prod (xr (ld b 0) y) h):=by
 unfold TS
 refine Z5 (uf b hb gV) ?_
 generalize hx:xr (ld b 0) y=x
 have TK:(ld b 0).1 ^^^ y.1=x.1:=by rw [← hx]; rfl
 have KO:(ld b 0).2 ^^^ y.2=x.2:=by rw [← hx]; rfl
 refine Z5 (v:=prod x h) (Vw (fun i=>((i:Int),(SS x h (128 - 4 * i) (4 * i)).1,(SS x h (128 - 4 * i) (4 * i)).2)) 32 _ (by omega) rfl (fun i hi=>?_) ?_) rfl
 ·have e1:ZJ ((i:Int)+1)=((i+1:Nat):Int):=Vj (b:=1) (by omega)
  have e2:(i:Int).tmod 16=((i % 16:Nat):Int):=zV i 16
  have e3:ZJ (4 * ((i % 16:Nat):Int))=((4 * (i % 16):Nat):Int):=GI (a:=4) (by omega)
  unfold TS.b0
  simp only [e1,e2,e3,Int.toNat_natCast,TK,KO]
  clear e1 e2 e3
  have hd : ∃ d:BitVec 64,d=(if i<16 then x.2 >>> (4 * (i % 16)) else x.1 >>> (4 * (i % 16))) &&& 15#64:=⟨_,rfl⟩
  obtain ⟨d,hd⟩:=hd
  have hdl:d.toNat<16:=by rw [hd]; exact yE _
  have hbit : ∀ t,t<4 → d.toNat.testBit (3 - t)=JO x (128 - 4 * (i+1)+t):=by
   intro t ht
   unfold JO
   by_cases c:i<16
   ·rw [if_pos c] at hd
    rw [hd,BX _ _ _ (by omega),if_neg (by omega),show 4 * (i % 16)+(3 - t)=127 - (128 - 4 * (i+1)+t) by omega]
   ·rw [if_neg c] at hd
    rw [hd,BX _ _ _ (by omega),if_pos (by omega),show 4 * (i % 16)+(3 - t)=63 - (128 - 4 * (i+1)+t) by omega]
  refine ZM (by omega) (ZM (by omega) (Ze fun d1 hd1=>Z5 (v:=d) ?_ ?_))
  ·by_cases c:i<16
   ·rw [if_pos c] at hd
    refine Zi (by omega) ?_
    rw [hd1,hd]
   ·rw [if_neg c] at hd
    refine ZM (by omega) (ZM (by omega) (Ze fun d2 hd2=>?_))
    rw [hd2,hd]
  ·have hz:=yE (SS x h (128 - 4 * i) (4 * i)).2
   refine ZM (by omega) (ZM (by omega) (ZM (by omega) ?_))
   have hm:128 - 4 * (i+1)+4=128 - 4 * i:=by omega
   have hS:=SS4 x h (128 - 4 * (i+1)) (4 * i)
   rw [hm,dE] at hS
   have ht:vg (GL h 4) d.toNat=xr (xr (xr (xr z2 (zZ (JO x (128 - 4 * (i+1))) (hp 0 h))) (zZ (JO x (128 - 4 * (i+1)+1)) (hp 1 h))) (zZ (JO x (128 - 4 * (i+1)+2)) (hp 2 h))) (zZ (JO x (128 - 4 * (i+1)+3)) (hp 3 h)):=by
    rw [GL,Tw hdl]
    simp only [AB]
    rw [hbit 0 (by decide),hbit 1 (by decide),hbit 2 (by decide),hbit 3 (by decide),Nat.add_zero]
   rw [← ht,sZ] at hS
   rw [show 4 * (i+1)=4 * i+4 by omega] at hS ⊢
   rw [hS]
   rfl
 ·exact Zi (by show ¬ (((32:Nat):Int)<32); omega) rfl
def gh (h:E2) (s:Str) (j:Nat) (y:E2):E2:=prod (xr (ld s (16 * j)) y) h
def tY (h:E2) (s:Str) (y:E2):E2:=iter (gh h s) (s.length / 16) y
theorem Em (s:Str) (a b:Nat) (h:16≤b - a):ld (sub s a b) 0=ld s a:=by
 unfold ld
 rw [zT s a b 0 8 (by omega),zT s a b (0+8) 8 (by omega)]
 rfl
theorem Bh (s:Str) (hs:s.length<1152921504606846976):TD s=some (s++List.replicate ((16 - s.length % 16) % 16) 0#8):=by
 have e1:(s.length:Int).tmod 16=((s.length % 16:Nat):Int):=zV _ 16
 have e2:ZJ (16 - ((s.length % 16:Nat):Int))=((16 - s.length % 16:Nat):Int):=Bd (a:=16) (by omega) (by omega)
 have e3:((16 - s.length % 16:Nat):Int).tmod 16=(((16 - s.length % 16) % 16:Nat):Int):=zV _ 16
 unfold TD
 simp only [e1,e2,e3,Int.toNat_natCast]
 clear e1 e2 e3
 refine ZM (by omega) (ZM (by simp) (ZM (by simp; omega) (Ze fun x hx=>by rw [hx])))
def Fa (s:Str):Str:=s++List.replicate ((16 - s.length % 16) % 16) 0#8
theorem PW (s:Str):(Fa s).length=16 * ((s.length+15) / 16):=by
 unfold Fa; simp; omega
theorem xW (s t:Str) (a:Nat) (h:a+16≤s.length):ld (s++t) a=ld s a:=by
 have hsub:sub (s++t) a (a+16)=sub s a (a+16):=o8 s t a (a+16) h
 rw [← Em (s++t) a (a+16) (by omega),hsub,Em s a (a+16) (by omega)]
theorem kv (s t:Str) (a:Nat):ld (s++t) (s.length+a)=ld t a:=by
 have : ∀ n a,Ae (s++t) (s.length+a) n=Ae t a n:=by
  intro n a
  induction n with
  | zero=>rfl
  | succ n ih =>
   simp only [Ae,ih]
   congr 2
   rw [List.getD_eq_getElem?_getD,List.getD_eq_getElem?_getD,List.getElem?_append_right (by omega)]
   congr 2
   omega
 unfold ld
 rw [this,Nat.add_assoc,this]
theorem uw (h:E2) (s t:Str) (y:E2) (hs:s.length % 16=0):tY h (s++t) y=tY h t (tY h s y):=by
 unfold tY
 have hl:(s++t).length / 16=s.length / 16+t.length / 16:=by rw [List.length_append]; omega
 rw [hl,yD]
 have h1:iter (gh h (s++t)) (s.length / 16) y=iter (gh h s) (s.length / 16) y:=J4 fun k hk x=>by
  unfold gh
  rw [xW s t _ (by omega)]
 rw [h1]
 refine J4 fun k hk x=>?_
 unfold gh
 rw [show 16 * (s.length / 16+k)=s.length+16 * k by omega,kv]
theorem wX (b:Str) (n j:Nat):(b++List.replicate n 0#8).getD j 0#8=b.getD j 0#8:=by
 rw [List.getD_eq_getElem?_getD,List.getD_eq_getElem?_getD,List.getElem?_append]
 by_cases c:j<b.length
 ·rw [if_pos c]
 ·rw [if_neg c,List.getElem?_eq_none (l:=b) (by omega),List.getElem?_replicate]
  split <;> rfl
theorem ay (h y:E2) (b:Str) (hb:b.length<1152921504606846976):loop (Uu.b0 (GL h 4) FD b) BIG (0,y.1,y.2)=some (16 * (b.length / 16),(iter (gh h b) (b.length / 16) y).1,(iter (gh h b) (b.length / 16) y).2):=by
 refine Vw (fun k=>(16 * k,(iter (gh h b) k y).1,(iter (gh h b) k y).2)) (b.length / 16) _ (by omega) rfl (fun k hk=>?_) ?_
 ·unfold Uu.b0
  have hl:(sub b (16 * k) b.length).length=b.length - 16 * k:=WA (Nat.le_refl _)
  refine ZM (by simp only; omega) (Z5 (vF h _ _ (by rw [hl]; omega) (by rw [hl]; omega)) (ZM (by simp only; omega) (ZM (by simp only; omega) ?_)))
  simp only
  rw [Em _ _ _ (by omega),show 16 * k+16=16 * (k+1) by omega]
  rfl
 ·unfold Uu.b0
  exact Zi (by simp only; omega) rfl
theorem lM (h y:E2) (b:Str) (hb:b.length<1152921504606846976):Uu (GL h 4) FD y.1 y.2 b=some (tY h (Fa b) y):=by
 unfold Uu
 refine Z5 (ay h y b hb) ?_
 simp only
 by_cases c:b.length % 16=0
 ·refine Zi (by omega) ?_
  have:Fa b=b:=by unfold Fa; rw [c]; simp
  rw [this]; rfl
 ·refine ZM (by omega) (Ze fun m hm=>?_)
  have hlen:(Fa b).length / 16=b.length / 16+1:=by rw [PW]; omega
  have hml:m.toList=sub (Fa b) (16 * (b.length / 16)) (16 * (b.length / 16)+16):=by
   have hsl:(sub b (16 * (b.length / 16)) b.length).length=b.length - 16 * (b.length / 16):=WA (Nat.le_refl _)
   have htk:(sub b (16 * (b.length / 16)) b.length).take (min (b.length - 16 * (b.length / 16)) 16)=sub b (16 * (b.length / 16)) b.length:=List.take_of_length_le (by rw [hsl]; omega)
   rw [htk] at hm
   refine List.ext_getElem (by rw [WA (by rw [PW]; omega)]; simp) fun i h1 h2=>?_
   have hi:i<16:=by simpa using h1
   have hA:m.toList[i]=vg m i:=by rw [MC hi]; simp
   have adM : ∀ (l:Str) (V:Vx 8 16) (o:Nat),o+l.length≤16 → ∀ i,i<16 → vg (EX V o l) i=if o≤i∧i<o+l.length then l.getD (i - o) 0#8 else vg V i:=by
    intro l
    induction l with
    | nil=>intro V o _ i _; rw [if_neg (by simp)]; rfl
    | cons x r ih =>
     intro V o ho i hi
     simp only [List.length_cons] at ho ⊢
     show vg (EX (vp V o x) (o+1) r) i=_
     rw [ih (vp V o x) (o+1) (by omega) i hi,Qr (by omega) hi]
     by_cases c1:o=i
     ·subst c1
      rw [if_neg (by omega),if_pos rfl,if_pos (by omega),Nat.sub_self]; rfl
     ·by_cases c2:o+1≤i∧i<o+1+r.length
      ·rw [if_pos c2,if_pos (by omega),show i - o=(i - (o+1))+1 by omega]; rfl
      ·rw [if_neg c2,if_neg c1,if_neg (by omega)]
   rw [hA,hm,adM _ _ 0 (by rw [hsl]; omega) i hi,hsl]
   have hR:(sub (Fa b) (16 * (b.length / 16)) (16 * (b.length / 16)+16))[i]=(Fa b).getD (16 * (b.length / 16)+i) 0#8:=by
    rw [← G6 _ _ (16 * (b.length / 16)+16) i (by omega),List.getD_eq_getElem?_getD,List.getElem?_eq_getElem h2]; rfl
   rw [hR]
   unfold Fa
   rw [wX]
   by_cases ci:16 * (b.length / 16)+i<b.length
   ·rw [if_pos (by omega),Nat.sub_zero,G6 _ _ _ _ (by omega)]
   ·rw [if_neg (by omega),MC hi,List.getD_eq_getElem?_getD,List.getElem?_eq_none (by omega)]
    simp
  refine Z5 (vF h _ _ (by rw [hml,WA (by rw [PW]; omega)]; omega) (by rw [hml,WA (by rw [PW]; omega)]; omega)) ?_
  rw [hml,Em _ _ _ (by omega)]
  have:tY h (Fa b) y=gh h (Fa b) (b.length / 16) (iter (gh h (Fa b)) (b.length / 16) y):=by unfold tY; rw [hlen]; rfl
  rw [this]
  have h2:iter (gh h (Fa b)) (b.length / 16) y=iter (gh h b) (b.length / 16) y:=J4 fun k hk x=>by
   unfold gh Fa
   rw [xW b _ _ (by omega)]
  rw [h2]
  rfl
theorem lD (h s:Str) (hh:h.length=16) (hs:s.length<1152921504606846976):VQ h s=some (L8 (tY (ld h 0) s z2)):=by
 unfold VQ
 refine Z5 (Bz h (by omega) (by omega)) (Z5 (v:=tY (ld h 0) s z2) (Vw (fun k=>((iter (gh (ld h 0) s) k z2).1,(iter (gh (ld h 0) s) k z2).2,((16 * k:Nat):Int))) (s.length / 16) _ (by omega) rfl (fun k hk=>?_) ?_) (Z5 (mQ _) rfl))
 ·have e1:ZJ (((16 * k:Nat):Int)+16)=((16 * k+16:Nat):Int):=Vj (b:=16) (by omega)
  have hl:(sub s (16 * k) (16 * k+16)).length=16:=by rw [WA (by omega)]; omega
  unfold VQ.b0
  simp only [e1,Int.toNat_natCast]
  clear e1
  refine ZM (by omega) (ZM (by omega) (ZM (by omega) (ZM (by omega) (ZM (by omega) (Z5 (Bz _ (by omega) (by omega)) ?_)))))
  have ht:=mX (xr (iter (gh (ld h 0) s) k z2) (ld (sub s (16 * k) (16 * k+16)) 0)) (ld h 0)
  refine Z5 ht (Ze fun i hi=>?_)
  rw [hi,Em _ _ _ (by omega),sZ]
  rfl
 ·have e1:ZJ (((16 * (s.length / 16):Nat):Int)+16)=((16 * (s.length / 16)+16:Nat):Int):=Vj (b:=16) (by omega)
  unfold VQ.b0
  simp only [e1]
  exact Zi (by omega) rfl
def UO (x:BitVec 8) (k:Int):Option (BitVec 8) :=
 X5 ((BitVec.ofInt 64 k) &&& 7#64) fun JW=>(X5 ((x <<< JW.toNat) ||| (x >>> (8#64 - JW).toNat)) fun x1=>(some x1))
theorem Ko {x:BitVec 8} {k:Int} {r:BitVec 8} (H:UO x k=some r) :
  Does Tryz.prog 155 [v8 x,vi k] [] [] (Γ:=Unit) (fun g=>v8 r) (fun g=>[]):=by
 intro w hmem hro hd
 refine Zn func155 rfl ntmps155 rfl hmem hro hd ?_
 unfold UO at H
 refine Z_ (Y2 ?_)
 refine Z6 (Z_ (YP ?_))
 refine ZV (Vu rfl (fun w=>Ct w _ _ underlying53 (HY) .i64 k)) ?_
 refine ZV (Zg rfl rfl (fun w=>MZ w (BitVec.ofInt 64 k) 7#64)) ?_
 refine Y2 ?_
 have ⟨JW,hs_1,H⟩:=ZX H
 refine WN 5 (congrArg v64 hs_1) ?_
 refine Z6 (Z_ (Zj 2 rfl ?_))
 refine ZV (Zg rfl rfl (fun w=>xk w x .u64 (JW.toNat:Int) (Int.natCast_nonneg _))) ?_
 refine Zj 2 rfl ?_
 refine ZV (Zg rfl rfl (fun w=>uL w 8#64 JW)) ?_
 refine ZV (Zg rfl rfl (fun w=>bM w x .u64 ((8#64 - JW).toNat:Int) (Int.natCast_nonneg _))) ?_
 refine ZV (ZT or8) ?_
 refine Y2 ?_
 have ⟨x1,TK,H⟩:=ZX H
 refine WN 4 (congrArg v8 TK) ?_
 refine Zq ?_
 obtain rfl:=sj H
 exact Wj
open Vector (replicate)
open TryzI Tryz
def Py.b0  (s0:BitVec 8 × BitVec 8 × Vx 8 256):Option ((BitVec 8 × BitVec 8 × Vx 8 256) ⊕ ((Vx 8 256))) :=
 (PP s0.1).bind fun Zu=>(X5 (s0.2.1 ^^^ (s0.2.1 <<< 1)) fun q1=>(X5 (q1 ^^^ (q1 <<< 2)) fun q2=>(X5 (q2 ^^^ (q2 <<< 4)) fun q3=>(X5 (q3 ^^^ (9#8 &&& (-(q3 >>> 7)))) fun q4=>((UO q4 1).bind fun YJ=>((UO q4 2).bind fun X7=>((UO q4 3).bind fun Xu=>((UO q4 4).bind fun UC=>(X5 (vp s0.2.2 ((s0.1 ^^^ Zu).toNat) (((((99#8 ^^^ q4) ^^^ YJ) ^^^ X7) ^^^ Xu) ^^^ UC)) fun SV=>(if (s0.1 ^^^ Zu)=1#8 then (some (.inr SV)) else (some (.inl (s0.1 ^^^ Zu,q4,SV)))))))))))))
def Py:Option (Vx 8 256) :=
 X5 ((vp (replicate 256 0#8) 0 99#8:Vx 8 256)) fun Xi=>((loop (Py.b0) BIG (1#8,1#8,Xi)).bind fun Yw=>some Yw)
theorem xx {r:Vx 8 256} (H:Py=some r) :
  Does Tryz.prog 152 [] [] [] (Γ:=Unit) (fun g=>aG [(256,e8 r.toList)]) (fun g=>[]):=by
 intro w hmem hro hd
 refine Zn func152 rfl ntmps152 rfl hmem hro hd ?_
 unfold Py at H
 refine Z_ (YE (Wh [(256,e8 ((replicate 256 0#8).toList))] Nv wZ ⟨(Wl (f:=v8) (replicate 256 0#8)),trivial⟩) (fun b1=>?_))
 refine Z6 (Z_ (ZV (VJ (pv:=[(0,v8 99#8)]) rfl rfl underlying243 Nv Yn rfl wZ (cs:=e8 ((vp (replicate 256 0#8) 0 99#8:Vx 8 256).toList)) (by kernel_rfl)) ?_))
 refine YE (Wh [(256,e8 ((replicate 256 0#8).toList))] Nv wZ ⟨(Wl (f:=v8) (replicate 256 0#8)),trivial⟩) (fun b2=>?_)
 refine VM (Vd 0 Nv) (fun _=>?_)
 have ⟨Xi,hm_1,H⟩:=ZX H
 refine Ta 0 (congrArg (fun z:Vx 8 256=>e8 (Vector.toList z)) hm_1) ?_
 refine Z6 (Z_ (Zj 2 rfl ?_))
 refine Z6 (ZP ?_)
 have ⟨Yw,Hl,H⟩:=Z9 H
 refine Wz [0,1,2,3] [1,0] rfl rfl ?_
 refine kL (body:=(Py.b0)) (σ:=BitVec 8 × BitVec 8 × Vx 8 256) (Γ:=Unit) (Γx:=Unit) (fun s0 WG=>[(0,ptr (some (b1,0)) 0),(1,ptr (some (b2,0)) 0),(2,v8 s0.1),(3,v8 s0.2.1)]) (fun s0 WG=>[⟨some (b1,0),e8 ((replicate 256 0#8).toList)⟩,⟨some (b2,0),e8 s0.2.2.toList⟩]) (fun t g=>[]) (fun t g=>[]) r ?_ BIG (1#8,1#8,Xi) () Yw Hl ?_
 ·intro s0 WG r1 H K hK hE MK
  unfold Py.b0 at H
  refine ZP (Z_ (Zj 2 rfl ?_))
  have ⟨Zu,Yk,H⟩:=Z9 H
  refine YE (Y4 (NI Yk :) call153 .z) (fun Re=>?_)
  refine ZV (ZT Sr) ?_
  refine Y2 ?_
  refine Z6 (Z_ (Zj 2 rfl ?_))
  refine ZV (Zg rfl rfl (fun w=>xk w s0.2.1 .u64 1 (by decide))) ?_
  refine ZV (ZT Sr) ?_
  refine Y2 ?_
  have ⟨q1,hq1,H⟩:=ZX H
  refine WN 3 (congrArg v8 hq1) ?_
  refine Z6 (Z_ (Zj 2 rfl ?_))
  refine ZV (Zg rfl rfl (fun w=>xk w q1 .u64 2 (by decide))) ?_
  refine ZV (ZT Sr) ?_
  refine Y2 ?_
  have ⟨q2,hq2,H⟩:=ZX H
  refine WN 3 (congrArg v8 hq2) ?_
  refine Z6 (Z_ (Zj 2 rfl ?_))
  refine ZV (Zg rfl rfl (fun w=>xk w q2 .u64 4 (by decide))) ?_
  refine ZV (ZT Sr) ?_
  refine Y2 ?_
  have ⟨q3,hq3,H⟩:=ZX H
  refine WN 3 (congrArg v8 hq3) ?_
  refine Z6 (Z_ (Zj 2 rfl ?_))
  refine ZV (Zg rfl rfl (fun w=>bM w q3 .u64 7 (by decide))) ?_
  refine ZV (UF aaG) ?_
  refine ZV (Zg rfl rfl (fun w=>abC w 9#8 (-(q3 >>> 7)))) ?_
  refine ZV (ZT Sr) ?_
  refine Y2 ?_
  have ⟨q4,hq4,H⟩:=ZX H
  refine WN 3 (congrArg v8 hq4) ?_
  refine Z6 (Wz [0,1,2,3] [0,0] rfl rfl ?_)
  refine Z_ (Zj 2 rfl ?_)
  refine ZV (Zg rfl rfl (fun w=>Sr w 99#8 q4)) ?_
  refine YP ?_
  have ⟨YJ,X6,H⟩:=Z9 H
  refine YE (Y4 (Ko X6 :) call155 .z) (fun UD=>?_)
  refine ZV (ZT Sr) ?_
  refine YP ?_
  have ⟨X7,Vt,H⟩:=Z9 H
  refine YE (Y4 (Ko Vt :) call155 .z) (fun Pm=>?_)
  refine ZV (ZT Sr) ?_
  refine YP ?_
  have ⟨Xu,UH,H⟩:=Z9 H
  refine YE (Y4 (Ko UH :) call155 .z) (fun JV=>?_)
  refine ZV (ZT Sr) ?_
  refine YP ?_
  have ⟨UC,Qi,H⟩:=Z9 H
  refine YE (Y4 (Ko Qi :) call155 .z) (fun zM=>?_)
  refine ZV (ZT Sr) ?_
  refine ZV (Zw (i:=((s0.1 ^^^ Zu).toNat:Int)) rfl rfl underlying243 Yn rfl (Int.natCast_nonneg _) (zb (n:=8) (k:=256) (s0.1 ^^^ Zu) (by decide)) (k:=(s0.1 ^^^ Zu).toNat) (Tz _)) ?_
  refine VM (YR (j:=1) rfl rfl Yn rfl rfl rfl (by simpa using (toNat_lt (Int.natCast_nonneg _) (zb (n:=8) (k:=256) (s0.1 ^^^ Zu) (by decide)))) (cs':=e8 ((vp s0.2.2 ((s0.1 ^^^ Zu).toNat) (((((99#8 ^^^ q4) ^^^ YJ) ^^^ X7) ^^^ Xu) ^^^ UC)).toList)) VR) (fun _=>?_)
  have ⟨SV,hm_2,H⟩:=ZX H
  refine Ta 1 (congrArg (fun z:Vx 8 256=>e8 (Vector.toList z)) hm_2) ?_
  refine Z6 (Z_ (YP ?_))
  refine ZV (Zg rfl rfl (fun w=>adP w (s0.1 ^^^ Zu) 1#8)) ?_
  refine Z6 (UK H (fun hc H=>?_) (fun hc H=>?_))
  ·refine Z_ (ZV (Wi (.o 1) isAgg243 Nv) ?_)
   refine VM (Vd (vs:=e8 SV.toList) 0 Nv) (fun _=>?_)
   refine Zq (ZE (ZZ (ZE ?_)))
   have M3:=(MK _ (Option.some.inj H).symm)
   subst M3
   exact SF (vs:=[_]) rfl ⟨(Wm (n:=256) rfl (by simp) (.o 0) isAgg243 Nv rfl (Wl (f:=v8) SV)),trivial⟩
  refine ZN (ZW ?_)
  obtain rfl:=sj H
  exact Ri [0,0] (hK (s0.1 ^^^ Zu,q4,SV) rfl ())
 exact (Option.some.inj H)
end Go.Proofs
end

/-
  Part 2 of the proof of HelloRetries.
-/
import Derived.Test.YtkgeoekcnlgfnaaGreatDoorKh1
import Derived.Test.YtkgeoekcnlgfnaaGreatDoorKh2
import Derived.Test.YtkgeoekcnlgfnaaGreatDoorKh3
import Derived.Test.YtkgeoekcnlgfnaaGreatDoorKh4
import Derived.Test.YtkgeoekcnlgfnaaGreatDoorKh5
import Derived.Test.YtkgeoekcnlgfnaaGreatDoorKh6
import Derived.Test.YtkgeoekcnlgfnaaGreatDoorKh7
import Derived.Test.YtkgeoekcnlgfnaaGreatDoorKh8
import Derived.Test.YtkgeoekcnlgfnaaGreatDoorKh9
import Derived.Test.YtkgeoekcnlgfnaaGreatDoorKh10
import Derived.Test.YtkgeoekcnlgfnaaGreatDoorKh11
import Derived.Test.YtkgeoekcnlgfnaaGreatDoorKh12
import Derived.Test.YtkgeoekcnlgfnaaGreatDoorKh13
import Derived.Test.YtkgeoekcnlgfnaaGreatDoorKh14
import Derived.Test.YtkgeoekcnlgfnaaGreatDoorKh15
import Derived.Test.YtkgeoekcnlgfnaaGreatDoorKh16
import Derived.Test.YtkgeoekcnlgfnaaGreatDoorKh17
import Derived.Test.YtkgeoekcnlgfnaaGreatDoorKh18
import Derived.Test.YtkgeoekcnlgfnaaGreatDoorKh19
import Derived.Test.YtkgeoekcnlgfnaaGreatDoorKh20
import Derived.Test.YtkgeoekcnlgfnaaGreatDoorKh21
import Derived.Test.YtkgeoekcnlgfnaaGreatDoorKh22
import Derived.Test.YtkgeoekcnlgfnaaGreatDoorKh23
import Derived.Test.YtkgeoekcnlgfnaaGreatDoorKh24
import Derived.Test.YtkgeoekcnlgfnaaGreatDoorKh25
import Derived.Test.YtkgeoekcnlgfnaaGreatDoorKh26
import Derived.Test.YtkgeoekcnlgfnaaGreatDoorKh27
import Derived.Test.YtkgeoekcnlgfnaaGreatDoorKh28
import Derived.Test.YtkgeoekcnlgfnaaGreatDoorKh29
import Derived.Test.YtkgeoekcnlgfnaaGreatDoorKh30
import Derived.Test.YtkgeoekcnlgfnaaGreatDoorHelloRetriesA1
set_option linter.unusedVariables false
set_option linter.unusedSimpArgs false
section
namespace Go.Proofs
open Go Go.Kx
theorem mod4 (x:BitVec 64):x % 4#64=0#64 ∨ x % 4#64=1#64 ∨ x % 4#64=2#64 ∨ x % 4#64=3#64:=by
 have h:(x % 4#64).toNat<4:=by rw [BitVec.toNat_umod]; exact Nat.mod_lt _ (by decide)
 generalize x % 4#64=u at h
 have e:u=BitVec.ofNat 64 u.toNat:=by simp
 rw [e]
 generalize u.toNat=n at h
 match n,h with
 | 0,_=>exact .inl rfl
 | 1,_=>exact .inr (.inl rfl)
 | 2,_=>exact .inr (.inr (.inl rfl))
 | 3,_=>exact .inr (.inr (.inr rfl))
theorem Choose_srv {mK:Int} {mR mS:Str} {mSu:List Int} {mN:Str} {mV mG mSc mM:List Int} {mSh:List (Int × Str)} {mI:List (Str × Int)} {mB:List Str} {mP:Int} {mO:List Int} {mC:List Str} {mSch:Int} {mD:Str} {mL mA:Int} {mNo:Str} {mU:Int} {again:Bool} {group:Int}
  {sl:Str} {clock:Int}
  (hM:hello_May true [4867,4865] [23,29] [[99#8]] keyS [] [] 0 sl [] [] clock 0 10 33290=some true) (hk:mK=1) {z:Int × Int × Str × Bool × Bool × Int}
  (h:((hello_asking_offers true [4867,4865] [23,29] [[99#8]] keyS [] [] 0 sl [] [] clock 0 10 33290 mK mR mS mSu mN mV mG mSc mM mSh mI mB mP mO mC mSch mD mL mA mNo mU again group 0 0 ([]:Str) false false 0).bind fun (r_2:Int × Int)=>(if r_2.1 ≠ (-1) then (some (0,0,([]:Str),false,false,r_2.1)) else ((hello_asking_shares true [4867,4865] [23,29] [[99#8]] keyS [] [] 0 sl [] [] clock 0 10 33290 mK mR mS mSu mN mV mG mSc mM mSh mI mB mP mO mC mSch mD mL mA mNo mU again group r_2.2 0 ([]:Str) false false 0).bind fun (r_3:Int × Int × Str × Bool)=>(if r_3.1 ≠ (-1) then (some (0,0,([]:Str),false,false,r_3.1)) else ((hello_asking_proof true [4867,4865] [23,29] [[99#8]] keyS [] [] 0 sl [] [] clock 0 10 33290 mK mR mS mSu mN mV mG mSc mM mSh mI mB mP mO mC mSch mD mL mA mNo mU again group r_2.2 r_3.2.1 r_3.2.2.1 r_3.2.2.2 false 0).bind fun (r_4:Int × Bool)=>(if r_4.1 ≠ (-1) then (some (0,0,([]:Str),false,false,r_4.1)) else (some (r_2.2,r_3.2.1,r_3.2.2.1,r_3.2.2.2,r_4.2,(-1)))))))))=some z) :
  hello_Choose true [4867,4865] [23,29] [[99#8]] keyS [] [] 0 sl [] [] clock 0 10 33290 mK mR mS mSu mN mV mG mSc mM mSh mI mB mP mO mC mSch mD mL mA mNo mU again group=some z:=by
 subst hk
 unfold hello_Choose
 exact bind_i hM (bind_i (v:=false) rfl (if_n (by decide) h))
set_option maxRecDepth 100000 in
theorem HelloRetries_true (first:Bool) (second:Int):halberdlaw24_HelloRetries first second=some true:=by
 unfold halberdlaw24_HelloRetries
 refine bind_i awake24 (if_n (by decide) (bind_i Server24 (bind_i (z24_eq 32 (by decide)) ?_)))
 dsimp only
 cases first with
 | true =>
  refine bind_i (v:=[(23,[107#8])]) rfl (bind_i (v:=(4867,23,[107#8],false,false, -1)) (Choose_srv MayS rfl (by kernel_rfl)) (bind_i (v:=false) rfl (if_n (by decide) ?_)))
  rcases mod4 (BitVec.ofInt 64 second) with h | h | h | h <;> rw [h] <;> refine ltt_i fun x1 hx1=>?_ <;> subst hx1
  ·refine bind_i (v:=(true,[29,23],[(23,[112#8])])) rfl ?_
   refine bind_i (v:=(4867,23,[112#8],false,false, -1)) (Choose_srv MayS rfl (by kernel_rfl)) ?_
   rfl
  ·refine bind_i (v:=(false,[29,23],[(29,[112#8])])) rfl ?_
   refine bind_i (v:=(0,0,[],false,false,47)) (Choose_srv MayS rfl (by kernel_rfl)) ?_
   rfl
  ·refine bind_i (v:=(false,[29,23],[(23,[112#8]),(29,[113#8])])) rfl ?_
   refine bind_i (v:=(0,0,[],false,false,47)) (Choose_srv MayS rfl (by kernel_rfl)) ?_
   rfl
  ·refine bind_i (v:=(false,[29],[(23,[112#8])])) rfl ?_
   refine bind_i (v:=(0,0,[],false,false,47)) (Choose_srv MayS rfl (by kernel_rfl)) ?_
   rfl
 | false =>
  refine bind_i (v:=[(29,[107#8])]) rfl (bind_i (v:=(4867,23,[],true,false, -1)) (Choose_srv MayS rfl (by kernel_rfl)) (bind_i (v:=false) rfl (if_n (by decide) ?_)))
  rcases mod4 (BitVec.ofInt 64 second) with h | h | h | h <;> rw [h] <;> refine ltt_i fun x1 hx1=>?_ <;> subst hx1
  ·refine bind_i (v:=(true,[29,23],[(23,[112#8])])) rfl ?_
   refine bind_i (v:=(4867,23,[112#8],false,false, -1)) (Choose_srv MayS rfl (by kernel_rfl)) ?_
   rfl
  ·refine bind_i (v:=(false,[29,23],[(29,[112#8])])) rfl ?_
   refine bind_i (v:=(0,0,[],false,false,47)) (Choose_srv MayS rfl (by kernel_rfl)) ?_
   rfl
  ·refine bind_i (v:=(false,[29,23],[(23,[112#8]),(29,[113#8])])) rfl ?_
   refine bind_i (v:=(0,0,[],false,false,47)) (Choose_srv MayS rfl (by kernel_rfl)) ?_
   rfl
  ·refine bind_i (v:=(false,[29],[(23,[112#8])])) rfl ?_
   refine bind_i (v:=(0,0,[],false,false,47)) (Choose_srv MayS rfl (by kernel_rfl)) ?_
   rfl
end Go.Proofs
end

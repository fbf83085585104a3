/-
  Part 3 of the proof of HelloOrder.
-/
import Derived.Test.YtkgeoekcnlgfnaaGreatDoorKh1
import Derived.Test.YtkgeoekcnlgfnaaGreatDoorKh2
import Derived.Test.YtkgeoekcnlgfnaaGreatDoorKh3
import Derived.Test.YtkgeoekcnlgfnaaGreatDoorKh4
import Derived.Test.YtkgeoekcnlgfnaaGreatDoorKh5
import Derived.Test.YtkgeoekcnlgfnaaGreatDoorKh6
import Derived.Test.YtkgeoekcnlgfnaaGreatDoorKh7
import Derived.Test.YtkgeoekcnlgfnaaGreatDoorKh8
import Derived.Test.YtkgeoekcnlgfnaaGreatDoorKh9
import Derived.Test.YtkgeoekcnlgfnaaGreatDoorKh10
import Derived.Test.YtkgeoekcnlgfnaaGreatDoorKh11
import Derived.Test.YtkgeoekcnlgfnaaGreatDoorKh12
import Derived.Test.YtkgeoekcnlgfnaaGreatDoorKh13
import Derived.Test.YtkgeoekcnlgfnaaGreatDoorKh14
import Derived.Test.YtkgeoekcnlgfnaaGreatDoorKh15
import Derived.Test.YtkgeoekcnlgfnaaGreatDoorKh16
import Derived.Test.YtkgeoekcnlgfnaaGreatDoorKh17
import Derived.Test.YtkgeoekcnlgfnaaGreatDoorKh18
import Derived.Test.YtkgeoekcnlgfnaaGreatDoorKh19
import Derived.Test.YtkgeoekcnlgfnaaGreatDoorKh20
import Derived.Test.YtkgeoekcnlgfnaaGreatDoorKh21
import Derived.Test.YtkgeoekcnlgfnaaGreatDoorKh22
import Derived.Test.YtkgeoekcnlgfnaaGreatDoorKh23
import Derived.Test.YtkgeoekcnlgfnaaGreatDoorKh24
import Derived.Test.YtkgeoekcnlgfnaaGreatDoorKh25
import Derived.Test.YtkgeoekcnlgfnaaGreatDoorKh26
import Derived.Test.YtkgeoekcnlgfnaaGreatDoorKh27
import Derived.Test.YtkgeoekcnlgfnaaGreatDoorKh28
import Derived.Test.YtkgeoekcnlgfnaaGreatDoorKh29
import Derived.Test.YtkgeoekcnlgfnaaGreatDoorKh30
import Derived.Test.YtkgeoekcnlgfnaaGreatDoorHelloOrderA1
import Derived.Test.YtkgeoekcnlgfnaaGreatDoorHelloOrderA2
set_option linter.unusedVariables false
set_option linter.unusedSimpArgs false
section
namespace Go.Proofs
open Go Go.Kx
theorem bit01 (x:Int):iop (· &&& ·) x 1=0 ∨ iop (· &&& ·) x 1=1:=by
 have h:iop (· &&& ·) x 1=x % 2:=and_mask x 1 (by decide)
 rw [h]; omega
theorem Choose_srvE {mR mS:Str} {mSu:List Int} {mN:Str} {mV mG mSc mM:List Int} {mSh:List (Int × Str)} {mI:List (Str × Int)} {mB:List Str} {mP:Int} {mO:List Int} {mC:List Str} {mSch:Int} {mD:Str} {mL mA:Int} {mNo:Str} {mU:Int} {again:Bool} {group:Int} :
  hello_Choose true [4867,4865] [23,29] [[99#8]] keyS [] [] 0 [] [] [] 1000 0 10 33290 1 mR mS mSu mN mV mG mSc mM mSh mI mB mP mO mC mSch mD mL mA mNo mU again group=((hello_asking_offers true [4867,4865] [23,29] [[99#8]] keyS [] [] 0 [] [] [] 1000 0 10 33290 1 mR mS mSu mN mV mG mSc mM mSh mI mB mP mO mC mSch mD mL mA mNo mU again group 0 0 ([]:Str) false false 0).bind fun (r_2:Int × Int)=>(if r_2.1 ≠ (-1) then (some (0,0,([]:Str),false,false,r_2.1)) else ((hello_asking_shares true [4867,4865] [23,29] [[99#8]] keyS [] [] 0 [] [] [] 1000 0 10 33290 1 mR mS mSu mN mV mG mSc mM mSh mI mB mP mO mC mSch mD mL mA mNo mU again group r_2.2 0 ([]:Str) false false 0).bind fun (r_3:Int × Int × Str × Bool)=>(if r_3.1 ≠ (-1) then (some (0,0,([]:Str),false,false,r_3.1)) else ((hello_asking_proof true [4867,4865] [23,29] [[99#8]] keyS [] [] 0 [] [] [] 1000 0 10 33290 1 mR mS mSu mN mV mG mSc mM mSh mI mB mP mO mC mSch mD mL mA mNo mU again group r_2.2 r_3.2.1 r_3.2.2.1 r_3.2.2.2 false 0).bind fun (r_4:Int × Bool)=>(if r_4.1 ≠ (-1) then (some (0,0,([]:Str),false,false,r_4.1)) else (some (r_2.2,r_3.2.1,r_3.2.2.1,r_3.2.2.2,r_4.2,(-1))))))))):=by
 unfold hello_Choose
 exact bind_i MayS (bind_i (v:=false) rfl (if_n (by decide) rfl))
set_option maxRecDepth 100000 in
set_option maxHeartbeats 4000000 in
theorem HelloOrder_true (wrong:Int) (again:Bool):halberdlaw24_HelloOrder wrong again=some true:=by
 unfold halberdlaw24_HelloOrder
 refine bind_i awake24 (if_n (by decide) (bind_i Server24 (bind_i (z24_eq 32 (by decide)) ?_)))
 have h0:=bit01 wrong
 have h1:=bit01 (shrI' wrong 1)
 have h2:=bit01 (shrI' wrong 2)
 have h3:=bit01 (shrI' wrong 3)
 have h4:=bit01 (shrI' wrong 4)
 have h5:=bit01 (shrI' wrong 5)
 have h6:=bit01 (shrI' wrong 6)
 generalize iop (· &&& ·) (shrI' wrong 1) 1=x1 at h1 ⊢
 generalize iop (· &&& ·) (shrI' wrong 2) 1=x2 at h2 ⊢
 generalize iop (· &&& ·) (shrI' wrong 3) 1=x3 at h3 ⊢
 generalize iop (· &&& ·) (shrI' wrong 4) 1=x4 at h4 ⊢
 generalize iop (· &&& ·) (shrI' wrong 5) 1=x5 at h5 ⊢
 generalize iop (· &&& ·) (shrI' wrong 6) 1=x6 at h6 ⊢
 generalize iop (· &&& ·) wrong 1=x0 at h0 ⊢
 simp only [Choose_srvE]
 rcases h5 with rfl | rfl
 ·rcases h6 with rfl | rfl <;> rcases h4 with rfl | rfl <;> rcases h3 with rfl | rfl <;> rcases h2 with rfl | rfl <;> rcases h1 with rfl | rfl <;> rcases h0 with rfl | rfl <;> cases again <;> (show _=some true; kernel_rfl)
 ·rcases h6 with rfl | rfl <;> rcases h4 with rfl | rfl <;> rcases h3 with rfl | rfl <;> rcases h2 with rfl | rfl <;> rcases h1 with rfl | rfl <;> rcases h0 with rfl | rfl <;> cases again <;> (show _=some true; kernel_rfl)
end Go.Proofs
end

/-
  Part 28 of the proof of what several laws share.
-/
import Derived.Test.YtkgeoekcnlgfnaaGreatDoorKf1
import Derived.Test.YtkgeoekcnlgfnaaGreatDoorKf2
import Derived.Test.YtkgeoekcnlgfnaaGreatDoorKf3
import Derived.Test.YtkgeoekcnlgfnaaGreatDoorKf4
import Derived.Test.YtkgeoekcnlgfnaaGreatDoorKf5
import Derived.Test.YtkgeoekcnlgfnaaGreatDoorKf6
set_option linter.unusedVariables false
set_option linter.unusedSimpArgs false
section
namespace Go.Proofs
open Go Go.Kx
open TryzI Tryz
def halberdlaw0_Num (e:Int):Option (Int) :=
 some e
set_option maxHeartbeats 4000000 in
set_option maxRecDepth 20000 in
theorem F19_calls (e:Int) (r:Int) (H:halberdlaw0_Num e=some r) :
  Does Tryz.prog 19 [vi e] [] [] (Γ:=Unit) (fun g=>vi r) (fun g=>[]):=by
 intro w hmem hro hd
 refine calls_of (N:=4) (m0:=[(0,vi e)]) func19 rfl ntmps19 (argM_ok [vi e]) rfl hmem hro hd ?_
 unfold halberdlaw0_Num at H
 refine TC_seq (TC_region (TVa ?_))
 refine TL_nil (TX_next (TC_seq (TC_region (TVm ?_))))
 refine TVa ?_
 refine TL_nil (TX_next (TC_ret ?_))
 obtain rfl:=sj H
 exact TX1
end Go.Proofs
end

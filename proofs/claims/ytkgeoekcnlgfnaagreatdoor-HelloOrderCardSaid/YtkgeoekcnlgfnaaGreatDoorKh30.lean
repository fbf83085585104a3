/-
  Part 30 of the proof of what several laws share.
-/
import Derived.SizedLaws
import Derived.ChangeSlices
import Derived.SliceStrings
import Derived.WideShapes
import Derived.ChangeShapes
import Derived.Test.YtkgeoekcnlgfnaaGreatDoorKh1
import Derived.Test.YtkgeoekcnlgfnaaGreatDoorKh2
import Derived.Test.YtkgeoekcnlgfnaaGreatDoorKh3
import Derived.Test.YtkgeoekcnlgfnaaGreatDoorKh4
import Derived.Test.YtkgeoekcnlgfnaaGreatDoorKh5
import Derived.Test.YtkgeoekcnlgfnaaGreatDoorKh6
import Derived.Test.YtkgeoekcnlgfnaaGreatDoorKh7
import Derived.Test.YtkgeoekcnlgfnaaGreatDoorKh8
import Derived.Test.YtkgeoekcnlgfnaaGreatDoorKh9
import Derived.Test.YtkgeoekcnlgfnaaGreatDoorKh10
import Derived.Test.YtkgeoekcnlgfnaaGreatDoorKh11
import Derived.Test.YtkgeoekcnlgfnaaGreatDoorKh12
import Derived.Test.YtkgeoekcnlgfnaaGreatDoorKh13
import Derived.Test.YtkgeoekcnlgfnaaGreatDoorKh14
import Derived.Test.YtkgeoekcnlgfnaaGreatDoorKh15
import Derived.Test.YtkgeoekcnlgfnaaGreatDoorKh16
import Derived.Test.YtkgeoekcnlgfnaaGreatDoorKh17
import Derived.Test.YtkgeoekcnlgfnaaGreatDoorKh18
import Derived.Test.YtkgeoekcnlgfnaaGreatDoorKh19
import Derived.Test.YtkgeoekcnlgfnaaGreatDoorKh20
import Derived.Test.YtkgeoekcnlgfnaaGreatDoorKh21
import Derived.Test.YtkgeoekcnlgfnaaGreatDoorKh22
import Derived.Test.YtkgeoekcnlgfnaaGreatDoorKh23
import Derived.Test.YtkgeoekcnlgfnaaGreatDoorKh24
import Derived.Test.YtkgeoekcnlgfnaaGreatDoorKh25
import Derived.Test.YtkgeoekcnlgfnaaGreatDoorKh26
import Derived.Test.YtkgeoekcnlgfnaaGreatDoorKh27
import Derived.Test.YtkgeoekcnlgfnaaGreatDoorKh28
import Derived.Test.YtkgeoekcnlgfnaaGreatDoorKh29
set_option linter.unusedVariables false
set_option linter.unusedSimpArgs false
section
namespace Go.Proofs
open Go Go.Kx
set_option maxRecDepth 100000 in
theorem awake24:halberdlaw24_awake=some true:=by kernel_rfl
end Go.Proofs
end

section
namespace Go.Kx
open Go Go.RowKit Go.ChangeShapes Go.WideShapes
theorem Does.law2 {P:Program} {f:FuncId} {args:List Value} {Ro:Mem} (h:Does P f args [] Ro (Γ:=Unit) (fun _=>vb true) (fun _=>[])) (w:World) (hr : ∀ e ∈ Ro,Has w e) :
  Calls P f args.toArray w fun e w'=>e = .returned (.bool true)∧Below w.heap.size w w':=by
 refine (h w ⟨fun e he=>(List.not_mem_nil he).elim,List.Pairwise.nil⟩ hr (fun e he=>(List.not_mem_nil he).elim)).mono fun e w' ⟨_,he,hs⟩=>⟨he,hs.below⟩
section
variable {H:Type} {enc:TypeId × Value → H} {P:Program} {w:World} {base:Nat} {held:Bool} {t e:TypeId} {v:Value} {d:DataW H} {p:List MemPlace}
end
end Go.Kx
end

section
namespace Go.Proofs
open Go Go.Kx
open TryzI Tryz
def halberdref1_Be.b0 (size:Int) (s0:Int × Int × List (BitVec 8)):Option ((Int × Int × List (BitVec 8)) ⊕ (List (BitVec 8))) :=
 if 0≤s0.2.1 then (if 0≤s0.2.1∧s0.2.1<((size).toNat:Int) then (if (s0.2.1).toNat<(s0.2.2).length then (ltt (s0.2.2.set ((s0.2.1).toNat) (BitVec.ofInt 8 (iop (· &&& ·) s0.1 255))) fun (m_1:List (BitVec 8))=>(ltt (w64 (s0.2.1 - 1)) fun (i2:Int)=>(some (.inl (shrI' s0.1 8,i2,m_1))))) else none) else none) else (some (.inr s0.2.2))
def halberdref1_Be (x:Int) (size:Int):Option (Str) :=
 if 0≤size∧size≤17592186044416 then (ltt (w64 (size - 1)) fun (i1:Int)=>((loop (halberdref1_Be.b0 size) BIG (x,i1,List.replicate ((size).toNat) 0#8)).bind fun (t_1:List (BitVec 8))=>(if (t_1).length=(size).toNat then (some t_1) else none))) else none
end Go.Proofs
end

/-
  No cell of these rows narrows 'for every input' (looked for: loops, veiled, ifaces, maps, wideKeys, modest, calm, conditions, laid).
  DERIVED. THE GIVEN ROWS OF THIS SEAT. 10 by the template 'for every input the law returns true; each argument reads behind the call as it read before'; 0 by the template 'total and deterministic' (their statements: YtiofnmmggblcgaaTotals.lean).
  GIVEN WITH THE SEED: the statements are not yours to turn. If you find one false, say at which input.
  Laid BY PROGRAM, IN A SANDBOX (cutbox-rows.mjs): the forced cells as the released guide's own fill.sh prints them over the translation e093c679d97f8128… (all of the seat's roots in one cut). By AI agents, Wed Nov 11 2026. No macro, syntax, notation, axiom, sorry.
-/
import Derived.Test.YtiofnmmggblcgaaChecked
import GoSem.Claim
import GoSem.ClaimJoined
import GoSem.ClaimMapViews
import Derived.JoinedTies
import Derived.KernelRfl
namespace Go.Proofs.Ytiofnmmggblcgaa
/- THE CELL 'sum', in the pinned program and in every row, IS THE sha256 OF THE DUMP (.gsa) THAT YtiofnmmggblcgaaProg.lean LOADS. Nothing in Lean hashes anything: it is a label: what it is worth is what the hold of that sum in a sandbox is worth. -/
noncomputable def Try.pinned : Pinned := { name := "ytiofnmmggblcgaa", sum := "e093c679d97f8128ca488105360b1e27aea12ffd02a81bd283579acaa757101e", checked := Try.checked }
namespace Rows
def none {H : Type} : Left H := { results := [], args := [] }

/-- 'halberdlaw11.Pcurves': WHATEVER THE INPUT: true; the input reads as it did. -/
def pcurvesSpec : ChangeSpec := { name := "pcurves", fn := fun _ => fun
  | [d1, d2, d3] => { results := [.lit (.bool true)], args := [d1, d2, d3] }
  | _ => none }
def pcurvesRow : OpenClaim := { program := "ytiofnmmggblcgaa", sum := "e093c679d97f8128ca488105360b1e27aea12ffd02a81bd283579acaa757101e", func := "halberd/halberdlaw11.Pcurves", spec := "pcurves", inPlace := ["math/bits.Add64", "math/bits.Sub64"], apart := false }
def PcurvesSaid : Prop := pcurvesRow.holds Try.pinned (OpenSpec.ofChange pcurvesSpec)

/-- ITS FALSE NEIGHBOUR: 'it returns false'. Refute it at one input. -/
def pcurvesWrong : ChangeSpec := { name := "pcurves", fn := fun _ => fun
  | [d1, d2, d3] => { results := [.lit (.bool false)], args := [d1, d2, d3] }
  | _ => none }
def PcurvesWrongFalsely : Prop := pcurvesRow.holds Try.pinned (OpenSpec.ofChange pcurvesWrong)

/-- 'halberdlaw11.PcurveSums': WHATEVER THE INPUT: true; the input reads as it did. -/
def pcurveSumsSpec : ChangeSpec := { name := "pcurveSums", fn := fun _ => fun
  | [d1, d2] => { results := [.lit (.bool true)], args := [d1, d2] }
  | _ => none }
def pcurveSumsRow : OpenClaim := { program := "ytiofnmmggblcgaa", sum := "e093c679d97f8128ca488105360b1e27aea12ffd02a81bd283579acaa757101e", func := "halberd/halberdlaw11.PcurveSums", spec := "pcurveSums", inPlace := ["math/bits.Add64", "math/bits.Sub64"], apart := false }
def PcurveSumsSaid : Prop := pcurveSumsRow.holds Try.pinned (OpenSpec.ofChange pcurveSumsSpec)

/-- ITS FALSE NEIGHBOUR: 'it returns false'. Refute it at one input. -/
def pcurveSumsWrong : ChangeSpec := { name := "pcurveSums", fn := fun _ => fun
  | [d1, d2] => { results := [.lit (.bool false)], args := [d1, d2] }
  | _ => none }
def PcurveSumsWrongFalsely : Prop := pcurveSumsRow.holds Try.pinned (OpenSpec.ofChange pcurveSumsWrong)

/-- 'halberdlaw11.PcurveOff': WHATEVER THE INPUT: true; the input reads as it did. -/
def pcurveOffSpec : ChangeSpec := { name := "pcurveOff", fn := fun _ => fun
  | [d1, d2, d3] => { results := [.lit (.bool true)], args := [d1, d2, d3] }
  | _ => none }
def pcurveOffRow : OpenClaim := { program := "ytiofnmmggblcgaa", sum := "e093c679d97f8128ca488105360b1e27aea12ffd02a81bd283579acaa757101e", func := "halberd/halberdlaw11.PcurveOff", spec := "pcurveOff", inPlace := ["math/bits.Add64", "math/bits.Sub64"], apart := false }
def PcurveOffSaid : Prop := pcurveOffRow.holds Try.pinned (OpenSpec.ofChange pcurveOffSpec)

/-- ITS FALSE NEIGHBOUR: 'it returns false'. Refute it at one input. -/
def pcurveOffWrong : ChangeSpec := { name := "pcurveOff", fn := fun _ => fun
  | [d1, d2, d3] => { results := [.lit (.bool false)], args := [d1, d2, d3] }
  | _ => none }
def PcurveOffWrongFalsely : Prop := pcurveOffRow.holds Try.pinned (OpenSpec.ofChange pcurveOffWrong)

/-- 'halberdlaw11.PcurveRow': WHATEVER THE INPUT: true; the input reads as it did. -/
def pcurveRowSpec : ChangeSpec := { name := "pcurveRow", fn := fun _ => fun
  | [d1, d2, d3] => { results := [.lit (.bool true)], args := [d1, d2, d3] }
  | _ => none }
def pcurveRowRow : OpenClaim := { program := "ytiofnmmggblcgaa", sum := "e093c679d97f8128ca488105360b1e27aea12ffd02a81bd283579acaa757101e", func := "halberd/halberdlaw11.PcurveRow", spec := "pcurveRow", inPlace := ["math/bits.Add64", "math/bits.Sub64"], apart := false }
def PcurveRowSaid : Prop := pcurveRowRow.holds Try.pinned (OpenSpec.ofChange pcurveRowSpec)

/-- ITS FALSE NEIGHBOUR: 'it returns false'. Refute it at one input. -/
def pcurveRowWrong : ChangeSpec := { name := "pcurveRow", fn := fun _ => fun
  | [d1, d2, d3] => { results := [.lit (.bool false)], args := [d1, d2, d3] }
  | _ => none }
def PcurveRowWrongFalsely : Prop := pcurveRowRow.holds Try.pinned (OpenSpec.ofChange pcurveRowWrong)

/-- 'halberdlaw11.PcurveForms': WHATEVER THE INPUT: true; the input reads as it did. -/
def pcurveFormsSpec : ChangeSpec := { name := "pcurveForms", fn := fun _ => fun
  | [d1, d2] => { results := [.lit (.bool true)], args := [d1, d2] }
  | _ => none }
def pcurveFormsRow : OpenClaim := { program := "ytiofnmmggblcgaa", sum := "e093c679d97f8128ca488105360b1e27aea12ffd02a81bd283579acaa757101e", func := "halberd/halberdlaw11.PcurveForms", spec := "pcurveForms", inPlace := ["math/bits.Add64", "math/bits.Sub64"], apart := false }
def PcurveFormsSaid : Prop := pcurveFormsRow.holds Try.pinned (OpenSpec.ofChange pcurveFormsSpec)

/-- ITS FALSE NEIGHBOUR: 'it returns false'. Refute it at one input. -/
def pcurveFormsWrong : ChangeSpec := { name := "pcurveForms", fn := fun _ => fun
  | [d1, d2] => { results := [.lit (.bool false)], args := [d1, d2] }
  | _ => none }
def PcurveFormsWrongFalsely : Prop := pcurveFormsRow.holds Try.pinned (OpenSpec.ofChange pcurveFormsWrong)

/-- 'halberdlaw12.Ecdsas': WHATEVER THE INPUT: true; the input reads as it did. -/
def ecdsasSpec : ChangeSpec := { name := "ecdsas", fn := fun _ => fun
  | [d1, d2, d3, d4, d5] => { results := [.lit (.bool true)], args := [d1, d2, d3, d4, d5] }
  | _ => none }
def ecdsasRow : OpenClaim := { program := "ytiofnmmggblcgaa", sum := "e093c679d97f8128ca488105360b1e27aea12ffd02a81bd283579acaa757101e", func := "halberd/halberdlaw12.Ecdsas", spec := "ecdsas", inPlace := ["math/bits.Add64", "math/bits.Sub64"], apart := false }
def EcdsasSaid : Prop := ecdsasRow.holds Try.pinned (OpenSpec.ofChange ecdsasSpec)

/-- ITS FALSE NEIGHBOUR: 'it returns false'. Refute it at one input. -/
def ecdsasWrong : ChangeSpec := { name := "ecdsas", fn := fun _ => fun
  | [d1, d2, d3, d4, d5] => { results := [.lit (.bool false)], args := [d1, d2, d3, d4, d5] }
  | _ => none }
def EcdsasWrongFalsely : Prop := ecdsasRow.holds Try.pinned (OpenSpec.ofChange ecdsasWrong)

/-- 'halberdlaw12.EcdsaBack': WHATEVER THE INPUT: true; the input reads as it did. -/
def ecdsaBackSpec : ChangeSpec := { name := "ecdsaBack", fn := fun _ => fun
  | [d1, d2, d3, d4] => { results := [.lit (.bool true)], args := [d1, d2, d3, d4] }
  | _ => none }
def ecdsaBackRow : OpenClaim := { program := "ytiofnmmggblcgaa", sum := "e093c679d97f8128ca488105360b1e27aea12ffd02a81bd283579acaa757101e", func := "halberd/halberdlaw12.EcdsaBack", spec := "ecdsaBack", inPlace := ["math/bits.Add64", "math/bits.Sub64"], apart := false }
def EcdsaBackSaid : Prop := ecdsaBackRow.holds Try.pinned (OpenSpec.ofChange ecdsaBackSpec)

/-- ITS FALSE NEIGHBOUR: 'it returns false'. Refute it at one input. -/
def ecdsaBackWrong : ChangeSpec := { name := "ecdsaBack", fn := fun _ => fun
  | [d1, d2, d3, d4] => { results := [.lit (.bool false)], args := [d1, d2, d3, d4] }
  | _ => none }
def EcdsaBackWrongFalsely : Prop := ecdsaBackRow.holds Try.pinned (OpenSpec.ofChange ecdsaBackWrong)

/-- 'halberdlaw12.EcdsaSpoilt': WHATEVER THE INPUT: true; the input reads as it did. -/
def ecdsaSpoiltSpec : ChangeSpec := { name := "ecdsaSpoilt", fn := fun _ => fun
  | [d1, d2, d3, d4] => { results := [.lit (.bool true)], args := [d1, d2, d3, d4] }
  | _ => none }
def ecdsaSpoiltRow : OpenClaim := { program := "ytiofnmmggblcgaa", sum := "e093c679d97f8128ca488105360b1e27aea12ffd02a81bd283579acaa757101e", func := "halberd/halberdlaw12.EcdsaSpoilt", spec := "ecdsaSpoilt", inPlace := ["math/bits.Add64", "math/bits.Sub64"], apart := false }
def EcdsaSpoiltSaid : Prop := ecdsaSpoiltRow.holds Try.pinned (OpenSpec.ofChange ecdsaSpoiltSpec)

/-- ITS FALSE NEIGHBOUR: 'it returns false'. Refute it at one input. -/
def ecdsaSpoiltWrong : ChangeSpec := { name := "ecdsaSpoilt", fn := fun _ => fun
  | [d1, d2, d3, d4] => { results := [.lit (.bool false)], args := [d1, d2, d3, d4] }
  | _ => none }
def EcdsaSpoiltWrongFalsely : Prop := ecdsaSpoiltRow.holds Try.pinned (OpenSpec.ofChange ecdsaSpoiltWrong)

/-- 'halberdlaw12.EcdsaForms': WHATEVER THE INPUT: true; the input reads as it did. -/
def ecdsaFormsSpec : ChangeSpec := { name := "ecdsaForms", fn := fun _ => fun
  | [d1, d2, d3] => { results := [.lit (.bool true)], args := [d1, d2, d3] }
  | _ => none }
def ecdsaFormsRow : OpenClaim := { program := "ytiofnmmggblcgaa", sum := "e093c679d97f8128ca488105360b1e27aea12ffd02a81bd283579acaa757101e", func := "halberd/halberdlaw12.EcdsaForms", spec := "ecdsaForms", inPlace := ["math/bits.Add64", "math/bits.Sub64"], apart := false }
def EcdsaFormsSaid : Prop := ecdsaFormsRow.holds Try.pinned (OpenSpec.ofChange ecdsaFormsSpec)

/-- ITS FALSE NEIGHBOUR: 'it returns false'. Refute it at one input. -/
def ecdsaFormsWrong : ChangeSpec := { name := "ecdsaForms", fn := fun _ => fun
  | [d1, d2, d3] => { results := [.lit (.bool false)], args := [d1, d2, d3] }
  | _ => none }
def EcdsaFormsWrongFalsely : Prop := ecdsaFormsRow.holds Try.pinned (OpenSpec.ofChange ecdsaFormsWrong)

/-- 'halberdlaw12.EcdsaTwins': WHATEVER THE INPUT: true; the input reads as it did. -/
def ecdsaTwinsSpec : ChangeSpec := { name := "ecdsaTwins", fn := fun _ => fun
  | [d1, d2, d3, d4] => { results := [.lit (.bool true)], args := [d1, d2, d3, d4] }
  | _ => none }
def ecdsaTwinsRow : OpenClaim := { program := "ytiofnmmggblcgaa", sum := "e093c679d97f8128ca488105360b1e27aea12ffd02a81bd283579acaa757101e", func := "halberd/halberdlaw12.EcdsaTwins", spec := "ecdsaTwins", inPlace := ["math/bits.Add64", "math/bits.Sub64"], apart := false }
def EcdsaTwinsSaid : Prop := ecdsaTwinsRow.holds Try.pinned (OpenSpec.ofChange ecdsaTwinsSpec)

/-- ITS FALSE NEIGHBOUR: 'it returns false'. Refute it at one input. -/
def ecdsaTwinsWrong : ChangeSpec := { name := "ecdsaTwins", fn := fun _ => fun
  | [d1, d2, d3, d4] => { results := [.lit (.bool false)], args := [d1, d2, d3, d4] }
  | _ => none }
def EcdsaTwinsWrongFalsely : Prop := ecdsaTwinsRow.holds Try.pinned (OpenSpec.ofChange ecdsaTwinsWrong)

/- THE SECOND FORM. 'bulk': how many values and letters a reading holds, each counted each time it is reached (what is shared counts as often as it is met; a slice's spare places count too). A statement '..UptoSaid' is the law's where the arguments, and the package variables that the reading takes, are together of bulk at most 1048576: NARROWER than '..Said'. Prove '..Said' where nothing that the law and all that it calls make is longer than what came in: it says more and counts as full. Else prove '..UptoSaid'. A law counts once. -/
mutual
def uptoBulk {H : Type} : DataW H → Nat
  | .lit (.string bytes) => bytes.length + 1
  | .lit _ => 1
  | .nil => 1
  | .ptr d => uptoBulk d + 1
  | .slice elems spare => uptoBulkAll elems + uptoBulkAll spare + 1
  | .agg parts => uptoBulkAll parts + 1
  | .iface _ d => uptoBulk d + 1
  | .map entries => uptoBulkEntries entries + 1
  | .held _ => 1
def uptoBulkAll {H : Type} : List (DataW H) → Nat
  | [] => 0
  | d :: r => uptoBulk d + uptoBulkAll r
def uptoBulkEntries {H : Type} : List (Lit × DataW H) → Nat
  | [] => 0
  | x :: r => uptoBulkEntry x + uptoBulkEntries r
def uptoBulkEntry {H : Type} : Lit × DataW H → Nat
  | (.string bytes, d) => bytes.length + uptoBulk d + 1
  | (_, d) => uptoBulk d + 1
 end
def uptoSmall : (H : Type) → List (DataW H) → Bool := fun _ ds => decide (uptoBulkAll ds ≤ 1048576)
def OpenSpec.upto (s : _root_.Go.ChangeSpec) : _root_.Go.OpenSpec := { _root_.Go.OpenSpec.ofChange s with cond := some uptoSmall }

/-- 'halberdlaw11.Pcurves', WHERE WHAT IT READS IS OF BULK AT MOST 1048576: true; the input reads as it did. -/
def pcurvesUptoRow : OpenClaim := { program := "ytiofnmmggblcgaa", sum := "e093c679d97f8128ca488105360b1e27aea12ffd02a81bd283579acaa757101e", func := "halberd/halberdlaw11.Pcurves", spec := "pcurves", inPlace := ["math/bits.Add64", "math/bits.Sub64"], apart := false, narrowed := true }
def PcurvesUptoSaid : Prop := pcurvesUptoRow.holds Try.pinned (OpenSpec.upto pcurvesSpec)

/-- 'halberdlaw11.PcurveSums', WHERE WHAT IT READS IS OF BULK AT MOST 1048576: true; the input reads as it did. -/
def pcurveSumsUptoRow : OpenClaim := { program := "ytiofnmmggblcgaa", sum := "e093c679d97f8128ca488105360b1e27aea12ffd02a81bd283579acaa757101e", func := "halberd/halberdlaw11.PcurveSums", spec := "pcurveSums", inPlace := ["math/bits.Add64", "math/bits.Sub64"], apart := false, narrowed := true }
def PcurveSumsUptoSaid : Prop := pcurveSumsUptoRow.holds Try.pinned (OpenSpec.upto pcurveSumsSpec)

/-- 'halberdlaw11.PcurveOff', WHERE WHAT IT READS IS OF BULK AT MOST 1048576: true; the input reads as it did. -/
def pcurveOffUptoRow : OpenClaim := { program := "ytiofnmmggblcgaa", sum := "e093c679d97f8128ca488105360b1e27aea12ffd02a81bd283579acaa757101e", func := "halberd/halberdlaw11.PcurveOff", spec := "pcurveOff", inPlace := ["math/bits.Add64", "math/bits.Sub64"], apart := false, narrowed := true }
def PcurveOffUptoSaid : Prop := pcurveOffUptoRow.holds Try.pinned (OpenSpec.upto pcurveOffSpec)

/-- 'halberdlaw11.PcurveRow', WHERE WHAT IT READS IS OF BULK AT MOST 1048576: true; the input reads as it did. -/
def pcurveRowUptoRow : OpenClaim := { program := "ytiofnmmggblcgaa", sum := "e093c679d97f8128ca488105360b1e27aea12ffd02a81bd283579acaa757101e", func := "halberd/halberdlaw11.PcurveRow", spec := "pcurveRow", inPlace := ["math/bits.Add64", "math/bits.Sub64"], apart := false, narrowed := true }
def PcurveRowUptoSaid : Prop := pcurveRowUptoRow.holds Try.pinned (OpenSpec.upto pcurveRowSpec)

/-- 'halberdlaw11.PcurveForms', WHERE WHAT IT READS IS OF BULK AT MOST 1048576: true; the input reads as it did. -/
def pcurveFormsUptoRow : OpenClaim := { program := "ytiofnmmggblcgaa", sum := "e093c679d97f8128ca488105360b1e27aea12ffd02a81bd283579acaa757101e", func := "halberd/halberdlaw11.PcurveForms", spec := "pcurveForms", inPlace := ["math/bits.Add64", "math/bits.Sub64"], apart := false, narrowed := true }
def PcurveFormsUptoSaid : Prop := pcurveFormsUptoRow.holds Try.pinned (OpenSpec.upto pcurveFormsSpec)

/-- 'halberdlaw12.Ecdsas', WHERE WHAT IT READS IS OF BULK AT MOST 1048576: true; the input reads as it did. -/
def ecdsasUptoRow : OpenClaim := { program := "ytiofnmmggblcgaa", sum := "e093c679d97f8128ca488105360b1e27aea12ffd02a81bd283579acaa757101e", func := "halberd/halberdlaw12.Ecdsas", spec := "ecdsas", inPlace := ["math/bits.Add64", "math/bits.Sub64"], apart := false, narrowed := true }
def EcdsasUptoSaid : Prop := ecdsasUptoRow.holds Try.pinned (OpenSpec.upto ecdsasSpec)

/-- 'halberdlaw12.EcdsaBack', WHERE WHAT IT READS IS OF BULK AT MOST 1048576: true; the input reads as it did. -/
def ecdsaBackUptoRow : OpenClaim := { program := "ytiofnmmggblcgaa", sum := "e093c679d97f8128ca488105360b1e27aea12ffd02a81bd283579acaa757101e", func := "halberd/halberdlaw12.EcdsaBack", spec := "ecdsaBack", inPlace := ["math/bits.Add64", "math/bits.Sub64"], apart := false, narrowed := true }
def EcdsaBackUptoSaid : Prop := ecdsaBackUptoRow.holds Try.pinned (OpenSpec.upto ecdsaBackSpec)

/-- 'halberdlaw12.EcdsaSpoilt', WHERE WHAT IT READS IS OF BULK AT MOST 1048576: true; the input reads as it did. -/
def ecdsaSpoiltUptoRow : OpenClaim := { program := "ytiofnmmggblcgaa", sum := "e093c679d97f8128ca488105360b1e27aea12ffd02a81bd283579acaa757101e", func := "halberd/halberdlaw12.EcdsaSpoilt", spec := "ecdsaSpoilt", inPlace := ["math/bits.Add64", "math/bits.Sub64"], apart := false, narrowed := true }
def EcdsaSpoiltUptoSaid : Prop := ecdsaSpoiltUptoRow.holds Try.pinned (OpenSpec.upto ecdsaSpoiltSpec)

/-- 'halberdlaw12.EcdsaForms', WHERE WHAT IT READS IS OF BULK AT MOST 1048576: true; the input reads as it did. -/
def ecdsaFormsUptoRow : OpenClaim := { program := "ytiofnmmggblcgaa", sum := "e093c679d97f8128ca488105360b1e27aea12ffd02a81bd283579acaa757101e", func := "halberd/halberdlaw12.EcdsaForms", spec := "ecdsaForms", inPlace := ["math/bits.Add64", "math/bits.Sub64"], apart := false, narrowed := true }
def EcdsaFormsUptoSaid : Prop := ecdsaFormsUptoRow.holds Try.pinned (OpenSpec.upto ecdsaFormsSpec)

/-- 'halberdlaw12.EcdsaTwins', WHERE WHAT IT READS IS OF BULK AT MOST 1048576: true; the input reads as it did. -/
def ecdsaTwinsUptoRow : OpenClaim := { program := "ytiofnmmggblcgaa", sum := "e093c679d97f8128ca488105360b1e27aea12ffd02a81bd283579acaa757101e", func := "halberd/halberdlaw12.EcdsaTwins", spec := "ecdsaTwins", inPlace := ["math/bits.Add64", "math/bits.Sub64"], apart := false, narrowed := true }
def EcdsaTwinsUptoSaid : Prop := ecdsaTwinsUptoRow.holds Try.pinned (OpenSpec.upto ecdsaTwinsSpec)

end Rows
end Go.Proofs.Ytiofnmmggblcgaa

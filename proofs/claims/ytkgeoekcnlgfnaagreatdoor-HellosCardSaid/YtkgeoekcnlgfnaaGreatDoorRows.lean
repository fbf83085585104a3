/-
  NARROWER THAN 'FOR EVERY INPUT', by the rows' own cells (each row's printed sentence says how): Hellos: laid · HelloChosen: laid · HelloForms: laid · HelloAges: laid · HelloOrder: laid · HelloRetries: laid · HelloPsks: laid.
  DERIVED. THE GIVEN ROWS OF THIS SEAT. 7 by the template 'for every input the law returns true; each argument reads behind the call as it read before'; 0 by the template 'total and deterministic' (their statements: YtkgeoekcnlgfnaaGreatDoorTotals.lean).
  GIVEN WITH THE SEED: the statements are not yours to turn. If you find one false, say at which input.
  Laid BY PROGRAM, IN A SANDBOX (cutbox-rows.mjs): the forced cells as the released guide's own fill.sh prints them over the translation bf9de12bc564a0b2… (all of the seat's roots in one cut). By AI agents, Wed Nov 11 2026. No macro, syntax, notation, axiom, sorry.
-/
import Derived.Test.YtkgeoekcnlgfnaaGreatDoorChecked
import GoSem.Claim
import GoSem.ClaimJoined
import GoSem.ClaimMapViews
import Derived.JoinedTies
import Derived.KernelRfl
namespace Go.Proofs.YtkgeoekcnlgfnaaGreatDoor
/- THE CELL 'sum', in the pinned program and in every row, IS THE sha256 OF THE DUMP (.gsa) THAT YtkgeoekcnlgfnaaGreatDoorProg.lean LOADS. Nothing in Lean hashes anything: it is a label: what it is worth is what the hold of that sum in a sandbox is worth. -/
noncomputable def Tryz.pinned : Pinned := { name := "ytkgeoekcnlgfnaagreatdoor", sum := "bf9de12bc564a0b216200d6f15b4f49defd4b62ad0f3554213700189a234f71c", checked := Tryz.checked }
namespace Rows
def none {H : Type} : Left H := { results := [], args := [] }

/- WHAT THE LISTED PACKAGE-LEVEL VARIABLES READ AS WHEN THE CALL BEGINS. Each datum BY PROGRAM (the guide's laid-datum.mjs) off the statement by which the dump's own 'gosem.cut.vars' lays the variable. In a bare row this is a premise. The card (YtkgeoekcnlgfnaaGreatDoorCards.lean) ties it to the program's text. -/
def laid_errors_errorType {H : Type} : DataW H := .iface "internal/reflectlite.rtype" (.agg [.ptr (.lit (.string [101, 114, 114, 111, 114]))])

/-- 'halberdlaw24.Hellos': WHATEVER THE INPUT: true; the input reads as it did. -/
def hellosSpec : ChangeSpec := { name := "hellos", fn := fun _ => fun
  | [d1, d2, d3, d4, d5, d6, d7] => { results := [.lit (.bool true)], args := [d1, d2, d3, d4, d5, d6, d7] }
  | _ => none }
def hellosRow : OpenClaim := { program := "ytkgeoekcnlgfnaagreatdoor", sum := "bf9de12bc564a0b216200d6f15b4f49defd4b62ad0f3554213700189a234f71c", func := "halberd/halberdlaw24.Hellos", spec := "hellos", inPlace := ["math/bits.Add64", "math/bits.Sub64", "internal/reflectlite.ValueOf", "(internal/reflectlite.Value).Type", "(internal/reflectlite.Value).IsNil", "internal/reflectlite.TypeOf", "(internal/reflectlite.Value).Elem", "(internal/reflectlite.Value).Set"], unfollowed := true, recurses := true, named := ["errors.errorType"], apart := false, laid := [("errors.errorType", laid_errors_errorType)] }
def HellosSaid : Prop := hellosRow.holds Tryz.pinned (OpenSpec.ofChange hellosSpec)

/-- ITS FALSE NEIGHBOUR: 'it returns false'. Refute it at one input. -/
def hellosWrong : ChangeSpec := { name := "hellos", fn := fun _ => fun
  | [d1, d2, d3, d4, d5, d6, d7] => { results := [.lit (.bool false)], args := [d1, d2, d3, d4, d5, d6, d7] }
  | _ => none }
def HellosWrongFalsely : Prop := hellosRow.holds Tryz.pinned (OpenSpec.ofChange hellosWrong)

/-- 'halberdlaw24.HelloChosen': WHATEVER THE INPUT: true; the input reads as it did. -/
def helloChosenSpec : ChangeSpec := { name := "helloChosen", fn := fun _ => fun
  | [d1, d2, d3, d4] => { results := [.lit (.bool true)], args := [d1, d2, d3, d4] }
  | _ => none }
def helloChosenRow : OpenClaim := { program := "ytkgeoekcnlgfnaagreatdoor", sum := "bf9de12bc564a0b216200d6f15b4f49defd4b62ad0f3554213700189a234f71c", func := "halberd/halberdlaw24.HelloChosen", spec := "helloChosen", inPlace := ["math/bits.Add64", "math/bits.Sub64", "internal/reflectlite.ValueOf", "(internal/reflectlite.Value).Type", "(internal/reflectlite.Value).IsNil", "internal/reflectlite.TypeOf", "(internal/reflectlite.Value).Elem", "(internal/reflectlite.Value).Set"], unfollowed := true, recurses := true, named := ["errors.errorType"], apart := false, laid := [("errors.errorType", laid_errors_errorType)] }
def HelloChosenSaid : Prop := helloChosenRow.holds Tryz.pinned (OpenSpec.ofChange helloChosenSpec)

/-- ITS FALSE NEIGHBOUR: 'it returns false'. Refute it at one input. -/
def helloChosenWrong : ChangeSpec := { name := "helloChosen", fn := fun _ => fun
  | [d1, d2, d3, d4] => { results := [.lit (.bool false)], args := [d1, d2, d3, d4] }
  | _ => none }
def HelloChosenWrongFalsely : Prop := helloChosenRow.holds Tryz.pinned (OpenSpec.ofChange helloChosenWrong)

/-- 'halberdlaw24.HelloForms': WHATEVER THE INPUT: true; the input reads as it did. -/
def helloFormsSpec : ChangeSpec := { name := "helloForms", fn := fun _ => fun
  | [d1, d2, d3] => { results := [.lit (.bool true)], args := [d1, d2, d3] }
  | _ => none }
def helloFormsRow : OpenClaim := { program := "ytkgeoekcnlgfnaagreatdoor", sum := "bf9de12bc564a0b216200d6f15b4f49defd4b62ad0f3554213700189a234f71c", func := "halberd/halberdlaw24.HelloForms", spec := "helloForms", inPlace := ["math/bits.Add64", "math/bits.Sub64", "internal/reflectlite.ValueOf", "(internal/reflectlite.Value).Type", "(internal/reflectlite.Value).IsNil", "internal/reflectlite.TypeOf", "(internal/reflectlite.Value).Elem", "(internal/reflectlite.Value).Set"], unfollowed := true, recurses := true, named := ["errors.errorType"], apart := false, laid := [("errors.errorType", laid_errors_errorType)] }
def HelloFormsSaid : Prop := helloFormsRow.holds Tryz.pinned (OpenSpec.ofChange helloFormsSpec)

/-- ITS FALSE NEIGHBOUR: 'it returns false'. Refute it at one input. -/
def helloFormsWrong : ChangeSpec := { name := "helloForms", fn := fun _ => fun
  | [d1, d2, d3] => { results := [.lit (.bool false)], args := [d1, d2, d3] }
  | _ => none }
def HelloFormsWrongFalsely : Prop := helloFormsRow.holds Tryz.pinned (OpenSpec.ofChange helloFormsWrong)

/-- 'halberdlaw24.HelloAges': WHATEVER THE INPUT: true; the input reads as it did. -/
def helloAgesSpec : ChangeSpec := { name := "helloAges", fn := fun _ => fun
  | [d1, d2, d3, d4] => { results := [.lit (.bool true)], args := [d1, d2, d3, d4] }
  | _ => none }
def helloAgesRow : OpenClaim := { program := "ytkgeoekcnlgfnaagreatdoor", sum := "bf9de12bc564a0b216200d6f15b4f49defd4b62ad0f3554213700189a234f71c", func := "halberd/halberdlaw24.HelloAges", spec := "helloAges", inPlace := ["math/bits.Add64", "math/bits.Sub64", "internal/reflectlite.ValueOf", "(internal/reflectlite.Value).Type", "(internal/reflectlite.Value).IsNil", "internal/reflectlite.TypeOf", "(internal/reflectlite.Value).Elem", "(internal/reflectlite.Value).Set"], unfollowed := true, recurses := true, named := ["errors.errorType"], apart := false, laid := [("errors.errorType", laid_errors_errorType)] }
def HelloAgesSaid : Prop := helloAgesRow.holds Tryz.pinned (OpenSpec.ofChange helloAgesSpec)

/-- ITS FALSE NEIGHBOUR: 'it returns false'. Refute it at one input. -/
def helloAgesWrong : ChangeSpec := { name := "helloAges", fn := fun _ => fun
  | [d1, d2, d3, d4] => { results := [.lit (.bool false)], args := [d1, d2, d3, d4] }
  | _ => none }
def HelloAgesWrongFalsely : Prop := helloAgesRow.holds Tryz.pinned (OpenSpec.ofChange helloAgesWrong)

/-- 'halberdlaw24.HelloOrder': WHATEVER THE INPUT: true; the input reads as it did. -/
def helloOrderSpec : ChangeSpec := { name := "helloOrder", fn := fun _ => fun
  | [d1, d2] => { results := [.lit (.bool true)], args := [d1, d2] }
  | _ => none }
def helloOrderRow : OpenClaim := { program := "ytkgeoekcnlgfnaagreatdoor", sum := "bf9de12bc564a0b216200d6f15b4f49defd4b62ad0f3554213700189a234f71c", func := "halberd/halberdlaw24.HelloOrder", spec := "helloOrder", inPlace := ["math/bits.Add64", "math/bits.Sub64", "internal/reflectlite.ValueOf", "(internal/reflectlite.Value).Type", "(internal/reflectlite.Value).IsNil", "internal/reflectlite.TypeOf", "(internal/reflectlite.Value).Elem", "(internal/reflectlite.Value).Set"], unfollowed := true, recurses := true, named := ["errors.errorType"], apart := false, laid := [("errors.errorType", laid_errors_errorType)] }
def HelloOrderSaid : Prop := helloOrderRow.holds Tryz.pinned (OpenSpec.ofChange helloOrderSpec)

/-- ITS FALSE NEIGHBOUR: 'it returns false'. Refute it at one input. -/
def helloOrderWrong : ChangeSpec := { name := "helloOrder", fn := fun _ => fun
  | [d1, d2] => { results := [.lit (.bool false)], args := [d1, d2] }
  | _ => none }
def HelloOrderWrongFalsely : Prop := helloOrderRow.holds Tryz.pinned (OpenSpec.ofChange helloOrderWrong)

/-- 'halberdlaw24.HelloRetries': WHATEVER THE INPUT: true; the input reads as it did. -/
def helloRetriesSpec : ChangeSpec := { name := "helloRetries", fn := fun _ => fun
  | [d1, d2] => { results := [.lit (.bool true)], args := [d1, d2] }
  | _ => none }
def helloRetriesRow : OpenClaim := { program := "ytkgeoekcnlgfnaagreatdoor", sum := "bf9de12bc564a0b216200d6f15b4f49defd4b62ad0f3554213700189a234f71c", func := "halberd/halberdlaw24.HelloRetries", spec := "helloRetries", inPlace := ["math/bits.Add64", "math/bits.Sub64", "internal/reflectlite.ValueOf", "(internal/reflectlite.Value).Type", "(internal/reflectlite.Value).IsNil", "internal/reflectlite.TypeOf", "(internal/reflectlite.Value).Elem", "(internal/reflectlite.Value).Set"], unfollowed := true, recurses := true, named := ["errors.errorType"], apart := false, laid := [("errors.errorType", laid_errors_errorType)] }
def HelloRetriesSaid : Prop := helloRetriesRow.holds Tryz.pinned (OpenSpec.ofChange helloRetriesSpec)

/-- ITS FALSE NEIGHBOUR: 'it returns false'. Refute it at one input. -/
def helloRetriesWrong : ChangeSpec := { name := "helloRetries", fn := fun _ => fun
  | [d1, d2] => { results := [.lit (.bool false)], args := [d1, d2] }
  | _ => none }
def HelloRetriesWrongFalsely : Prop := helloRetriesRow.holds Tryz.pinned (OpenSpec.ofChange helloRetriesWrong)

/-- 'halberdlaw24.HelloPsks': WHATEVER THE INPUT: true; the input reads as it did. -/
def helloPsksSpec : ChangeSpec := { name := "helloPsks", fn := fun _ => fun
  | [d1, d2, d3] => { results := [.lit (.bool true)], args := [d1, d2, d3] }
  | _ => none }
def helloPsksRow : OpenClaim := { program := "ytkgeoekcnlgfnaagreatdoor", sum := "bf9de12bc564a0b216200d6f15b4f49defd4b62ad0f3554213700189a234f71c", func := "halberd/halberdlaw24.HelloPsks", spec := "helloPsks", inPlace := ["math/bits.Add64", "math/bits.Sub64", "internal/reflectlite.ValueOf", "(internal/reflectlite.Value).Type", "(internal/reflectlite.Value).IsNil", "internal/reflectlite.TypeOf", "(internal/reflectlite.Value).Elem", "(internal/reflectlite.Value).Set"], unfollowed := true, recurses := true, named := ["errors.errorType"], apart := false, laid := [("errors.errorType", laid_errors_errorType)] }
def HelloPsksSaid : Prop := helloPsksRow.holds Tryz.pinned (OpenSpec.ofChange helloPsksSpec)

/-- ITS FALSE NEIGHBOUR: 'it returns false'. Refute it at one input. -/
def helloPsksWrong : ChangeSpec := { name := "helloPsks", fn := fun _ => fun
  | [d1, d2, d3] => { results := [.lit (.bool false)], args := [d1, d2, d3] }
  | _ => none }
def HelloPsksWrongFalsely : Prop := helloPsksRow.holds Tryz.pinned (OpenSpec.ofChange helloPsksWrong)

/- THE SECOND FORM. 'bulk': how many values and letters a reading holds, each counted each time it is reached (what is shared counts as often as it is met; a slice's spare places count too). A statement '..UptoSaid' is the law's where the arguments, and the package variables that the reading takes, are together of bulk at most 1048576: NARROWER than '..Said'. Prove '..Said' where nothing that the law and all that it calls make is longer than what came in: it says more and counts as full. Else prove '..UptoSaid'. A law counts once. -/
mutual
def uptoBulk {H : Type} : DataW H → Nat
  | .lit (.string bytes) => bytes.length + 1
  | .lit _ => 1
  | .nil => 1
  | .ptr d => uptoBulk d + 1
  | .slice elems spare => uptoBulkAll elems + uptoBulkAll spare + 1
  | .agg parts => uptoBulkAll parts + 1
  | .iface _ d => uptoBulk d + 1
  | .map entries => uptoBulkEntries entries + 1
  | .held _ => 1
def uptoBulkAll {H : Type} : List (DataW H) → Nat
  | [] => 0
  | d :: r => uptoBulk d + uptoBulkAll r
def uptoBulkEntries {H : Type} : List (Lit × DataW H) → Nat
  | [] => 0
  | x :: r => uptoBulkEntry x + uptoBulkEntries r
def uptoBulkEntry {H : Type} : Lit × DataW H → Nat
  | (.string bytes, d) => bytes.length + uptoBulk d + 1
  | (_, d) => uptoBulk d + 1
 end
def uptoSmall : (H : Type) → List (DataW H) → Bool := fun _ ds => decide (uptoBulkAll ds ≤ 1048576)
def OpenSpec.upto (s : _root_.Go.ChangeSpec) : _root_.Go.OpenSpec := { _root_.Go.OpenSpec.ofChange s with cond := some uptoSmall }

/-- 'halberdlaw24.Hellos', WHERE WHAT IT READS IS OF BULK AT MOST 1048576: true; the input reads as it did. -/
def hellosUptoRow : OpenClaim := { program := "ytkgeoekcnlgfnaagreatdoor", sum := "bf9de12bc564a0b216200d6f15b4f49defd4b62ad0f3554213700189a234f71c", func := "halberd/halberdlaw24.Hellos", spec := "hellos", inPlace := ["math/bits.Add64", "math/bits.Sub64", "internal/reflectlite.ValueOf", "(internal/reflectlite.Value).Type", "(internal/reflectlite.Value).IsNil", "internal/reflectlite.TypeOf", "(internal/reflectlite.Value).Elem", "(internal/reflectlite.Value).Set"], unfollowed := true, recurses := true, named := ["errors.errorType"], apart := false, laid := [("errors.errorType", laid_errors_errorType)], narrowed := true }
def HellosUptoSaid : Prop := hellosUptoRow.holds Tryz.pinned (OpenSpec.upto hellosSpec)

/-- 'halberdlaw24.HelloChosen', WHERE WHAT IT READS IS OF BULK AT MOST 1048576: true; the input reads as it did. -/
def helloChosenUptoRow : OpenClaim := { program := "ytkgeoekcnlgfnaagreatdoor", sum := "bf9de12bc564a0b216200d6f15b4f49defd4b62ad0f3554213700189a234f71c", func := "halberd/halberdlaw24.HelloChosen", spec := "helloChosen", inPlace := ["math/bits.Add64", "math/bits.Sub64", "internal/reflectlite.ValueOf", "(internal/reflectlite.Value).Type", "(internal/reflectlite.Value).IsNil", "internal/reflectlite.TypeOf", "(internal/reflectlite.Value).Elem", "(internal/reflectlite.Value).Set"], unfollowed := true, recurses := true, named := ["errors.errorType"], apart := false, laid := [("errors.errorType", laid_errors_errorType)], narrowed := true }
def HelloChosenUptoSaid : Prop := helloChosenUptoRow.holds Tryz.pinned (OpenSpec.upto helloChosenSpec)

/-- 'halberdlaw24.HelloForms', WHERE WHAT IT READS IS OF BULK AT MOST 1048576: true; the input reads as it did. -/
def helloFormsUptoRow : OpenClaim := { program := "ytkgeoekcnlgfnaagreatdoor", sum := "bf9de12bc564a0b216200d6f15b4f49defd4b62ad0f3554213700189a234f71c", func := "halberd/halberdlaw24.HelloForms", spec := "helloForms", inPlace := ["math/bits.Add64", "math/bits.Sub64", "internal/reflectlite.ValueOf", "(internal/reflectlite.Value).Type", "(internal/reflectlite.Value).IsNil", "internal/reflectlite.TypeOf", "(internal/reflectlite.Value).Elem", "(internal/reflectlite.Value).Set"], unfollowed := true, recurses := true, named := ["errors.errorType"], apart := false, laid := [("errors.errorType", laid_errors_errorType)], narrowed := true }
def HelloFormsUptoSaid : Prop := helloFormsUptoRow.holds Tryz.pinned (OpenSpec.upto helloFormsSpec)

/-- 'halberdlaw24.HelloAges', WHERE WHAT IT READS IS OF BULK AT MOST 1048576: true; the input reads as it did. -/
def helloAgesUptoRow : OpenClaim := { program := "ytkgeoekcnlgfnaagreatdoor", sum := "bf9de12bc564a0b216200d6f15b4f49defd4b62ad0f3554213700189a234f71c", func := "halberd/halberdlaw24.HelloAges", spec := "helloAges", inPlace := ["math/bits.Add64", "math/bits.Sub64", "internal/reflectlite.ValueOf", "(internal/reflectlite.Value).Type", "(internal/reflectlite.Value).IsNil", "internal/reflectlite.TypeOf", "(internal/reflectlite.Value).Elem", "(internal/reflectlite.Value).Set"], unfollowed := true, recurses := true, named := ["errors.errorType"], apart := false, laid := [("errors.errorType", laid_errors_errorType)], narrowed := true }
def HelloAgesUptoSaid : Prop := helloAgesUptoRow.holds Tryz.pinned (OpenSpec.upto helloAgesSpec)

/-- 'halberdlaw24.HelloOrder', WHERE WHAT IT READS IS OF BULK AT MOST 1048576: true; the input reads as it did. -/
def helloOrderUptoRow : OpenClaim := { program := "ytkgeoekcnlgfnaagreatdoor", sum := "bf9de12bc564a0b216200d6f15b4f49defd4b62ad0f3554213700189a234f71c", func := "halberd/halberdlaw24.HelloOrder", spec := "helloOrder", inPlace := ["math/bits.Add64", "math/bits.Sub64", "internal/reflectlite.ValueOf", "(internal/reflectlite.Value).Type", "(internal/reflectlite.Value).IsNil", "internal/reflectlite.TypeOf", "(internal/reflectlite.Value).Elem", "(internal/reflectlite.Value).Set"], unfollowed := true, recurses := true, named := ["errors.errorType"], apart := false, laid := [("errors.errorType", laid_errors_errorType)], narrowed := true }
def HelloOrderUptoSaid : Prop := helloOrderUptoRow.holds Tryz.pinned (OpenSpec.upto helloOrderSpec)

/-- 'halberdlaw24.HelloRetries', WHERE WHAT IT READS IS OF BULK AT MOST 1048576: true; the input reads as it did. -/
def helloRetriesUptoRow : OpenClaim := { program := "ytkgeoekcnlgfnaagreatdoor", sum := "bf9de12bc564a0b216200d6f15b4f49defd4b62ad0f3554213700189a234f71c", func := "halberd/halberdlaw24.HelloRetries", spec := "helloRetries", inPlace := ["math/bits.Add64", "math/bits.Sub64", "internal/reflectlite.ValueOf", "(internal/reflectlite.Value).Type", "(internal/reflectlite.Value).IsNil", "internal/reflectlite.TypeOf", "(internal/reflectlite.Value).Elem", "(internal/reflectlite.Value).Set"], unfollowed := true, recurses := true, named := ["errors.errorType"], apart := false, laid := [("errors.errorType", laid_errors_errorType)], narrowed := true }
def HelloRetriesUptoSaid : Prop := helloRetriesUptoRow.holds Tryz.pinned (OpenSpec.upto helloRetriesSpec)

/-- 'halberdlaw24.HelloPsks', WHERE WHAT IT READS IS OF BULK AT MOST 1048576: true; the input reads as it did. -/
def helloPsksUptoRow : OpenClaim := { program := "ytkgeoekcnlgfnaagreatdoor", sum := "bf9de12bc564a0b216200d6f15b4f49defd4b62ad0f3554213700189a234f71c", func := "halberd/halberdlaw24.HelloPsks", spec := "helloPsks", inPlace := ["math/bits.Add64", "math/bits.Sub64", "internal/reflectlite.ValueOf", "(internal/reflectlite.Value).Type", "(internal/reflectlite.Value).IsNil", "internal/reflectlite.TypeOf", "(internal/reflectlite.Value).Elem", "(internal/reflectlite.Value).Set"], unfollowed := true, recurses := true, named := ["errors.errorType"], apart := false, laid := [("errors.errorType", laid_errors_errorType)], narrowed := true }
def HelloPsksUptoSaid : Prop := helloPsksUptoRow.holds Tryz.pinned (OpenSpec.upto helloPsksSpec)

end Rows
end Go.Proofs.YtkgeoekcnlgfnaaGreatDoor

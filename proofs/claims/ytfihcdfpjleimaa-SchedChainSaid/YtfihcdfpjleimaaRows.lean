/-
  No cell of these rows narrows 'for every input' (looked for: loops, veiled, ifaces, maps, wideKeys, modest, calm, conditions, laid).
  DERIVED. THE GIVEN ROWS OF THIS SEAT. 6 by the template 'for every input the law returns true; each argument reads behind the call as it read before'; 0 by the template 'total and deterministic' (their statements: YtfihcdfpjleimaaTotals.lean).
  GIVEN WITH THE SEED: the statements are not yours to turn. If you find one false, say at which input.
  Laid BY PROGRAM, IN A SANDBOX (cutbox-rows.mjs): the forced cells as the released guide's own fill.sh prints them over the translation 7eab80f1f53de7b5… (all of the seat's roots in one cut). By AI agents, Wed Nov 11 2026. No macro, syntax, notation, axiom, sorry.
-/
import Derived.Test.YtfihcdfpjleimaaChecked
import GoSem.Claim
import GoSem.ClaimJoined
import GoSem.ClaimMapViews
import Derived.JoinedTies
import Derived.KernelRfl
namespace Go.Proofs.Ytfihcdfpjleimaa
/- THE CELL 'sum', in the pinned program and in every row, IS THE sha256 OF THE DUMP (.gsa) THAT YtfihcdfpjleimaaProg.lean LOADS. Nothing in Lean hashes anything: it is a label: what it is worth is what the hold of that sum in a sandbox is worth. -/
noncomputable def Try.pinned : Pinned := { name := "ytfihcdfpjleimaa", sum := "7eab80f1f53de7b50071f7a0225c02f99d02e756a395552c2bc917d80c50be34", checked := Try.checked }
namespace Rows
def none {H : Type} : Left H := { results := [], args := [] }

/-- 'halberdlaw19.Scheds': WHATEVER THE INPUT: true; the input reads as it did. -/
def schedsSpec : ChangeSpec := { name := "scheds", fn := fun _ => fun
  | [d1, d2, d3, d4] => { results := [.lit (.bool true)], args := [d1, d2, d3, d4] }
  | _ => none }
def schedsRow : OpenClaim := { program := "ytfihcdfpjleimaa", sum := "7eab80f1f53de7b50071f7a0225c02f99d02e756a395552c2bc917d80c50be34", func := "halberd/halberdlaw19.Scheds", spec := "scheds", apart := false }
def SchedsSaid : Prop := schedsRow.holds Try.pinned (OpenSpec.ofChange schedsSpec)

/-- ITS FALSE NEIGHBOUR: 'it returns false'. Refute it at one input. -/
def schedsWrong : ChangeSpec := { name := "scheds", fn := fun _ => fun
  | [d1, d2, d3, d4] => { results := [.lit (.bool false)], args := [d1, d2, d3, d4] }
  | _ => none }
def SchedsWrongFalsely : Prop := schedsRow.holds Try.pinned (OpenSpec.ofChange schedsWrong)

/-- 'halberdlaw19.SchedNexts': WHATEVER THE INPUT: true; the input reads as it did. -/
def schedNextsSpec : ChangeSpec := { name := "schedNexts", fn := fun _ => fun
  | [d1, d2, d3] => { results := [.lit (.bool true)], args := [d1, d2, d3] }
  | _ => none }
def schedNextsRow : OpenClaim := { program := "ytfihcdfpjleimaa", sum := "7eab80f1f53de7b50071f7a0225c02f99d02e756a395552c2bc917d80c50be34", func := "halberd/halberdlaw19.SchedNexts", spec := "schedNexts", apart := false }
def SchedNextsSaid : Prop := schedNextsRow.holds Try.pinned (OpenSpec.ofChange schedNextsSpec)

/-- ITS FALSE NEIGHBOUR: 'it returns false'. Refute it at one input. -/
def schedNextsWrong : ChangeSpec := { name := "schedNexts", fn := fun _ => fun
  | [d1, d2, d3] => { results := [.lit (.bool false)], args := [d1, d2, d3] }
  | _ => none }
def SchedNextsWrongFalsely : Prop := schedNextsRow.holds Try.pinned (OpenSpec.ofChange schedNextsWrong)

/-- 'halberdlaw19.SchedLabels': WHATEVER THE INPUT: true; the input reads as it did. -/
def schedLabelsSpec : ChangeSpec := { name := "schedLabels", fn := fun _ => fun
  | [d1, d2, d3] => { results := [.lit (.bool true)], args := [d1, d2, d3] }
  | _ => none }
def schedLabelsRow : OpenClaim := { program := "ytfihcdfpjleimaa", sum := "7eab80f1f53de7b50071f7a0225c02f99d02e756a395552c2bc917d80c50be34", func := "halberd/halberdlaw19.SchedLabels", spec := "schedLabels", apart := false }
def SchedLabelsSaid : Prop := schedLabelsRow.holds Try.pinned (OpenSpec.ofChange schedLabelsSpec)

/-- ITS FALSE NEIGHBOUR: 'it returns false'. Refute it at one input. -/
def schedLabelsWrong : ChangeSpec := { name := "schedLabels", fn := fun _ => fun
  | [d1, d2, d3] => { results := [.lit (.bool false)], args := [d1, d2, d3] }
  | _ => none }
def SchedLabelsWrongFalsely : Prop := schedLabelsRow.holds Try.pinned (OpenSpec.ofChange schedLabelsWrong)

/-- 'halberdlaw19.SchedMacs': WHATEVER THE INPUT: true; the input reads as it did. -/
def schedMacsSpec : ChangeSpec := { name := "schedMacs", fn := fun _ => fun
  | [d1, d2, d3, d4, d5] => { results := [.lit (.bool true)], args := [d1, d2, d3, d4, d5] }
  | _ => none }
def schedMacsRow : OpenClaim := { program := "ytfihcdfpjleimaa", sum := "7eab80f1f53de7b50071f7a0225c02f99d02e756a395552c2bc917d80c50be34", func := "halberd/halberdlaw19.SchedMacs", spec := "schedMacs", apart := false }
def SchedMacsSaid : Prop := schedMacsRow.holds Try.pinned (OpenSpec.ofChange schedMacsSpec)

/-- ITS FALSE NEIGHBOUR: 'it returns false'. Refute it at one input. -/
def schedMacsWrong : ChangeSpec := { name := "schedMacs", fn := fun _ => fun
  | [d1, d2, d3, d4, d5] => { results := [.lit (.bool false)], args := [d1, d2, d3, d4, d5] }
  | _ => none }
def SchedMacsWrongFalsely : Prop := schedMacsRow.holds Try.pinned (OpenSpec.ofChange schedMacsWrong)

/-- 'halberdlaw19.SchedForms': WHATEVER THE INPUT: true; the input reads as it did. -/
def schedFormsSpec : ChangeSpec := { name := "schedForms", fn := fun _ => fun
  | [d1, d2, d3] => { results := [.lit (.bool true)], args := [d1, d2, d3] }
  | _ => none }
def schedFormsRow : OpenClaim := { program := "ytfihcdfpjleimaa", sum := "7eab80f1f53de7b50071f7a0225c02f99d02e756a395552c2bc917d80c50be34", func := "halberd/halberdlaw19.SchedForms", spec := "schedForms", apart := false }
def SchedFormsSaid : Prop := schedFormsRow.holds Try.pinned (OpenSpec.ofChange schedFormsSpec)

/-- ITS FALSE NEIGHBOUR: 'it returns false'. Refute it at one input. -/
def schedFormsWrong : ChangeSpec := { name := "schedForms", fn := fun _ => fun
  | [d1, d2, d3] => { results := [.lit (.bool false)], args := [d1, d2, d3] }
  | _ => none }
def SchedFormsWrongFalsely : Prop := schedFormsRow.holds Try.pinned (OpenSpec.ofChange schedFormsWrong)

/-- 'halberdlaw19.SchedChain': WHATEVER THE INPUT: true; the input reads as it did. -/
def schedChainSpec : ChangeSpec := { name := "schedChain", fn := fun _ => fun
  | [d1, d2, d3, d4, d5] => { results := [.lit (.bool true)], args := [d1, d2, d3, d4, d5] }
  | _ => none }
def schedChainRow : OpenClaim := { program := "ytfihcdfpjleimaa", sum := "7eab80f1f53de7b50071f7a0225c02f99d02e756a395552c2bc917d80c50be34", func := "halberd/halberdlaw19.SchedChain", spec := "schedChain", apart := false }
def SchedChainSaid : Prop := schedChainRow.holds Try.pinned (OpenSpec.ofChange schedChainSpec)

/-- ITS FALSE NEIGHBOUR: 'it returns false'. Refute it at one input. -/
def schedChainWrong : ChangeSpec := { name := "schedChain", fn := fun _ => fun
  | [d1, d2, d3, d4, d5] => { results := [.lit (.bool false)], args := [d1, d2, d3, d4, d5] }
  | _ => none }
def SchedChainWrongFalsely : Prop := schedChainRow.holds Try.pinned (OpenSpec.ofChange schedChainWrong)

/- THE SECOND FORM. 'bulk': how many values and letters a reading holds, each counted each time it is reached (what is shared counts as often as it is met; a slice's spare places count too). A statement '..UptoSaid' is the law's where the arguments, and the package variables that the reading takes, are together of bulk at most 1048576: NARROWER than '..Said'. Prove '..Said' where nothing that the law and all that it calls make is longer than what came in: it says more and counts as full. Else prove '..UptoSaid'. A law counts once. -/
mutual
def uptoBulk {H : Type} : DataW H → Nat
  | .lit (.string bytes) => bytes.length + 1
  | .lit _ => 1
  | .nil => 1
  | .ptr d => uptoBulk d + 1
  | .slice elems spare => uptoBulkAll elems + uptoBulkAll spare + 1
  | .agg parts => uptoBulkAll parts + 1
  | .iface _ d => uptoBulk d + 1
  | .map entries => uptoBulkEntries entries + 1
  | .held _ => 1
def uptoBulkAll {H : Type} : List (DataW H) → Nat
  | [] => 0
  | d :: r => uptoBulk d + uptoBulkAll r
def uptoBulkEntries {H : Type} : List (Lit × DataW H) → Nat
  | [] => 0
  | x :: r => uptoBulkEntry x + uptoBulkEntries r
def uptoBulkEntry {H : Type} : Lit × DataW H → Nat
  | (.string bytes, d) => bytes.length + uptoBulk d + 1
  | (_, d) => uptoBulk d + 1
 end
def uptoSmall : (H : Type) → List (DataW H) → Bool := fun _ ds => decide (uptoBulkAll ds ≤ 1048576)
def OpenSpec.upto (s : _root_.Go.ChangeSpec) : _root_.Go.OpenSpec := { _root_.Go.OpenSpec.ofChange s with cond := some uptoSmall }

/-- 'halberdlaw19.Scheds', WHERE WHAT IT READS IS OF BULK AT MOST 1048576: true; the input reads as it did. -/
def schedsUptoRow : OpenClaim := { program := "ytfihcdfpjleimaa", sum := "7eab80f1f53de7b50071f7a0225c02f99d02e756a395552c2bc917d80c50be34", func := "halberd/halberdlaw19.Scheds", spec := "scheds", apart := false, narrowed := true }
def SchedsUptoSaid : Prop := schedsUptoRow.holds Try.pinned (OpenSpec.upto schedsSpec)

/-- 'halberdlaw19.SchedNexts', WHERE WHAT IT READS IS OF BULK AT MOST 1048576: true; the input reads as it did. -/
def schedNextsUptoRow : OpenClaim := { program := "ytfihcdfpjleimaa", sum := "7eab80f1f53de7b50071f7a0225c02f99d02e756a395552c2bc917d80c50be34", func := "halberd/halberdlaw19.SchedNexts", spec := "schedNexts", apart := false, narrowed := true }
def SchedNextsUptoSaid : Prop := schedNextsUptoRow.holds Try.pinned (OpenSpec.upto schedNextsSpec)

/-- 'halberdlaw19.SchedLabels', WHERE WHAT IT READS IS OF BULK AT MOST 1048576: true; the input reads as it did. -/
def schedLabelsUptoRow : OpenClaim := { program := "ytfihcdfpjleimaa", sum := "7eab80f1f53de7b50071f7a0225c02f99d02e756a395552c2bc917d80c50be34", func := "halberd/halberdlaw19.SchedLabels", spec := "schedLabels", apart := false, narrowed := true }
def SchedLabelsUptoSaid : Prop := schedLabelsUptoRow.holds Try.pinned (OpenSpec.upto schedLabelsSpec)

/-- 'halberdlaw19.SchedMacs', WHERE WHAT IT READS IS OF BULK AT MOST 1048576: true; the input reads as it did. -/
def schedMacsUptoRow : OpenClaim := { program := "ytfihcdfpjleimaa", sum := "7eab80f1f53de7b50071f7a0225c02f99d02e756a395552c2bc917d80c50be34", func := "halberd/halberdlaw19.SchedMacs", spec := "schedMacs", apart := false, narrowed := true }
def SchedMacsUptoSaid : Prop := schedMacsUptoRow.holds Try.pinned (OpenSpec.upto schedMacsSpec)

/-- 'halberdlaw19.SchedForms', WHERE WHAT IT READS IS OF BULK AT MOST 1048576: true; the input reads as it did. -/
def schedFormsUptoRow : OpenClaim := { program := "ytfihcdfpjleimaa", sum := "7eab80f1f53de7b50071f7a0225c02f99d02e756a395552c2bc917d80c50be34", func := "halberd/halberdlaw19.SchedForms", spec := "schedForms", apart := false, narrowed := true }
def SchedFormsUptoSaid : Prop := schedFormsUptoRow.holds Try.pinned (OpenSpec.upto schedFormsSpec)

/-- 'halberdlaw19.SchedChain', WHERE WHAT IT READS IS OF BULK AT MOST 1048576: true; the input reads as it did. -/
def schedChainUptoRow : OpenClaim := { program := "ytfihcdfpjleimaa", sum := "7eab80f1f53de7b50071f7a0225c02f99d02e756a395552c2bc917d80c50be34", func := "halberd/halberdlaw19.SchedChain", spec := "schedChain", apart := false, narrowed := true }
def SchedChainUptoSaid : Prop := schedChainUptoRow.holds Try.pinned (OpenSpec.upto schedChainSpec)

end Rows
end Go.Proofs.Ytfihcdfpjleimaa

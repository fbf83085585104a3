/-
  No cell of these rows narrows 'for every input' (looked for: loops, veiled, ifaces, maps, wideKeys, modest, calm, conditions, laid).
  DERIVED. THE GIVEN ROWS OF THIS SEAT. 3 by the template 'for every input the law returns true; each argument reads behind the call as it read before'; 0 by the template 'total and deterministic' (their statements: YtdhnelpiiobekaaTotals.lean).
  GIVEN WITH THE SEED: the statements are not yours to turn. If you find one false, say at which input.
  Laid BY PROGRAM, IN A SANDBOX (cutbox-rows.mjs): the forced cells as the released guide's own fill.sh prints them over the translation 5e308836763b7dd5… (all of the seat's roots in one cut). By AI agents, Wed Nov 11 2026. No macro, syntax, notation, axiom, sorry.
-/
import Derived.Test.YtdhnelpiiobekaaChecked
import GoSem.Claim
import GoSem.ClaimJoined
import GoSem.ClaimMapViews
import Derived.JoinedTies
import Derived.KernelRfl
namespace Go.Proofs.Ytdhnelpiiobekaa
/- THE CELL 'sum', in the pinned program and in every row, IS THE sha256 OF THE DUMP (.gsa) THAT YtdhnelpiiobekaaProg.lean LOADS. Nothing in Lean hashes anything: it is a label: what it is worth is what the hold of that sum in a sandbox is worth. -/
noncomputable def Try.pinned : Pinned := { name := "ytdhnelpiiobekaa", sum := "5e308836763b7dd5ad88ed9e76ff09adfa272e3635d0785bf2d4df48f6177fdd", checked := Try.checked }
namespace Rows
def none {H : Type} : Left H := { results := [], args := [] }

/-- 'halberdlaw4.Blocks': WHATEVER THE INPUT: true; the input reads as it did. -/
def blocksSpec : ChangeSpec := { name := "blocks", fn := fun _ => fun
  | [d1, d2] => { results := [.lit (.bool true)], args := [d1, d2] }
  | _ => none }
def blocksRow : OpenClaim := { program := "ytdhnelpiiobekaa", sum := "5e308836763b7dd5ad88ed9e76ff09adfa272e3635d0785bf2d4df48f6177fdd", func := "halberd/halberdlaw4.Blocks", spec := "blocks", apart := false }
def BlocksSaid : Prop := blocksRow.holds Try.pinned (OpenSpec.ofChange blocksSpec)

/-- ITS FALSE NEIGHBOUR: 'it returns false'. Refute it at one input. -/
def blocksWrong : ChangeSpec := { name := "blocks", fn := fun _ => fun
  | [d1, d2] => { results := [.lit (.bool false)], args := [d1, d2] }
  | _ => none }
def BlocksWrongFalsely : Prop := blocksRow.holds Try.pinned (OpenSpec.ofChange blocksWrong)

/-- 'halberdlaw5.Gcms': WHATEVER THE INPUT: true; the input reads as it did. -/
def gcmsSpec : ChangeSpec := { name := "gcms", fn := fun _ => fun
  | [d1, d2, d3, d4] => { results := [.lit (.bool true)], args := [d1, d2, d3, d4] }
  | _ => none }
def gcmsRow : OpenClaim := { program := "ytdhnelpiiobekaa", sum := "5e308836763b7dd5ad88ed9e76ff09adfa272e3635d0785bf2d4df48f6177fdd", func := "halberd/halberdlaw5.Gcms", spec := "gcms", apart := false }
def GcmsSaid : Prop := gcmsRow.holds Try.pinned (OpenSpec.ofChange gcmsSpec)

/-- ITS FALSE NEIGHBOUR: 'it returns false'. Refute it at one input. -/
def gcmsWrong : ChangeSpec := { name := "gcms", fn := fun _ => fun
  | [d1, d2, d3, d4] => { results := [.lit (.bool false)], args := [d1, d2, d3, d4] }
  | _ => none }
def GcmsWrongFalsely : Prop := gcmsRow.holds Try.pinned (OpenSpec.ofChange gcmsWrong)

/-- 'halberdlaw5.GcmForms': WHATEVER THE INPUT: true; the input reads as it did. -/
def gcmFormsSpec : ChangeSpec := { name := "gcmForms", fn := fun _ => fun
  | [d1, d2, d3, d4] => { results := [.lit (.bool true)], args := [d1, d2, d3, d4] }
  | _ => none }
def gcmFormsRow : OpenClaim := { program := "ytdhnelpiiobekaa", sum := "5e308836763b7dd5ad88ed9e76ff09adfa272e3635d0785bf2d4df48f6177fdd", func := "halberd/halberdlaw5.GcmForms", spec := "gcmForms", apart := false }
def GcmFormsSaid : Prop := gcmFormsRow.holds Try.pinned (OpenSpec.ofChange gcmFormsSpec)

/-- ITS FALSE NEIGHBOUR: 'it returns false'. Refute it at one input. -/
def gcmFormsWrong : ChangeSpec := { name := "gcmForms", fn := fun _ => fun
  | [d1, d2, d3, d4] => { results := [.lit (.bool false)], args := [d1, d2, d3, d4] }
  | _ => none }
def GcmFormsWrongFalsely : Prop := gcmFormsRow.holds Try.pinned (OpenSpec.ofChange gcmFormsWrong)

/- THE SECOND FORM. 'bulk': how many values and letters a reading holds, each counted each time it is reached (what is shared counts as often as it is met; a slice's spare places count too). A statement '..UptoSaid' is the law's where the arguments, and the package variables that the reading takes, are together of bulk at most 1048576: NARROWER than '..Said'. Prove '..Said' where nothing that the law and all that it calls make is longer than what came in: it says more and counts as full. Else prove '..UptoSaid'. A law counts once. -/
mutual
def uptoBulk {H : Type} : DataW H → Nat
  | .lit (.string bytes) => bytes.length + 1
  | .lit _ => 1
  | .nil => 1
  | .ptr d => uptoBulk d + 1
  | .slice elems spare => uptoBulkAll elems + uptoBulkAll spare + 1
  | .agg parts => uptoBulkAll parts + 1
  | .iface _ d => uptoBulk d + 1
  | .map entries => uptoBulkEntries entries + 1
  | .held _ => 1
def uptoBulkAll {H : Type} : List (DataW H) → Nat
  | [] => 0
  | d :: r => uptoBulk d + uptoBulkAll r
def uptoBulkEntries {H : Type} : List (Lit × DataW H) → Nat
  | [] => 0
  | x :: r => uptoBulkEntry x + uptoBulkEntries r
def uptoBulkEntry {H : Type} : Lit × DataW H → Nat
  | (.string bytes, d) => bytes.length + uptoBulk d + 1
  | (_, d) => uptoBulk d + 1
 end
def uptoSmall : (H : Type) → List (DataW H) → Bool := fun _ ds => decide (uptoBulkAll ds ≤ 1048576)
def OpenSpec.upto (s : _root_.Go.ChangeSpec) : _root_.Go.OpenSpec := { _root_.Go.OpenSpec.ofChange s with cond := some uptoSmall }

/-- 'halberdlaw4.Blocks', WHERE WHAT IT READS IS OF BULK AT MOST 1048576: true; the input reads as it did. -/
def blocksUptoRow : OpenClaim := { program := "ytdhnelpiiobekaa", sum := "5e308836763b7dd5ad88ed9e76ff09adfa272e3635d0785bf2d4df48f6177fdd", func := "halberd/halberdlaw4.Blocks", spec := "blocks", apart := false, narrowed := true }
def BlocksUptoSaid : Prop := blocksUptoRow.holds Try.pinned (OpenSpec.upto blocksSpec)

/-- 'halberdlaw5.Gcms', WHERE WHAT IT READS IS OF BULK AT MOST 1048576: true; the input reads as it did. -/
def gcmsUptoRow : OpenClaim := { program := "ytdhnelpiiobekaa", sum := "5e308836763b7dd5ad88ed9e76ff09adfa272e3635d0785bf2d4df48f6177fdd", func := "halberd/halberdlaw5.Gcms", spec := "gcms", apart := false, narrowed := true }
def GcmsUptoSaid : Prop := gcmsUptoRow.holds Try.pinned (OpenSpec.upto gcmsSpec)

/-- 'halberdlaw5.GcmForms', WHERE WHAT IT READS IS OF BULK AT MOST 1048576: true; the input reads as it did. -/
def gcmFormsUptoRow : OpenClaim := { program := "ytdhnelpiiobekaa", sum := "5e308836763b7dd5ad88ed9e76ff09adfa272e3635d0785bf2d4df48f6177fdd", func := "halberd/halberdlaw5.GcmForms", spec := "gcmForms", apart := false, narrowed := true }
def GcmFormsUptoSaid : Prop := gcmFormsUptoRow.holds Try.pinned (OpenSpec.upto gcmFormsSpec)

end Rows
end Go.Proofs.Ytdhnelpiiobekaa

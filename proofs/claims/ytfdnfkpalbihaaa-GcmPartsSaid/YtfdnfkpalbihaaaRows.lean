/-
  No cell of these rows narrows 'for every input' (looked for: loops, veiled, ifaces, maps, wideKeys, modest, calm, conditions, laid).
  DERIVED. THE GIVEN ROWS OF THIS SEAT. 20 by the template 'for every input the law returns true; each argument reads behind the call as it read before'; 0 by the template 'total and deterministic' (their statements: YtfdnfkpalbihaaaTotals.lean).
  GIVEN WITH THE SEED: the statements are not yours to turn. If you find one false, say at which input.
  Laid BY PROGRAM, IN A SANDBOX (cutbox-rows.mjs): the forced cells as the released guide's own fill.sh prints them over the translation 87dd0ff13dcbfeef… (all of the seat's roots in one cut). By AI agents, Wed Nov 11 2026. No macro, syntax, notation, axiom, sorry.
-/
import Derived.Test.YtfdnfkpalbihaaaChecked
import GoSem.Claim
import GoSem.ClaimJoined
import GoSem.ClaimMapViews
import Derived.JoinedTies
import Derived.KernelRfl
namespace Go.Proofs.Ytfdnfkpalbihaaa
/- THE CELL 'sum', in the pinned program and in every row, IS THE sha256 OF THE DUMP (.gsa) THAT YtfdnfkpalbihaaaProg.lean LOADS. Nothing in Lean hashes anything: it is a label: what it is worth is what the hold of that sum in a sandbox is worth. -/
noncomputable def Try.pinned : Pinned := { name := "ytfdnfkpalbihaaa", sum := "87dd0ff13dcbfeef059eca5999b5bdd77eba938a9b97f5f30b1bff22eaacc93e", checked := Try.checked }
namespace Rows
def none {H : Type} : Left H := { results := [], args := [] }

/-- 'halberdlaw4.Blocks': WHATEVER THE INPUT: true; the input reads as it did. -/
def blocksSpec : ChangeSpec := { name := "blocks", fn := fun _ => fun
  | [d1, d2] => { results := [.lit (.bool true)], args := [d1, d2] }
  | _ => none }
def blocksRow : OpenClaim := { program := "ytfdnfkpalbihaaa", sum := "87dd0ff13dcbfeef059eca5999b5bdd77eba938a9b97f5f30b1bff22eaacc93e", func := "halberd/halberdlaw4.Blocks", spec := "blocks", apart := false }
def BlocksSaid : Prop := blocksRow.holds Try.pinned (OpenSpec.ofChange blocksSpec)

/-- ITS FALSE NEIGHBOUR: 'it returns false'. Refute it at one input. -/
def blocksWrong : ChangeSpec := { name := "blocks", fn := fun _ => fun
  | [d1, d2] => { results := [.lit (.bool false)], args := [d1, d2] }
  | _ => none }
def BlocksWrongFalsely : Prop := blocksRow.holds Try.pinned (OpenSpec.ofChange blocksWrong)

/-- 'halberdlaw4.BlockBits': WHATEVER THE INPUT: true; the input reads as it did. -/
def blockBitsSpec : ChangeSpec := { name := "blockBits", fn := fun _ => fun
  | [d1, d2, d3] => { results := [.lit (.bool true)], args := [d1, d2, d3] }
  | _ => none }
def blockBitsRow : OpenClaim := { program := "ytfdnfkpalbihaaa", sum := "87dd0ff13dcbfeef059eca5999b5bdd77eba938a9b97f5f30b1bff22eaacc93e", func := "halberd/halberdlaw4.BlockBits", spec := "blockBits", apart := false }
def BlockBitsSaid : Prop := blockBitsRow.holds Try.pinned (OpenSpec.ofChange blockBitsSpec)

/-- ITS FALSE NEIGHBOUR: 'it returns false'. Refute it at one input. -/
def blockBitsWrong : ChangeSpec := { name := "blockBits", fn := fun _ => fun
  | [d1, d2, d3] => { results := [.lit (.bool false)], args := [d1, d2, d3] }
  | _ => none }
def BlockBitsWrongFalsely : Prop := blockBitsRow.holds Try.pinned (OpenSpec.ofChange blockBitsWrong)

/-- 'halberdlaw4.AesForms': WHATEVER THE INPUT: true; the input reads as it did. -/
def aesFormsSpec : ChangeSpec := { name := "aesForms", fn := fun _ => fun
  | [d1, d2] => { results := [.lit (.bool true)], args := [d1, d2] }
  | _ => none }
def aesFormsRow : OpenClaim := { program := "ytfdnfkpalbihaaa", sum := "87dd0ff13dcbfeef059eca5999b5bdd77eba938a9b97f5f30b1bff22eaacc93e", func := "halberd/halberdlaw4.AesForms", spec := "aesForms", apart := false }
def AesFormsSaid : Prop := aesFormsRow.holds Try.pinned (OpenSpec.ofChange aesFormsSpec)

/-- ITS FALSE NEIGHBOUR: 'it returns false'. Refute it at one input. -/
def aesFormsWrong : ChangeSpec := { name := "aesForms", fn := fun _ => fun
  | [d1, d2] => { results := [.lit (.bool false)], args := [d1, d2] }
  | _ => none }
def AesFormsWrongFalsely : Prop := aesFormsRow.holds Try.pinned (OpenSpec.ofChange aesFormsWrong)

/-- 'halberdlaw2.Shas': WHATEVER THE INPUT: true; the input reads as it did. -/
def shasSpec : ChangeSpec := { name := "shas", fn := fun _ => fun
  | [d1, d2] => { results := [.lit (.bool true)], args := [d1, d2] }
  | _ => none }
def shasRow : OpenClaim := { program := "ytfdnfkpalbihaaa", sum := "87dd0ff13dcbfeef059eca5999b5bdd77eba938a9b97f5f30b1bff22eaacc93e", func := "halberd/halberdlaw2.Shas", spec := "shas", apart := false }
def ShasSaid : Prop := shasRow.holds Try.pinned (OpenSpec.ofChange shasSpec)

/-- ITS FALSE NEIGHBOUR: 'it returns false'. Refute it at one input. -/
def shasWrong : ChangeSpec := { name := "shas", fn := fun _ => fun
  | [d1, d2] => { results := [.lit (.bool false)], args := [d1, d2] }
  | _ => none }
def ShasWrongFalsely : Prop := shasRow.holds Try.pinned (OpenSpec.ofChange shasWrong)

/-- 'halberdlaw2.ShaParts': WHATEVER THE INPUT: true; the input reads as it did. -/
def shaPartsSpec : ChangeSpec := { name := "shaParts", fn := fun _ => fun
  | [d1, d2, d3] => { results := [.lit (.bool true)], args := [d1, d2, d3] }
  | _ => none }
def shaPartsRow : OpenClaim := { program := "ytfdnfkpalbihaaa", sum := "87dd0ff13dcbfeef059eca5999b5bdd77eba938a9b97f5f30b1bff22eaacc93e", func := "halberd/halberdlaw2.ShaParts", spec := "shaParts", apart := false }
def ShaPartsSaid : Prop := shaPartsRow.holds Try.pinned (OpenSpec.ofChange shaPartsSpec)

/-- ITS FALSE NEIGHBOUR: 'it returns false'. Refute it at one input. -/
def shaPartsWrong : ChangeSpec := { name := "shaParts", fn := fun _ => fun
  | [d1, d2, d3] => { results := [.lit (.bool false)], args := [d1, d2, d3] }
  | _ => none }
def ShaPartsWrongFalsely : Prop := shaPartsRow.holds Try.pinned (OpenSpec.ofChange shaPartsWrong)

/-- 'halberdlaw2.ShaEnds': WHATEVER THE INPUT: true; the input reads as it did. -/
def shaEndsSpec : ChangeSpec := { name := "shaEnds", fn := fun _ => fun
  | [d1, d2] => { results := [.lit (.bool true)], args := [d1, d2] }
  | _ => none }
def shaEndsRow : OpenClaim := { program := "ytfdnfkpalbihaaa", sum := "87dd0ff13dcbfeef059eca5999b5bdd77eba938a9b97f5f30b1bff22eaacc93e", func := "halberd/halberdlaw2.ShaEnds", spec := "shaEnds", apart := false }
def ShaEndsSaid : Prop := shaEndsRow.holds Try.pinned (OpenSpec.ofChange shaEndsSpec)

/-- ITS FALSE NEIGHBOUR: 'it returns false'. Refute it at one input. -/
def shaEndsWrong : ChangeSpec := { name := "shaEnds", fn := fun _ => fun
  | [d1, d2] => { results := [.lit (.bool false)], args := [d1, d2] }
  | _ => none }
def ShaEndsWrongFalsely : Prop := shaEndsRow.holds Try.pinned (OpenSpec.ofChange shaEndsWrong)

/-- 'halberdlaw2.ShaForks': WHATEVER THE INPUT: true; the input reads as it did. -/
def shaForksSpec : ChangeSpec := { name := "shaForks", fn := fun _ => fun
  | [d1, d2, d3, d4] => { results := [.lit (.bool true)], args := [d1, d2, d3, d4] }
  | _ => none }
def shaForksRow : OpenClaim := { program := "ytfdnfkpalbihaaa", sum := "87dd0ff13dcbfeef059eca5999b5bdd77eba938a9b97f5f30b1bff22eaacc93e", func := "halberd/halberdlaw2.ShaForks", spec := "shaForks", apart := false }
def ShaForksSaid : Prop := shaForksRow.holds Try.pinned (OpenSpec.ofChange shaForksSpec)

/-- ITS FALSE NEIGHBOUR: 'it returns false'. Refute it at one input. -/
def shaForksWrong : ChangeSpec := { name := "shaForks", fn := fun _ => fun
  | [d1, d2, d3, d4] => { results := [.lit (.bool false)], args := [d1, d2, d3, d4] }
  | _ => none }
def ShaForksWrongFalsely : Prop := shaForksRow.holds Try.pinned (OpenSpec.ofChange shaForksWrong)

/-- 'halberdlaw2.ShaKnown': WHATEVER THE INPUT: true; the input reads as it did. -/
def shaKnownSpec : ChangeSpec := { name := "shaKnown", fn := fun _ => fun
  | [] => { results := [.lit (.bool true)], args := [] }
  | _ => none }
def shaKnownRow : OpenClaim := { program := "ytfdnfkpalbihaaa", sum := "87dd0ff13dcbfeef059eca5999b5bdd77eba938a9b97f5f30b1bff22eaacc93e", func := "halberd/halberdlaw2.ShaKnown", spec := "shaKnown", apart := false }
def ShaKnownSaid : Prop := shaKnownRow.holds Try.pinned (OpenSpec.ofChange shaKnownSpec)

/-- ITS FALSE NEIGHBOUR: 'it returns false'. Refute it at one input. -/
def shaKnownWrong : ChangeSpec := { name := "shaKnown", fn := fun _ => fun
  | [] => { results := [.lit (.bool false)], args := [] }
  | _ => none }
def ShaKnownWrongFalsely : Prop := shaKnownRow.holds Try.pinned (OpenSpec.ofChange shaKnownWrong)

/-- 'halberdlaw2.ShaSplits': WHATEVER THE INPUT: true; the input reads as it did. -/
def shaSplitsSpec : ChangeSpec := { name := "shaSplits", fn := fun _ => fun
  | [d1, d2, d3] => { results := [.lit (.bool true)], args := [d1, d2, d3] }
  | _ => none }
def shaSplitsRow : OpenClaim := { program := "ytfdnfkpalbihaaa", sum := "87dd0ff13dcbfeef059eca5999b5bdd77eba938a9b97f5f30b1bff22eaacc93e", func := "halberd/halberdlaw2.ShaSplits", spec := "shaSplits", apart := false }
def ShaSplitsSaid : Prop := shaSplitsRow.holds Try.pinned (OpenSpec.ofChange shaSplitsSpec)

/-- ITS FALSE NEIGHBOUR: 'it returns false'. Refute it at one input. -/
def shaSplitsWrong : ChangeSpec := { name := "shaSplits", fn := fun _ => fun
  | [d1, d2, d3] => { results := [.lit (.bool false)], args := [d1, d2, d3] }
  | _ => none }
def ShaSplitsWrongFalsely : Prop := shaSplitsRow.holds Try.pinned (OpenSpec.ofChange shaSplitsWrong)

/-- 'halberdlaw5.Gcms': WHATEVER THE INPUT: true; the input reads as it did. -/
def gcmsSpec : ChangeSpec := { name := "gcms", fn := fun _ => fun
  | [d1, d2, d3, d4] => { results := [.lit (.bool true)], args := [d1, d2, d3, d4] }
  | _ => none }
def gcmsRow : OpenClaim := { program := "ytfdnfkpalbihaaa", sum := "87dd0ff13dcbfeef059eca5999b5bdd77eba938a9b97f5f30b1bff22eaacc93e", func := "halberd/halberdlaw5.Gcms", spec := "gcms", apart := false }
def GcmsSaid : Prop := gcmsRow.holds Try.pinned (OpenSpec.ofChange gcmsSpec)

/-- ITS FALSE NEIGHBOUR: 'it returns false'. Refute it at one input. -/
def gcmsWrong : ChangeSpec := { name := "gcms", fn := fun _ => fun
  | [d1, d2, d3, d4] => { results := [.lit (.bool false)], args := [d1, d2, d3, d4] }
  | _ => none }
def GcmsWrongFalsely : Prop := gcmsRow.holds Try.pinned (OpenSpec.ofChange gcmsWrong)

/-- 'halberdlaw5.GcmBack': WHATEVER THE INPUT: true; the input reads as it did. -/
def gcmBackSpec : ChangeSpec := { name := "gcmBack", fn := fun _ => fun
  | [d1, d2, d3, d4, d5] => { results := [.lit (.bool true)], args := [d1, d2, d3, d4, d5] }
  | _ => none }
def gcmBackRow : OpenClaim := { program := "ytfdnfkpalbihaaa", sum := "87dd0ff13dcbfeef059eca5999b5bdd77eba938a9b97f5f30b1bff22eaacc93e", func := "halberd/halberdlaw5.GcmBack", spec := "gcmBack", apart := false }
def GcmBackSaid : Prop := gcmBackRow.holds Try.pinned (OpenSpec.ofChange gcmBackSpec)

/-- ITS FALSE NEIGHBOUR: 'it returns false'. Refute it at one input. -/
def gcmBackWrong : ChangeSpec := { name := "gcmBack", fn := fun _ => fun
  | [d1, d2, d3, d4, d5] => { results := [.lit (.bool false)], args := [d1, d2, d3, d4, d5] }
  | _ => none }
def GcmBackWrongFalsely : Prop := gcmBackRow.holds Try.pinned (OpenSpec.ofChange gcmBackWrong)

/-- 'halberdlaw5.GhashSums': WHATEVER THE INPUT: true; the input reads as it did. -/
def ghashSumsSpec : ChangeSpec := { name := "ghashSums", fn := fun _ => fun
  | [d1, d2, d3] => { results := [.lit (.bool true)], args := [d1, d2, d3] }
  | _ => none }
def ghashSumsRow : OpenClaim := { program := "ytfdnfkpalbihaaa", sum := "87dd0ff13dcbfeef059eca5999b5bdd77eba938a9b97f5f30b1bff22eaacc93e", func := "halberd/halberdlaw5.GhashSums", spec := "ghashSums", apart := false }
def GhashSumsSaid : Prop := ghashSumsRow.holds Try.pinned (OpenSpec.ofChange ghashSumsSpec)

/-- ITS FALSE NEIGHBOUR: 'it returns false'. Refute it at one input. -/
def ghashSumsWrong : ChangeSpec := { name := "ghashSums", fn := fun _ => fun
  | [d1, d2, d3] => { results := [.lit (.bool false)], args := [d1, d2, d3] }
  | _ => none }
def GhashSumsWrongFalsely : Prop := ghashSumsRow.holds Try.pinned (OpenSpec.ofChange ghashSumsWrong)

/-- 'halberdlaw5.GcmForms': WHATEVER THE INPUT: true; the input reads as it did. -/
def gcmFormsSpec : ChangeSpec := { name := "gcmForms", fn := fun _ => fun
  | [d1, d2, d3, d4] => { results := [.lit (.bool true)], args := [d1, d2, d3, d4] }
  | _ => none }
def gcmFormsRow : OpenClaim := { program := "ytfdnfkpalbihaaa", sum := "87dd0ff13dcbfeef059eca5999b5bdd77eba938a9b97f5f30b1bff22eaacc93e", func := "halberd/halberdlaw5.GcmForms", spec := "gcmForms", apart := false }
def GcmFormsSaid : Prop := gcmFormsRow.holds Try.pinned (OpenSpec.ofChange gcmFormsSpec)

/-- ITS FALSE NEIGHBOUR: 'it returns false'. Refute it at one input. -/
def gcmFormsWrong : ChangeSpec := { name := "gcmForms", fn := fun _ => fun
  | [d1, d2, d3, d4] => { results := [.lit (.bool false)], args := [d1, d2, d3, d4] }
  | _ => none }
def GcmFormsWrongFalsely : Prop := gcmFormsRow.holds Try.pinned (OpenSpec.ofChange gcmFormsWrong)

/-- 'halberdlaw5.GcmTwins': WHATEVER THE INPUT: true; the input reads as it did. -/
def gcmTwinsSpec : ChangeSpec := { name := "gcmTwins", fn := fun _ => fun
  | [d1, d2, d3, d4] => { results := [.lit (.bool true)], args := [d1, d2, d3, d4] }
  | _ => none }
def gcmTwinsRow : OpenClaim := { program := "ytfdnfkpalbihaaa", sum := "87dd0ff13dcbfeef059eca5999b5bdd77eba938a9b97f5f30b1bff22eaacc93e", func := "halberd/halberdlaw5.GcmTwins", spec := "gcmTwins", apart := false }
def GcmTwinsSaid : Prop := gcmTwinsRow.holds Try.pinned (OpenSpec.ofChange gcmTwinsSpec)

/-- ITS FALSE NEIGHBOUR: 'it returns false'. Refute it at one input. -/
def gcmTwinsWrong : ChangeSpec := { name := "gcmTwins", fn := fun _ => fun
  | [d1, d2, d3, d4] => { results := [.lit (.bool false)], args := [d1, d2, d3, d4] }
  | _ => none }
def GcmTwinsWrongFalsely : Prop := gcmTwinsRow.holds Try.pinned (OpenSpec.ofChange gcmTwinsWrong)

/-- 'halberdlaw5.GcmParts': WHATEVER THE INPUT: true; the input reads as it did. -/
def gcmPartsSpec : ChangeSpec := { name := "gcmParts", fn := fun _ => fun
  | [d1, d2, d3, d4] => { results := [.lit (.bool true)], args := [d1, d2, d3, d4] }
  | _ => none }
def gcmPartsRow : OpenClaim := { program := "ytfdnfkpalbihaaa", sum := "87dd0ff13dcbfeef059eca5999b5bdd77eba938a9b97f5f30b1bff22eaacc93e", func := "halberd/halberdlaw5.GcmParts", spec := "gcmParts", apart := false }
def GcmPartsSaid : Prop := gcmPartsRow.holds Try.pinned (OpenSpec.ofChange gcmPartsSpec)

/-- ITS FALSE NEIGHBOUR: 'it returns false'. Refute it at one input. -/
def gcmPartsWrong : ChangeSpec := { name := "gcmParts", fn := fun _ => fun
  | [d1, d2, d3, d4] => { results := [.lit (.bool false)], args := [d1, d2, d3, d4] }
  | _ => none }
def GcmPartsWrongFalsely : Prop := gcmPartsRow.holds Try.pinned (OpenSpec.ofChange gcmPartsWrong)

/-- 'halberdlaw3.HkdfBegins': WHATEVER THE INPUT: true; the input reads as it did. -/
def hkdfBeginsSpec : ChangeSpec := { name := "hkdfBegins", fn := fun _ => fun
  | [d1, d2, d3, d4, d5] => { results := [.lit (.bool true)], args := [d1, d2, d3, d4, d5] }
  | _ => none }
def hkdfBeginsRow : OpenClaim := { program := "ytfdnfkpalbihaaa", sum := "87dd0ff13dcbfeef059eca5999b5bdd77eba938a9b97f5f30b1bff22eaacc93e", func := "halberd/halberdlaw3.HkdfBegins", spec := "hkdfBegins", apart := false }
def HkdfBeginsSaid : Prop := hkdfBeginsRow.holds Try.pinned (OpenSpec.ofChange hkdfBeginsSpec)

/-- ITS FALSE NEIGHBOUR: 'it returns false'. Refute it at one input. -/
def hkdfBeginsWrong : ChangeSpec := { name := "hkdfBegins", fn := fun _ => fun
  | [d1, d2, d3, d4, d5] => { results := [.lit (.bool false)], args := [d1, d2, d3, d4, d5] }
  | _ => none }
def HkdfBeginsWrongFalsely : Prop := hkdfBeginsRow.holds Try.pinned (OpenSpec.ofChange hkdfBeginsWrong)

/-- 'halberdlaw3.HkdfLabels': WHATEVER THE INPUT: true; the input reads as it did. -/
def hkdfLabelsSpec : ChangeSpec := { name := "hkdfLabels", fn := fun _ => fun
  | [d1, d2, d3, d4, d5] => { results := [.lit (.bool true)], args := [d1, d2, d3, d4, d5] }
  | _ => none }
def hkdfLabelsRow : OpenClaim := { program := "ytfdnfkpalbihaaa", sum := "87dd0ff13dcbfeef059eca5999b5bdd77eba938a9b97f5f30b1bff22eaacc93e", func := "halberd/halberdlaw3.HkdfLabels", spec := "hkdfLabels", apart := false }
def HkdfLabelsSaid : Prop := hkdfLabelsRow.holds Try.pinned (OpenSpec.ofChange hkdfLabelsSpec)

/-- ITS FALSE NEIGHBOUR: 'it returns false'. Refute it at one input. -/
def hkdfLabelsWrong : ChangeSpec := { name := "hkdfLabels", fn := fun _ => fun
  | [d1, d2, d3, d4, d5] => { results := [.lit (.bool false)], args := [d1, d2, d3, d4, d5] }
  | _ => none }
def HkdfLabelsWrongFalsely : Prop := hkdfLabelsRow.holds Try.pinned (OpenSpec.ofChange hkdfLabelsWrong)

/-- 'halberdlaw3.Hkdfs': WHATEVER THE INPUT: true; the input reads as it did. -/
def hkdfsSpec : ChangeSpec := { name := "hkdfs", fn := fun _ => fun
  | [d1, d2, d3, d4, d5] => { results := [.lit (.bool true)], args := [d1, d2, d3, d4, d5] }
  | _ => none }
def hkdfsRow : OpenClaim := { program := "ytfdnfkpalbihaaa", sum := "87dd0ff13dcbfeef059eca5999b5bdd77eba938a9b97f5f30b1bff22eaacc93e", func := "halberd/halberdlaw3.Hkdfs", spec := "hkdfs", apart := false }
def HkdfsSaid : Prop := hkdfsRow.holds Try.pinned (OpenSpec.ofChange hkdfsSpec)

/-- ITS FALSE NEIGHBOUR: 'it returns false'. Refute it at one input. -/
def hkdfsWrong : ChangeSpec := { name := "hkdfs", fn := fun _ => fun
  | [d1, d2, d3, d4, d5] => { results := [.lit (.bool false)], args := [d1, d2, d3, d4, d5] }
  | _ => none }
def HkdfsWrongFalsely : Prop := hkdfsRow.holds Try.pinned (OpenSpec.ofChange hkdfsWrong)

/-- 'halberdlaw3.HkdfKeys': WHATEVER THE INPUT: true; the input reads as it did. -/
def hkdfKeysSpec : ChangeSpec := { name := "hkdfKeys", fn := fun _ => fun
  | [d1, d2, d3, d4] => { results := [.lit (.bool true)], args := [d1, d2, d3, d4] }
  | _ => none }
def hkdfKeysRow : OpenClaim := { program := "ytfdnfkpalbihaaa", sum := "87dd0ff13dcbfeef059eca5999b5bdd77eba938a9b97f5f30b1bff22eaacc93e", func := "halberd/halberdlaw3.HkdfKeys", spec := "hkdfKeys", apart := false }
def HkdfKeysSaid : Prop := hkdfKeysRow.holds Try.pinned (OpenSpec.ofChange hkdfKeysSpec)

/-- ITS FALSE NEIGHBOUR: 'it returns false'. Refute it at one input. -/
def hkdfKeysWrong : ChangeSpec := { name := "hkdfKeys", fn := fun _ => fun
  | [d1, d2, d3, d4] => { results := [.lit (.bool false)], args := [d1, d2, d3, d4] }
  | _ => none }
def HkdfKeysWrongFalsely : Prop := hkdfKeysRow.holds Try.pinned (OpenSpec.ofChange hkdfKeysWrong)

/-- 'halberdlaw3.HkdfForms': WHATEVER THE INPUT: true; the input reads as it did. -/
def hkdfFormsSpec : ChangeSpec := { name := "hkdfForms", fn := fun _ => fun
  | [d1, d2, d3] => { results := [.lit (.bool true)], args := [d1, d2, d3] }
  | _ => none }
def hkdfFormsRow : OpenClaim := { program := "ytfdnfkpalbihaaa", sum := "87dd0ff13dcbfeef059eca5999b5bdd77eba938a9b97f5f30b1bff22eaacc93e", func := "halberd/halberdlaw3.HkdfForms", spec := "hkdfForms", apart := false }
def HkdfFormsSaid : Prop := hkdfFormsRow.holds Try.pinned (OpenSpec.ofChange hkdfFormsSpec)

/-- ITS FALSE NEIGHBOUR: 'it returns false'. Refute it at one input. -/
def hkdfFormsWrong : ChangeSpec := { name := "hkdfForms", fn := fun _ => fun
  | [d1, d2, d3] => { results := [.lit (.bool false)], args := [d1, d2, d3] }
  | _ => none }
def HkdfFormsWrongFalsely : Prop := hkdfFormsRow.holds Try.pinned (OpenSpec.ofChange hkdfFormsWrong)

/- THE SECOND FORM. 'bulk': how many values and letters a reading holds, each counted each time it is reached (what is shared counts as often as it is met; a slice's spare places count too). A statement '..UptoSaid' is the law's where the arguments, and the package variables that the reading takes, are together of bulk at most 1048576: NARROWER than '..Said'. Prove '..Said' where nothing that the law and all that it calls make is longer than what came in: it says more and counts as full. Else prove '..UptoSaid'. A law counts once. -/
mutual
def uptoBulk {H : Type} : DataW H → Nat
  | .lit (.string bytes) => bytes.length + 1
  | .lit _ => 1
  | .nil => 1
  | .ptr d => uptoBulk d + 1
  | .slice elems spare => uptoBulkAll elems + uptoBulkAll spare + 1
  | .agg parts => uptoBulkAll parts + 1
  | .iface _ d => uptoBulk d + 1
  | .map entries => uptoBulkEntries entries + 1
  | .held _ => 1
def uptoBulkAll {H : Type} : List (DataW H) → Nat
  | [] => 0
  | d :: r => uptoBulk d + uptoBulkAll r
def uptoBulkEntries {H : Type} : List (Lit × DataW H) → Nat
  | [] => 0
  | x :: r => uptoBulkEntry x + uptoBulkEntries r
def uptoBulkEntry {H : Type} : Lit × DataW H → Nat
  | (.string bytes, d) => bytes.length + uptoBulk d + 1
  | (_, d) => uptoBulk d + 1
 end
def uptoSmall : (H : Type) → List (DataW H) → Bool := fun _ ds => decide (uptoBulkAll ds ≤ 1048576)
def OpenSpec.upto (s : _root_.Go.ChangeSpec) : _root_.Go.OpenSpec := { _root_.Go.OpenSpec.ofChange s with cond := some uptoSmall }

/-- 'halberdlaw4.Blocks', WHERE WHAT IT READS IS OF BULK AT MOST 1048576: true; the input reads as it did. -/
def blocksUptoRow : OpenClaim := { program := "ytfdnfkpalbihaaa", sum := "87dd0ff13dcbfeef059eca5999b5bdd77eba938a9b97f5f30b1bff22eaacc93e", func := "halberd/halberdlaw4.Blocks", spec := "blocks", apart := false, narrowed := true }
def BlocksUptoSaid : Prop := blocksUptoRow.holds Try.pinned (OpenSpec.upto blocksSpec)

/-- 'halberdlaw4.BlockBits', WHERE WHAT IT READS IS OF BULK AT MOST 1048576: true; the input reads as it did. -/
def blockBitsUptoRow : OpenClaim := { program := "ytfdnfkpalbihaaa", sum := "87dd0ff13dcbfeef059eca5999b5bdd77eba938a9b97f5f30b1bff22eaacc93e", func := "halberd/halberdlaw4.BlockBits", spec := "blockBits", apart := false, narrowed := true }
def BlockBitsUptoSaid : Prop := blockBitsUptoRow.holds Try.pinned (OpenSpec.upto blockBitsSpec)

/-- 'halberdlaw4.AesForms', WHERE WHAT IT READS IS OF BULK AT MOST 1048576: true; the input reads as it did. -/
def aesFormsUptoRow : OpenClaim := { program := "ytfdnfkpalbihaaa", sum := "87dd0ff13dcbfeef059eca5999b5bdd77eba938a9b97f5f30b1bff22eaacc93e", func := "halberd/halberdlaw4.AesForms", spec := "aesForms", apart := false, narrowed := true }
def AesFormsUptoSaid : Prop := aesFormsUptoRow.holds Try.pinned (OpenSpec.upto aesFormsSpec)

/-- 'halberdlaw2.Shas', WHERE WHAT IT READS IS OF BULK AT MOST 1048576: true; the input reads as it did. -/
def shasUptoRow : OpenClaim := { program := "ytfdnfkpalbihaaa", sum := "87dd0ff13dcbfeef059eca5999b5bdd77eba938a9b97f5f30b1bff22eaacc93e", func := "halberd/halberdlaw2.Shas", spec := "shas", apart := false, narrowed := true }
def ShasUptoSaid : Prop := shasUptoRow.holds Try.pinned (OpenSpec.upto shasSpec)

/-- 'halberdlaw2.ShaParts', WHERE WHAT IT READS IS OF BULK AT MOST 1048576: true; the input reads as it did. -/
def shaPartsUptoRow : OpenClaim := { program := "ytfdnfkpalbihaaa", sum := "87dd0ff13dcbfeef059eca5999b5bdd77eba938a9b97f5f30b1bff22eaacc93e", func := "halberd/halberdlaw2.ShaParts", spec := "shaParts", apart := false, narrowed := true }
def ShaPartsUptoSaid : Prop := shaPartsUptoRow.holds Try.pinned (OpenSpec.upto shaPartsSpec)

/-- 'halberdlaw2.ShaEnds', WHERE WHAT IT READS IS OF BULK AT MOST 1048576: true; the input reads as it did. -/
def shaEndsUptoRow : OpenClaim := { program := "ytfdnfkpalbihaaa", sum := "87dd0ff13dcbfeef059eca5999b5bdd77eba938a9b97f5f30b1bff22eaacc93e", func := "halberd/halberdlaw2.ShaEnds", spec := "shaEnds", apart := false, narrowed := true }
def ShaEndsUptoSaid : Prop := shaEndsUptoRow.holds Try.pinned (OpenSpec.upto shaEndsSpec)

/-- 'halberdlaw2.ShaForks', WHERE WHAT IT READS IS OF BULK AT MOST 1048576: true; the input reads as it did. -/
def shaForksUptoRow : OpenClaim := { program := "ytfdnfkpalbihaaa", sum := "87dd0ff13dcbfeef059eca5999b5bdd77eba938a9b97f5f30b1bff22eaacc93e", func := "halberd/halberdlaw2.ShaForks", spec := "shaForks", apart := false, narrowed := true }
def ShaForksUptoSaid : Prop := shaForksUptoRow.holds Try.pinned (OpenSpec.upto shaForksSpec)

/-- 'halberdlaw2.ShaKnown', WHERE WHAT IT READS IS OF BULK AT MOST 1048576: true; the input reads as it did. -/
def shaKnownUptoRow : OpenClaim := { program := "ytfdnfkpalbihaaa", sum := "87dd0ff13dcbfeef059eca5999b5bdd77eba938a9b97f5f30b1bff22eaacc93e", func := "halberd/halberdlaw2.ShaKnown", spec := "shaKnown", apart := false, narrowed := true }
def ShaKnownUptoSaid : Prop := shaKnownUptoRow.holds Try.pinned (OpenSpec.upto shaKnownSpec)

/-- 'halberdlaw2.ShaSplits', WHERE WHAT IT READS IS OF BULK AT MOST 1048576: true; the input reads as it did. -/
def shaSplitsUptoRow : OpenClaim := { program := "ytfdnfkpalbihaaa", sum := "87dd0ff13dcbfeef059eca5999b5bdd77eba938a9b97f5f30b1bff22eaacc93e", func := "halberd/halberdlaw2.ShaSplits", spec := "shaSplits", apart := false, narrowed := true }
def ShaSplitsUptoSaid : Prop := shaSplitsUptoRow.holds Try.pinned (OpenSpec.upto shaSplitsSpec)

/-- 'halberdlaw5.Gcms', WHERE WHAT IT READS IS OF BULK AT MOST 1048576: true; the input reads as it did. -/
def gcmsUptoRow : OpenClaim := { program := "ytfdnfkpalbihaaa", sum := "87dd0ff13dcbfeef059eca5999b5bdd77eba938a9b97f5f30b1bff22eaacc93e", func := "halberd/halberdlaw5.Gcms", spec := "gcms", apart := false, narrowed := true }
def GcmsUptoSaid : Prop := gcmsUptoRow.holds Try.pinned (OpenSpec.upto gcmsSpec)

/-- 'halberdlaw5.GcmBack', WHERE WHAT IT READS IS OF BULK AT MOST 1048576: true; the input reads as it did. -/
def gcmBackUptoRow : OpenClaim := { program := "ytfdnfkpalbihaaa", sum := "87dd0ff13dcbfeef059eca5999b5bdd77eba938a9b97f5f30b1bff22eaacc93e", func := "halberd/halberdlaw5.GcmBack", spec := "gcmBack", apart := false, narrowed := true }
def GcmBackUptoSaid : Prop := gcmBackUptoRow.holds Try.pinned (OpenSpec.upto gcmBackSpec)

/-- 'halberdlaw5.GhashSums', WHERE WHAT IT READS IS OF BULK AT MOST 1048576: true; the input reads as it did. -/
def ghashSumsUptoRow : OpenClaim := { program := "ytfdnfkpalbihaaa", sum := "87dd0ff13dcbfeef059eca5999b5bdd77eba938a9b97f5f30b1bff22eaacc93e", func := "halberd/halberdlaw5.GhashSums", spec := "ghashSums", apart := false, narrowed := true }
def GhashSumsUptoSaid : Prop := ghashSumsUptoRow.holds Try.pinned (OpenSpec.upto ghashSumsSpec)

/-- 'halberdlaw5.GcmForms', WHERE WHAT IT READS IS OF BULK AT MOST 1048576: true; the input reads as it did. -/
def gcmFormsUptoRow : OpenClaim := { program := "ytfdnfkpalbihaaa", sum := "87dd0ff13dcbfeef059eca5999b5bdd77eba938a9b97f5f30b1bff22eaacc93e", func := "halberd/halberdlaw5.GcmForms", spec := "gcmForms", apart := false, narrowed := true }
def GcmFormsUptoSaid : Prop := gcmFormsUptoRow.holds Try.pinned (OpenSpec.upto gcmFormsSpec)

/-- 'halberdlaw5.GcmTwins', WHERE WHAT IT READS IS OF BULK AT MOST 1048576: true; the input reads as it did. -/
def gcmTwinsUptoRow : OpenClaim := { program := "ytfdnfkpalbihaaa", sum := "87dd0ff13dcbfeef059eca5999b5bdd77eba938a9b97f5f30b1bff22eaacc93e", func := "halberd/halberdlaw5.GcmTwins", spec := "gcmTwins", apart := false, narrowed := true }
def GcmTwinsUptoSaid : Prop := gcmTwinsUptoRow.holds Try.pinned (OpenSpec.upto gcmTwinsSpec)

/-- 'halberdlaw5.GcmParts', WHERE WHAT IT READS IS OF BULK AT MOST 1048576: true; the input reads as it did. -/
def gcmPartsUptoRow : OpenClaim := { program := "ytfdnfkpalbihaaa", sum := "87dd0ff13dcbfeef059eca5999b5bdd77eba938a9b97f5f30b1bff22eaacc93e", func := "halberd/halberdlaw5.GcmParts", spec := "gcmParts", apart := false, narrowed := true }
def GcmPartsUptoSaid : Prop := gcmPartsUptoRow.holds Try.pinned (OpenSpec.upto gcmPartsSpec)

/-- 'halberdlaw3.HkdfBegins', WHERE WHAT IT READS IS OF BULK AT MOST 1048576: true; the input reads as it did. -/
def hkdfBeginsUptoRow : OpenClaim := { program := "ytfdnfkpalbihaaa", sum := "87dd0ff13dcbfeef059eca5999b5bdd77eba938a9b97f5f30b1bff22eaacc93e", func := "halberd/halberdlaw3.HkdfBegins", spec := "hkdfBegins", apart := false, narrowed := true }
def HkdfBeginsUptoSaid : Prop := hkdfBeginsUptoRow.holds Try.pinned (OpenSpec.upto hkdfBeginsSpec)

/-- 'halberdlaw3.HkdfLabels', WHERE WHAT IT READS IS OF BULK AT MOST 1048576: true; the input reads as it did. -/
def hkdfLabelsUptoRow : OpenClaim := { program := "ytfdnfkpalbihaaa", sum := "87dd0ff13dcbfeef059eca5999b5bdd77eba938a9b97f5f30b1bff22eaacc93e", func := "halberd/halberdlaw3.HkdfLabels", spec := "hkdfLabels", apart := false, narrowed := true }
def HkdfLabelsUptoSaid : Prop := hkdfLabelsUptoRow.holds Try.pinned (OpenSpec.upto hkdfLabelsSpec)

/-- 'halberdlaw3.Hkdfs', WHERE WHAT IT READS IS OF BULK AT MOST 1048576: true; the input reads as it did. -/
def hkdfsUptoRow : OpenClaim := { program := "ytfdnfkpalbihaaa", sum := "87dd0ff13dcbfeef059eca5999b5bdd77eba938a9b97f5f30b1bff22eaacc93e", func := "halberd/halberdlaw3.Hkdfs", spec := "hkdfs", apart := false, narrowed := true }
def HkdfsUptoSaid : Prop := hkdfsUptoRow.holds Try.pinned (OpenSpec.upto hkdfsSpec)

/-- 'halberdlaw3.HkdfKeys', WHERE WHAT IT READS IS OF BULK AT MOST 1048576: true; the input reads as it did. -/
def hkdfKeysUptoRow : OpenClaim := { program := "ytfdnfkpalbihaaa", sum := "87dd0ff13dcbfeef059eca5999b5bdd77eba938a9b97f5f30b1bff22eaacc93e", func := "halberd/halberdlaw3.HkdfKeys", spec := "hkdfKeys", apart := false, narrowed := true }
def HkdfKeysUptoSaid : Prop := hkdfKeysUptoRow.holds Try.pinned (OpenSpec.upto hkdfKeysSpec)

/-- 'halberdlaw3.HkdfForms', WHERE WHAT IT READS IS OF BULK AT MOST 1048576: true; the input reads as it did. -/
def hkdfFormsUptoRow : OpenClaim := { program := "ytfdnfkpalbihaaa", sum := "87dd0ff13dcbfeef059eca5999b5bdd77eba938a9b97f5f30b1bff22eaacc93e", func := "halberd/halberdlaw3.HkdfForms", spec := "hkdfForms", apart := false, narrowed := true }
def HkdfFormsUptoSaid : Prop := hkdfFormsUptoRow.holds Try.pinned (OpenSpec.upto hkdfFormsSpec)

end Rows
end Go.Proofs.Ytfdnfkpalbihaaa

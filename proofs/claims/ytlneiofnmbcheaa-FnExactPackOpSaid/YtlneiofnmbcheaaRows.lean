/-
  No cell of these rows narrows 'for every input' (looked for: loops, veiled, ifaces, maps, wideKeys, modest, calm, conditions, laid).
  DERIVED. THE GIVEN ROWS OF THIS SEAT. 12 by the template 'for every input the law returns true; each argument reads behind the call as it read before'; 0 by the template 'total and deterministic' (their statements: YtlneiofnmbcheaaTotals.lean).
  GIVEN WITH THE SEED: the statements are not yours to turn. If you find one false, say at which input.
  Laid BY PROGRAM, IN A SANDBOX (cutbox-rows.mjs): the forced cells as the released guide's own fill.sh prints them over the translation 7fb13892c06e80b8… (all of the seat's roots in one cut). By AI agents, Wed Nov 11 2026. No macro, syntax, notation, axiom, sorry.
-/
import Derived.Test.YtlneiofnmbcheaaChecked
import GoSem.Claim
import GoSem.ClaimJoined
import GoSem.ClaimMapViews
import Derived.JoinedTies
import Derived.KernelRfl
namespace Go.Proofs.Ytlneiofnmbcheaa
/- THE CELL 'sum', in the pinned program and in every row, IS THE sha256 OF THE DUMP (.gsa) THAT YtlneiofnmbcheaaProg.lean LOADS. Nothing in Lean hashes anything: it is a label: what it is worth is what the hold of that sum in a sandbox is worth. -/
noncomputable def Try.pinned : Pinned := { name := "ytlneiofnmbcheaa", sum := "7fb13892c06e80b89cd6790defde94ea52a262c945300dcf3a4659188014334a", checked := Try.checked }
namespace Rows
def none {H : Type} : Left H := { results := [], args := [] }

/-- 'laws.FnExactSliceList': WHATEVER THE INPUT: true; the input reads as it did. -/
def fnExactSliceListSpec : ChangeSpec := { name := "fnExactSliceList", fn := fun _ => fun
  | [d1, d2, d3] => { results := [.lit (.bool true)], args := [d1, d2, d3] }
  | _ => none }
def fnExactSliceListRow : OpenClaim := { program := "ytlneiofnmbcheaa", sum := "7fb13892c06e80b89cd6790defde94ea52a262c945300dcf3a4659188014334a", func := "loop.example/g00447/laws.FnExactSliceList", spec := "fnExactSliceList", apart := false }
def FnExactSliceListSaid : Prop := fnExactSliceListRow.holds Try.pinned (OpenSpec.ofChange fnExactSliceListSpec)

/-- ITS FALSE NEIGHBOUR: 'it returns false'. Refute it at one input. -/
def fnExactSliceListWrong : ChangeSpec := { name := "fnExactSliceList", fn := fun _ => fun
  | [d1, d2, d3] => { results := [.lit (.bool false)], args := [d1, d2, d3] }
  | _ => none }
def FnExactSliceListWrongFalsely : Prop := fnExactSliceListRow.holds Try.pinned (OpenSpec.ofChange fnExactSliceListWrong)

/-- 'laws.FnExactFlagsText': WHATEVER THE INPUT: true; the input reads as it did. -/
def fnExactFlagsTextSpec : ChangeSpec := { name := "fnExactFlagsText", fn := fun _ => fun
  | [d] => { results := [.lit (.bool true)], args := [d] }
  | _ => none }
def fnExactFlagsTextRow : OpenClaim := { program := "ytlneiofnmbcheaa", sum := "7fb13892c06e80b89cd6790defde94ea52a262c945300dcf3a4659188014334a", func := "loop.example/g00447/laws.FnExactFlagsText", spec := "fnExactFlagsText", inPlace := ["internal/abi.NoEscape", "internal/bytealg.MakeNoZero"], apart := false }
def FnExactFlagsTextSaid : Prop := fnExactFlagsTextRow.holds Try.pinned (OpenSpec.ofChange fnExactFlagsTextSpec)

/-- ITS FALSE NEIGHBOUR: 'it returns false'. Refute it at one input. -/
def fnExactFlagsTextWrong : ChangeSpec := { name := "fnExactFlagsText", fn := fun _ => fun
  | [d] => { results := [.lit (.bool false)], args := [d] }
  | _ => none }
def FnExactFlagsTextWrongFalsely : Prop := fnExactFlagsTextRow.holds Try.pinned (OpenSpec.ofChange fnExactFlagsTextWrong)

/-- 'laws.FnExactParseFlags': WHATEVER THE INPUT: true; the input reads as it did. -/
def fnExactParseFlagsSpec : ChangeSpec := { name := "fnExactParseFlags", fn := fun _ => fun
  | [d] => { results := [.lit (.bool true)], args := [d] }
  | _ => none }
def fnExactParseFlagsRow : OpenClaim := { program := "ytlneiofnmbcheaa", sum := "7fb13892c06e80b89cd6790defde94ea52a262c945300dcf3a4659188014334a", func := "loop.example/g00447/laws.FnExactParseFlags", spec := "fnExactParseFlags", inPlace := ["internal/abi.NoEscape", "internal/bytealg.MakeNoZero"], apart := false }
def FnExactParseFlagsSaid : Prop := fnExactParseFlagsRow.holds Try.pinned (OpenSpec.ofChange fnExactParseFlagsSpec)

/-- ITS FALSE NEIGHBOUR: 'it returns false'. Refute it at one input. -/
def fnExactParseFlagsWrong : ChangeSpec := { name := "fnExactParseFlags", fn := fun _ => fun
  | [d] => { results := [.lit (.bool false)], args := [d] }
  | _ => none }
def FnExactParseFlagsWrongFalsely : Prop := fnExactParseFlagsRow.holds Try.pinned (OpenSpec.ofChange fnExactParseFlagsWrong)

/-- 'laws.FnExactTagOf': WHATEVER THE INPUT: true; the input reads as it did. -/
def fnExactTagOfSpec : ChangeSpec := { name := "fnExactTagOf", fn := fun _ => fun
  | [d] => { results := [.lit (.bool true)], args := [d] }
  | _ => none }
def fnExactTagOfRow : OpenClaim := { program := "ytlneiofnmbcheaa", sum := "7fb13892c06e80b89cd6790defde94ea52a262c945300dcf3a4659188014334a", func := "loop.example/g00447/laws.FnExactTagOf", spec := "fnExactTagOf", inPlace := ["internal/bytealg.IndexByteString", "internal/bytealg.IndexString"], named := ["internal/bytealg.MaxLen"], apart := false }
def FnExactTagOfSaid : Prop := fnExactTagOfRow.holds Try.pinned (OpenSpec.ofChange fnExactTagOfSpec)

/-- ITS FALSE NEIGHBOUR: 'it returns false'. Refute it at one input. -/
def fnExactTagOfWrong : ChangeSpec := { name := "fnExactTagOf", fn := fun _ => fun
  | [d] => { results := [.lit (.bool false)], args := [d] }
  | _ => none }
def FnExactTagOfWrongFalsely : Prop := fnExactTagOfRow.holds Try.pinned (OpenSpec.ofChange fnExactTagOfWrong)

/-- 'laws.FnExactSameOps': WHATEVER THE INPUT: true; the input reads as it did. -/
def fnExactSameOpsSpec : ChangeSpec := { name := "fnExactSameOps", fn := fun _ => fun
  | [d1, d2] => { results := [.lit (.bool true)], args := [d1, d2] }
  | _ => none }
def fnExactSameOpsRow : OpenClaim := { program := "ytlneiofnmbcheaa", sum := "7fb13892c06e80b89cd6790defde94ea52a262c945300dcf3a4659188014334a", func := "loop.example/g00447/laws.FnExactSameOps", spec := "fnExactSameOps", unfollowed := true, recurses := true, apart := false }
def FnExactSameOpsSaid : Prop := fnExactSameOpsRow.holds Try.pinned (OpenSpec.ofChange fnExactSameOpsSpec)

/-- ITS FALSE NEIGHBOUR: 'it returns false'. Refute it at one input. -/
def fnExactSameOpsWrong : ChangeSpec := { name := "fnExactSameOps", fn := fun _ => fun
  | [d1, d2] => { results := [.lit (.bool false)], args := [d1, d2] }
  | _ => none }
def FnExactSameOpsWrongFalsely : Prop := fnExactSameOpsRow.holds Try.pinned (OpenSpec.ofChange fnExactSameOpsWrong)

/-- 'laws.FnExactSameTerms': WHATEVER THE INPUT: true; the input reads as it did. -/
def fnExactSameTermsSpec : ChangeSpec := { name := "fnExactSameTerms", fn := fun _ => fun
  | [d1, d2] => { results := [.lit (.bool true)], args := [d1, d2] }
  | _ => none }
def fnExactSameTermsRow : OpenClaim := { program := "ytlneiofnmbcheaa", sum := "7fb13892c06e80b89cd6790defde94ea52a262c945300dcf3a4659188014334a", func := "loop.example/g00447/laws.FnExactSameTerms", spec := "fnExactSameTerms", unfollowed := true, recurses := true, apart := false }
def FnExactSameTermsSaid : Prop := fnExactSameTermsRow.holds Try.pinned (OpenSpec.ofChange fnExactSameTermsSpec)

/-- ITS FALSE NEIGHBOUR: 'it returns false'. Refute it at one input. -/
def fnExactSameTermsWrong : ChangeSpec := { name := "fnExactSameTerms", fn := fun _ => fun
  | [d1, d2] => { results := [.lit (.bool false)], args := [d1, d2] }
  | _ => none }
def FnExactSameTermsWrongFalsely : Prop := fnExactSameTermsRow.holds Try.pinned (OpenSpec.ofChange fnExactSameTermsWrong)

/-- 'laws.FnExactPackOp': WHATEVER THE INPUT: true; the input reads as it did. -/
def fnExactPackOpSpec : ChangeSpec := { name := "fnExactPackOp", fn := fun _ => fun
  | [d] => { results := [.lit (.bool true)], args := [d] }
  | _ => none }
def fnExactPackOpRow : OpenClaim := { program := "ytlneiofnmbcheaa", sum := "7fb13892c06e80b89cd6790defde94ea52a262c945300dcf3a4659188014334a", func := "loop.example/g00447/laws.FnExactPackOp", spec := "fnExactPackOp", apart := false }
def FnExactPackOpSaid : Prop := fnExactPackOpRow.holds Try.pinned (OpenSpec.ofChange fnExactPackOpSpec)

/-- ITS FALSE NEIGHBOUR: 'it returns false'. Refute it at one input. -/
def fnExactPackOpWrong : ChangeSpec := { name := "fnExactPackOp", fn := fun _ => fun
  | [d] => { results := [.lit (.bool false)], args := [d] }
  | _ => none }
def FnExactPackOpWrongFalsely : Prop := fnExactPackOpRow.holds Try.pinned (OpenSpec.ofChange fnExactPackOpWrong)

/-- 'laws.FnExactTermsFault': WHATEVER THE INPUT: true; the input reads as it did. -/
def fnExactTermsFaultSpec : ChangeSpec := { name := "fnExactTermsFault", fn := fun _ => fun
  | [d] => { results := [.lit (.bool true)], args := [d] }
  | _ => none }
def fnExactTermsFaultRow : OpenClaim := { program := "ytlneiofnmbcheaa", sum := "7fb13892c06e80b89cd6790defde94ea52a262c945300dcf3a4659188014334a", func := "loop.example/g00447/laws.FnExactTermsFault", spec := "fnExactTermsFault", unfollowed := true, recurses := true, apart := false }
def FnExactTermsFaultSaid : Prop := fnExactTermsFaultRow.holds Try.pinned (OpenSpec.ofChange fnExactTermsFaultSpec)

/-- ITS FALSE NEIGHBOUR: 'it returns false'. Refute it at one input. -/
def fnExactTermsFaultWrong : ChangeSpec := { name := "fnExactTermsFault", fn := fun _ => fun
  | [d] => { results := [.lit (.bool false)], args := [d] }
  | _ => none }
def FnExactTermsFaultWrongFalsely : Prop := fnExactTermsFaultRow.holds Try.pinned (OpenSpec.ofChange fnExactTermsFaultWrong)

/-- 'laws.FnExactSameCmds': WHATEVER THE INPUT: true; the input reads as it did. -/
def fnExactSameCmdsSpec : ChangeSpec := { name := "fnExactSameCmds", fn := fun _ => fun
  | [d1, d2] => { results := [.lit (.bool true)], args := [d1, d2] }
  | _ => none }
def fnExactSameCmdsRow : OpenClaim := { program := "ytlneiofnmbcheaa", sum := "7fb13892c06e80b89cd6790defde94ea52a262c945300dcf3a4659188014334a", func := "loop.example/g00447/laws.FnExactSameCmds", spec := "fnExactSameCmds", unfollowed := true, recurses := true, apart := false }
def FnExactSameCmdsSaid : Prop := fnExactSameCmdsRow.holds Try.pinned (OpenSpec.ofChange fnExactSameCmdsSpec)

/-- ITS FALSE NEIGHBOUR: 'it returns false'. Refute it at one input. -/
def fnExactSameCmdsWrong : ChangeSpec := { name := "fnExactSameCmds", fn := fun _ => fun
  | [d1, d2] => { results := [.lit (.bool false)], args := [d1, d2] }
  | _ => none }
def FnExactSameCmdsWrongFalsely : Prop := fnExactSameCmdsRow.holds Try.pinned (OpenSpec.ofChange fnExactSameCmdsWrong)

/-- 'laws.FnExactReadOp': WHATEVER THE INPUT: true; the input reads as it did. -/
def fnExactReadOpSpec : ChangeSpec := { name := "fnExactReadOp", fn := fun _ => fun
  | [d] => { results := [.lit (.bool true)], args := [d] }
  | _ => none }
def fnExactReadOpRow : OpenClaim := { program := "ytlneiofnmbcheaa", sum := "7fb13892c06e80b89cd6790defde94ea52a262c945300dcf3a4659188014334a", func := "loop.example/g00447/laws.FnExactReadOp", spec := "fnExactReadOp", apart := false }
def FnExactReadOpSaid : Prop := fnExactReadOpRow.holds Try.pinned (OpenSpec.ofChange fnExactReadOpSpec)

/-- ITS FALSE NEIGHBOUR: 'it returns false'. Refute it at one input. -/
def fnExactReadOpWrong : ChangeSpec := { name := "fnExactReadOp", fn := fun _ => fun
  | [d] => { results := [.lit (.bool false)], args := [d] }
  | _ => none }
def FnExactReadOpWrongFalsely : Prop := fnExactReadOpRow.holds Try.pinned (OpenSpec.ofChange fnExactReadOpWrong)

/-- 'laws.FnExactPackOps': WHATEVER THE INPUT: true; the input reads as it did. -/
def fnExactPackOpsSpec : ChangeSpec := { name := "fnExactPackOps", fn := fun _ => fun
  | [d] => { results := [.lit (.bool true)], args := [d] }
  | _ => none }
def fnExactPackOpsRow : OpenClaim := { program := "ytlneiofnmbcheaa", sum := "7fb13892c06e80b89cd6790defde94ea52a262c945300dcf3a4659188014334a", func := "loop.example/g00447/laws.FnExactPackOps", spec := "fnExactPackOps", apart := false }
def FnExactPackOpsSaid : Prop := fnExactPackOpsRow.holds Try.pinned (OpenSpec.ofChange fnExactPackOpsSpec)

/-- ITS FALSE NEIGHBOUR: 'it returns false'. Refute it at one input. -/
def fnExactPackOpsWrong : ChangeSpec := { name := "fnExactPackOps", fn := fun _ => fun
  | [d] => { results := [.lit (.bool false)], args := [d] }
  | _ => none }
def FnExactPackOpsWrongFalsely : Prop := fnExactPackOpsRow.holds Try.pinned (OpenSpec.ofChange fnExactPackOpsWrong)

/-- 'laws.FnExactReadJournal': WHATEVER THE INPUT: true; the input reads as it did. -/
def fnExactReadJournalSpec : ChangeSpec := { name := "fnExactReadJournal", fn := fun _ => fun
  | [d] => { results := [.lit (.bool true)], args := [d] }
  | _ => none }
def fnExactReadJournalRow : OpenClaim := { program := "ytlneiofnmbcheaa", sum := "7fb13892c06e80b89cd6790defde94ea52a262c945300dcf3a4659188014334a", func := "loop.example/g00447/laws.FnExactReadJournal", spec := "fnExactReadJournal", apart := false }
def FnExactReadJournalSaid : Prop := fnExactReadJournalRow.holds Try.pinned (OpenSpec.ofChange fnExactReadJournalSpec)

/-- ITS FALSE NEIGHBOUR: 'it returns false'. Refute it at one input. -/
def fnExactReadJournalWrong : ChangeSpec := { name := "fnExactReadJournal", fn := fun _ => fun
  | [d] => { results := [.lit (.bool false)], args := [d] }
  | _ => none }
def FnExactReadJournalWrongFalsely : Prop := fnExactReadJournalRow.holds Try.pinned (OpenSpec.ofChange fnExactReadJournalWrong)

/- THE SECOND FORM. 'bulk': how many values and letters a reading holds, each counted each time it is reached (what is shared counts as often as it is met; a slice's spare places count too). A statement '..UptoSaid' is the law's where the arguments, and the package variables that the reading takes, are together of bulk at most 1048576: NARROWER than '..Said'. Prove '..Said' where nothing that the law and all that it calls make is longer than what came in: it says more and counts as full. Else prove '..UptoSaid'. A law counts once. -/
mutual
def uptoBulk {H : Type} : DataW H → Nat
  | .lit (.string bytes) => bytes.length + 1
  | .lit _ => 1
  | .nil => 1
  | .ptr d => uptoBulk d + 1
  | .slice elems spare => uptoBulkAll elems + uptoBulkAll spare + 1
  | .agg parts => uptoBulkAll parts + 1
  | .iface _ d => uptoBulk d + 1
  | .map entries => uptoBulkEntries entries + 1
  | .held _ => 1
def uptoBulkAll {H : Type} : List (DataW H) → Nat
  | [] => 0
  | d :: r => uptoBulk d + uptoBulkAll r
def uptoBulkEntries {H : Type} : List (Lit × DataW H) → Nat
  | [] => 0
  | x :: r => uptoBulkEntry x + uptoBulkEntries r
def uptoBulkEntry {H : Type} : Lit × DataW H → Nat
  | (.string bytes, d) => bytes.length + uptoBulk d + 1
  | (_, d) => uptoBulk d + 1
 end
def uptoSmall : (H : Type) → List (DataW H) → Bool := fun _ ds => decide (uptoBulkAll ds ≤ 1048576)
def OpenSpec.upto (s : _root_.Go.ChangeSpec) : _root_.Go.OpenSpec := { _root_.Go.OpenSpec.ofChange s with cond := some uptoSmall }

/-- 'laws.FnExactSliceList', WHERE WHAT IT READS IS OF BULK AT MOST 1048576: true; the input reads as it did. -/
def fnExactSliceListUptoRow : OpenClaim := { program := "ytlneiofnmbcheaa", sum := "7fb13892c06e80b89cd6790defde94ea52a262c945300dcf3a4659188014334a", func := "loop.example/g00447/laws.FnExactSliceList", spec := "fnExactSliceList", apart := false, narrowed := true }
def FnExactSliceListUptoSaid : Prop := fnExactSliceListUptoRow.holds Try.pinned (OpenSpec.upto fnExactSliceListSpec)

/-- 'laws.FnExactFlagsText', WHERE WHAT IT READS IS OF BULK AT MOST 1048576: true; the input reads as it did. -/
def fnExactFlagsTextUptoRow : OpenClaim := { program := "ytlneiofnmbcheaa", sum := "7fb13892c06e80b89cd6790defde94ea52a262c945300dcf3a4659188014334a", func := "loop.example/g00447/laws.FnExactFlagsText", spec := "fnExactFlagsText", inPlace := ["internal/abi.NoEscape", "internal/bytealg.MakeNoZero"], apart := false, narrowed := true }
def FnExactFlagsTextUptoSaid : Prop := fnExactFlagsTextUptoRow.holds Try.pinned (OpenSpec.upto fnExactFlagsTextSpec)

/-- 'laws.FnExactParseFlags', WHERE WHAT IT READS IS OF BULK AT MOST 1048576: true; the input reads as it did. -/
def fnExactParseFlagsUptoRow : OpenClaim := { program := "ytlneiofnmbcheaa", sum := "7fb13892c06e80b89cd6790defde94ea52a262c945300dcf3a4659188014334a", func := "loop.example/g00447/laws.FnExactParseFlags", spec := "fnExactParseFlags", inPlace := ["internal/abi.NoEscape", "internal/bytealg.MakeNoZero"], apart := false, narrowed := true }
def FnExactParseFlagsUptoSaid : Prop := fnExactParseFlagsUptoRow.holds Try.pinned (OpenSpec.upto fnExactParseFlagsSpec)

/-- 'laws.FnExactTagOf', WHERE WHAT IT READS IS OF BULK AT MOST 1048576: true; the input reads as it did. -/
def fnExactTagOfUptoRow : OpenClaim := { program := "ytlneiofnmbcheaa", sum := "7fb13892c06e80b89cd6790defde94ea52a262c945300dcf3a4659188014334a", func := "loop.example/g00447/laws.FnExactTagOf", spec := "fnExactTagOf", inPlace := ["internal/bytealg.IndexByteString", "internal/bytealg.IndexString"], named := ["internal/bytealg.MaxLen"], apart := false, narrowed := true }
def FnExactTagOfUptoSaid : Prop := fnExactTagOfUptoRow.holds Try.pinned (OpenSpec.upto fnExactTagOfSpec)

/-- 'laws.FnExactSameOps', WHERE WHAT IT READS IS OF BULK AT MOST 1048576: true; the input reads as it did. -/
def fnExactSameOpsUptoRow : OpenClaim := { program := "ytlneiofnmbcheaa", sum := "7fb13892c06e80b89cd6790defde94ea52a262c945300dcf3a4659188014334a", func := "loop.example/g00447/laws.FnExactSameOps", spec := "fnExactSameOps", unfollowed := true, recurses := true, apart := false, narrowed := true }
def FnExactSameOpsUptoSaid : Prop := fnExactSameOpsUptoRow.holds Try.pinned (OpenSpec.upto fnExactSameOpsSpec)

/-- 'laws.FnExactSameTerms', WHERE WHAT IT READS IS OF BULK AT MOST 1048576: true; the input reads as it did. -/
def fnExactSameTermsUptoRow : OpenClaim := { program := "ytlneiofnmbcheaa", sum := "7fb13892c06e80b89cd6790defde94ea52a262c945300dcf3a4659188014334a", func := "loop.example/g00447/laws.FnExactSameTerms", spec := "fnExactSameTerms", unfollowed := true, recurses := true, apart := false, narrowed := true }
def FnExactSameTermsUptoSaid : Prop := fnExactSameTermsUptoRow.holds Try.pinned (OpenSpec.upto fnExactSameTermsSpec)

/-- 'laws.FnExactPackOp', WHERE WHAT IT READS IS OF BULK AT MOST 1048576: true; the input reads as it did. -/
def fnExactPackOpUptoRow : OpenClaim := { program := "ytlneiofnmbcheaa", sum := "7fb13892c06e80b89cd6790defde94ea52a262c945300dcf3a4659188014334a", func := "loop.example/g00447/laws.FnExactPackOp", spec := "fnExactPackOp", apart := false, narrowed := true }
def FnExactPackOpUptoSaid : Prop := fnExactPackOpUptoRow.holds Try.pinned (OpenSpec.upto fnExactPackOpSpec)

/-- 'laws.FnExactTermsFault', WHERE WHAT IT READS IS OF BULK AT MOST 1048576: true; the input reads as it did. -/
def fnExactTermsFaultUptoRow : OpenClaim := { program := "ytlneiofnmbcheaa", sum := "7fb13892c06e80b89cd6790defde94ea52a262c945300dcf3a4659188014334a", func := "loop.example/g00447/laws.FnExactTermsFault", spec := "fnExactTermsFault", unfollowed := true, recurses := true, apart := false, narrowed := true }
def FnExactTermsFaultUptoSaid : Prop := fnExactTermsFaultUptoRow.holds Try.pinned (OpenSpec.upto fnExactTermsFaultSpec)

/-- 'laws.FnExactSameCmds', WHERE WHAT IT READS IS OF BULK AT MOST 1048576: true; the input reads as it did. -/
def fnExactSameCmdsUptoRow : OpenClaim := { program := "ytlneiofnmbcheaa", sum := "7fb13892c06e80b89cd6790defde94ea52a262c945300dcf3a4659188014334a", func := "loop.example/g00447/laws.FnExactSameCmds", spec := "fnExactSameCmds", unfollowed := true, recurses := true, apart := false, narrowed := true }
def FnExactSameCmdsUptoSaid : Prop := fnExactSameCmdsUptoRow.holds Try.pinned (OpenSpec.upto fnExactSameCmdsSpec)

/-- 'laws.FnExactReadOp', WHERE WHAT IT READS IS OF BULK AT MOST 1048576: true; the input reads as it did. -/
def fnExactReadOpUptoRow : OpenClaim := { program := "ytlneiofnmbcheaa", sum := "7fb13892c06e80b89cd6790defde94ea52a262c945300dcf3a4659188014334a", func := "loop.example/g00447/laws.FnExactReadOp", spec := "fnExactReadOp", apart := false, narrowed := true }
def FnExactReadOpUptoSaid : Prop := fnExactReadOpUptoRow.holds Try.pinned (OpenSpec.upto fnExactReadOpSpec)

/-- 'laws.FnExactPackOps', WHERE WHAT IT READS IS OF BULK AT MOST 1048576: true; the input reads as it did. -/
def fnExactPackOpsUptoRow : OpenClaim := { program := "ytlneiofnmbcheaa", sum := "7fb13892c06e80b89cd6790defde94ea52a262c945300dcf3a4659188014334a", func := "loop.example/g00447/laws.FnExactPackOps", spec := "fnExactPackOps", apart := false, narrowed := true }
def FnExactPackOpsUptoSaid : Prop := fnExactPackOpsUptoRow.holds Try.pinned (OpenSpec.upto fnExactPackOpsSpec)

/-- 'laws.FnExactReadJournal', WHERE WHAT IT READS IS OF BULK AT MOST 1048576: true; the input reads as it did. -/
def fnExactReadJournalUptoRow : OpenClaim := { program := "ytlneiofnmbcheaa", sum := "7fb13892c06e80b89cd6790defde94ea52a262c945300dcf3a4659188014334a", func := "loop.example/g00447/laws.FnExactReadJournal", spec := "fnExactReadJournal", apart := false, narrowed := true }
def FnExactReadJournalUptoSaid : Prop := fnExactReadJournalUptoRow.holds Try.pinned (OpenSpec.upto fnExactReadJournalSpec)

end Rows
end Go.Proofs.Ytlneiofnmbcheaa

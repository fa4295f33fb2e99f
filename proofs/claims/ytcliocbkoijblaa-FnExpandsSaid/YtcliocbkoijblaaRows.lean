/-
  No cell of these rows narrows 'for every input' (looked for: loops, veiled, ifaces, maps, wideKeys, modest, calm, conditions, laid).
  DERIVED. THE GIVEN ROWS OF THIS SEAT. 12 by the template 'for every input the law returns true; each argument reads behind the call as it read before'; 0 by the template 'total and deterministic' (their statements: YtcliocbkoijblaaTotals.lean).
  GIVEN WITH THE SEED: the statements are not yours to turn. If you find one false, say at which input.
  Laid BY PROGRAM, IN A SANDBOX (cutbox-rows.mjs): the forced cells as the released guide's own fill.sh prints them over the translation 9084c457657cf375… (all of the seat's roots in one cut). By AI agents, Wed Nov 11 2026. No macro, syntax, notation, axiom, sorry.
-/
import Derived.Test.YtcliocbkoijblaaChecked
import GoSem.Claim
import GoSem.ClaimJoined
import GoSem.ClaimMapViews
import Derived.JoinedTies
import Derived.KernelRfl
namespace Go.Proofs.Ytcliocbkoijblaa
/- THE CELL 'sum', in the pinned program and in every row, IS THE sha256 OF THE DUMP (.gsa) THAT YtcliocbkoijblaaProg.lean LOADS. Nothing in Lean hashes anything: it is a label: what it is worth is what the hold of that sum in a sandbox is worth. -/
noncomputable def Try.pinned : Pinned := { name := "ytcliocbkoijblaa", sum := "9084c457657cf3753e65ffec1294292b01cc62898507b9a1fcb590810c1dde2d", checked := Try.checked }
namespace Rows
def none {H : Type} : Left H := { results := [], args := [] }

/-- 'laws.FnExactKeyOf': WHATEVER THE INPUT: true; the input reads as it did. -/
def fnExactKeyOfSpec : ChangeSpec := { name := "fnExactKeyOf", fn := fun _ => fun
  | [d] => { results := [.lit (.bool true)], args := [d] }
  | _ => none }
def fnExactKeyOfRow : OpenClaim := { program := "ytcliocbkoijblaa", sum := "9084c457657cf3753e65ffec1294292b01cc62898507b9a1fcb590810c1dde2d", func := "loop.example/g00447/laws.FnExactKeyOf", spec := "fnExactKeyOf", apart := false }
def FnExactKeyOfSaid : Prop := fnExactKeyOfRow.holds Try.pinned (OpenSpec.ofChange fnExactKeyOfSpec)

/-- ITS FALSE NEIGHBOUR: 'it returns false'. Refute it at one input. -/
def fnExactKeyOfWrong : ChangeSpec := { name := "fnExactKeyOf", fn := fun _ => fun
  | [d] => { results := [.lit (.bool false)], args := [d] }
  | _ => none }
def FnExactKeyOfWrongFalsely : Prop := fnExactKeyOfRow.holds Try.pinned (OpenSpec.ofChange fnExactKeyOfWrong)

/-- 'laws.FnExactWhatOf': WHATEVER THE INPUT: true; the input reads as it did. -/
def fnExactWhatOfSpec : ChangeSpec := { name := "fnExactWhatOf", fn := fun _ => fun
  | [d] => { results := [.lit (.bool true)], args := [d] }
  | _ => none }
def fnExactWhatOfRow : OpenClaim := { program := "ytcliocbkoijblaa", sum := "9084c457657cf3753e65ffec1294292b01cc62898507b9a1fcb590810c1dde2d", func := "loop.example/g00447/laws.FnExactWhatOf", spec := "fnExactWhatOf", apart := false }
def FnExactWhatOfSaid : Prop := fnExactWhatOfRow.holds Try.pinned (OpenSpec.ofChange fnExactWhatOfSpec)

/-- ITS FALSE NEIGHBOUR: 'it returns false'. Refute it at one input. -/
def fnExactWhatOfWrong : ChangeSpec := { name := "fnExactWhatOf", fn := fun _ => fun
  | [d] => { results := [.lit (.bool false)], args := [d] }
  | _ => none }
def FnExactWhatOfWrongFalsely : Prop := fnExactWhatOfRow.holds Try.pinned (OpenSpec.ofChange fnExactWhatOfWrong)

/-- 'laws.FnExactRangesFault': WHATEVER THE INPUT: true; the input reads as it did. -/
def fnExactRangesFaultSpec : ChangeSpec := { name := "fnExactRangesFault", fn := fun _ => fun
  | [d] => { results := [.lit (.bool true)], args := [d] }
  | _ => none }
def fnExactRangesFaultRow : OpenClaim := { program := "ytcliocbkoijblaa", sum := "9084c457657cf3753e65ffec1294292b01cc62898507b9a1fcb590810c1dde2d", func := "loop.example/g00447/laws.FnExactRangesFault", spec := "fnExactRangesFault", apart := false }
def FnExactRangesFaultSaid : Prop := fnExactRangesFaultRow.holds Try.pinned (OpenSpec.ofChange fnExactRangesFaultSpec)

/-- ITS FALSE NEIGHBOUR: 'it returns false'. Refute it at one input. -/
def fnExactRangesFaultWrong : ChangeSpec := { name := "fnExactRangesFault", fn := fun _ => fun
  | [d] => { results := [.lit (.bool false)], args := [d] }
  | _ => none }
def FnExactRangesFaultWrongFalsely : Prop := fnExactRangesFaultRow.holds Try.pinned (OpenSpec.ofChange fnExactRangesFaultWrong)

/-- 'laws.FnExactMessageFault': WHATEVER THE INPUT: true; the input reads as it did. -/
def fnExactMessageFaultSpec : ChangeSpec := { name := "fnExactMessageFault", fn := fun _ => fun
  | [d] => { results := [.lit (.bool true)], args := [d] }
  | _ => none }
def fnExactMessageFaultRow : OpenClaim := { program := "ytcliocbkoijblaa", sum := "9084c457657cf3753e65ffec1294292b01cc62898507b9a1fcb590810c1dde2d", func := "loop.example/g00447/laws.FnExactMessageFault", spec := "fnExactMessageFault", apart := false }
def FnExactMessageFaultSaid : Prop := fnExactMessageFaultRow.holds Try.pinned (OpenSpec.ofChange fnExactMessageFaultSpec)

/-- ITS FALSE NEIGHBOUR: 'it returns false'. Refute it at one input. -/
def fnExactMessageFaultWrong : ChangeSpec := { name := "fnExactMessageFault", fn := fun _ => fun
  | [d] => { results := [.lit (.bool false)], args := [d] }
  | _ => none }
def FnExactMessageFaultWrongFalsely : Prop := fnExactMessageFaultRow.holds Try.pinned (OpenSpec.ofChange fnExactMessageFaultWrong)

/-- 'laws.FnExactSliceList': WHATEVER THE INPUT: true; the input reads as it did. -/
def fnExactSliceListSpec : ChangeSpec := { name := "fnExactSliceList", fn := fun _ => fun
  | [d1, d2, d3] => { results := [.lit (.bool true)], args := [d1, d2, d3] }
  | _ => none }
def fnExactSliceListRow : OpenClaim := { program := "ytcliocbkoijblaa", sum := "9084c457657cf3753e65ffec1294292b01cc62898507b9a1fcb590810c1dde2d", func := "loop.example/g00447/laws.FnExactSliceList", spec := "fnExactSliceList", apart := false }
def FnExactSliceListSaid : Prop := fnExactSliceListRow.holds Try.pinned (OpenSpec.ofChange fnExactSliceListSpec)

/-- ITS FALSE NEIGHBOUR: 'it returns false'. Refute it at one input. -/
def fnExactSliceListWrong : ChangeSpec := { name := "fnExactSliceList", fn := fun _ => fun
  | [d1, d2, d3] => { results := [.lit (.bool false)], args := [d1, d2, d3] }
  | _ => none }
def FnExactSliceListWrongFalsely : Prop := fnExactSliceListRow.holds Try.pinned (OpenSpec.ofChange fnExactSliceListWrong)

/-- 'laws.FnExactInSet': WHATEVER THE INPUT: true; the input reads as it did. -/
def fnExactInSetSpec : ChangeSpec := { name := "fnExactInSet", fn := fun _ => fun
  | [d1, d2, d3] => { results := [.lit (.bool true)], args := [d1, d2, d3] }
  | _ => none }
def fnExactInSetRow : OpenClaim := { program := "ytcliocbkoijblaa", sum := "9084c457657cf3753e65ffec1294292b01cc62898507b9a1fcb590810c1dde2d", func := "loop.example/g00447/laws.FnExactInSet", spec := "fnExactInSet", unfollowed := true, recurses := true, apart := false }
def FnExactInSetSaid : Prop := fnExactInSetRow.holds Try.pinned (OpenSpec.ofChange fnExactInSetSpec)

/-- ITS FALSE NEIGHBOUR: 'it returns false'. Refute it at one input. -/
def fnExactInSetWrong : ChangeSpec := { name := "fnExactInSet", fn := fun _ => fun
  | [d1, d2, d3] => { results := [.lit (.bool false)], args := [d1, d2, d3] }
  | _ => none }
def FnExactInSetWrongFalsely : Prop := fnExactInSetRow.holds Try.pinned (OpenSpec.ofChange fnExactInSetWrong)

/-- 'laws.FnExactFlagsText': WHATEVER THE INPUT: true; the input reads as it did. -/
def fnExactFlagsTextSpec : ChangeSpec := { name := "fnExactFlagsText", fn := fun _ => fun
  | [d] => { results := [.lit (.bool true)], args := [d] }
  | _ => none }
def fnExactFlagsTextRow : OpenClaim := { program := "ytcliocbkoijblaa", sum := "9084c457657cf3753e65ffec1294292b01cc62898507b9a1fcb590810c1dde2d", func := "loop.example/g00447/laws.FnExactFlagsText", spec := "fnExactFlagsText", inPlace := ["internal/abi.NoEscape", "internal/bytealg.MakeNoZero"], apart := false }
def FnExactFlagsTextSaid : Prop := fnExactFlagsTextRow.holds Try.pinned (OpenSpec.ofChange fnExactFlagsTextSpec)

/-- ITS FALSE NEIGHBOUR: 'it returns false'. Refute it at one input. -/
def fnExactFlagsTextWrong : ChangeSpec := { name := "fnExactFlagsText", fn := fun _ => fun
  | [d] => { results := [.lit (.bool false)], args := [d] }
  | _ => none }
def FnExactFlagsTextWrongFalsely : Prop := fnExactFlagsTextRow.holds Try.pinned (OpenSpec.ofChange fnExactFlagsTextWrong)

/-- 'laws.FnExactParseFlags': WHATEVER THE INPUT: true; the input reads as it did. -/
def fnExactParseFlagsSpec : ChangeSpec := { name := "fnExactParseFlags", fn := fun _ => fun
  | [d] => { results := [.lit (.bool true)], args := [d] }
  | _ => none }
def fnExactParseFlagsRow : OpenClaim := { program := "ytcliocbkoijblaa", sum := "9084c457657cf3753e65ffec1294292b01cc62898507b9a1fcb590810c1dde2d", func := "loop.example/g00447/laws.FnExactParseFlags", spec := "fnExactParseFlags", inPlace := ["internal/abi.NoEscape", "internal/bytealg.MakeNoZero"], apart := false }
def FnExactParseFlagsSaid : Prop := fnExactParseFlagsRow.holds Try.pinned (OpenSpec.ofChange fnExactParseFlagsSpec)

/-- ITS FALSE NEIGHBOUR: 'it returns false'. Refute it at one input. -/
def fnExactParseFlagsWrong : ChangeSpec := { name := "fnExactParseFlags", fn := fun _ => fun
  | [d] => { results := [.lit (.bool false)], args := [d] }
  | _ => none }
def FnExactParseFlagsWrongFalsely : Prop := fnExactParseFlagsRow.holds Try.pinned (OpenSpec.ofChange fnExactParseFlagsWrong)

/-- 'laws.FnExactSetOf': WHATEVER THE INPUT: true; the input reads as it did. -/
def fnExactSetOfSpec : ChangeSpec := { name := "fnExactSetOf", fn := fun _ => fun
  | [d] => { results := [.lit (.bool true)], args := [d] }
  | _ => none }
def fnExactSetOfRow : OpenClaim := { program := "ytcliocbkoijblaa", sum := "9084c457657cf3753e65ffec1294292b01cc62898507b9a1fcb590810c1dde2d", func := "loop.example/g00447/laws.FnExactSetOf", spec := "fnExactSetOf", apart := false }
def FnExactSetOfSaid : Prop := fnExactSetOfRow.holds Try.pinned (OpenSpec.ofChange fnExactSetOfSpec)

/-- ITS FALSE NEIGHBOUR: 'it returns false'. Refute it at one input. -/
def fnExactSetOfWrong : ChangeSpec := { name := "fnExactSetOf", fn := fun _ => fun
  | [d] => { results := [.lit (.bool false)], args := [d] }
  | _ => none }
def FnExactSetOfWrongFalsely : Prop := fnExactSetOfRow.holds Try.pinned (OpenSpec.ofChange fnExactSetOfWrong)

/-- 'laws.FnExactTagOf': WHATEVER THE INPUT: true; the input reads as it did. -/
def fnExactTagOfSpec : ChangeSpec := { name := "fnExactTagOf", fn := fun _ => fun
  | [d] => { results := [.lit (.bool true)], args := [d] }
  | _ => none }
def fnExactTagOfRow : OpenClaim := { program := "ytcliocbkoijblaa", sum := "9084c457657cf3753e65ffec1294292b01cc62898507b9a1fcb590810c1dde2d", func := "loop.example/g00447/laws.FnExactTagOf", spec := "fnExactTagOf", inPlace := ["internal/bytealg.IndexByteString", "internal/bytealg.IndexString"], named := ["internal/bytealg.MaxLen"], apart := false }
def FnExactTagOfSaid : Prop := fnExactTagOfRow.holds Try.pinned (OpenSpec.ofChange fnExactTagOfSpec)

/-- ITS FALSE NEIGHBOUR: 'it returns false'. Refute it at one input. -/
def fnExactTagOfWrong : ChangeSpec := { name := "fnExactTagOf", fn := fun _ => fun
  | [d] => { results := [.lit (.bool false)], args := [d] }
  | _ => none }
def FnExactTagOfWrongFalsely : Prop := fnExactTagOfRow.holds Try.pinned (OpenSpec.ofChange fnExactTagOfWrong)

/-- 'laws.FnExactExpandSet': WHATEVER THE INPUT: true; the input reads as it did. -/
def fnExactExpandSetSpec : ChangeSpec := { name := "fnExactExpandSet", fn := fun _ => fun
  | [d1, d2] => { results := [.lit (.bool true)], args := [d1, d2] }
  | _ => none }
def fnExactExpandSetRow : OpenClaim := { program := "ytcliocbkoijblaa", sum := "9084c457657cf3753e65ffec1294292b01cc62898507b9a1fcb590810c1dde2d", func := "loop.example/g00447/laws.FnExactExpandSet", spec := "fnExactExpandSet", unfollowed := true, recurses := true, apart := false }
def FnExactExpandSetSaid : Prop := fnExactExpandSetRow.holds Try.pinned (OpenSpec.ofChange fnExactExpandSetSpec)

/-- ITS FALSE NEIGHBOUR: 'it returns false'. Refute it at one input. -/
def fnExactExpandSetWrong : ChangeSpec := { name := "fnExactExpandSet", fn := fun _ => fun
  | [d1, d2] => { results := [.lit (.bool false)], args := [d1, d2] }
  | _ => none }
def FnExactExpandSetWrongFalsely : Prop := fnExactExpandSetRow.holds Try.pinned (OpenSpec.ofChange fnExactExpandSetWrong)

/-- 'laws.FnExpands': WHATEVER THE INPUT: true; the input reads as it did. -/
def fnExpandsSpec : ChangeSpec := { name := "fnExpands", fn := fun _ => fun
  | [d] => { results := [.lit (.bool true)], args := [d] }
  | _ => none }
def fnExpandsRow : OpenClaim := { program := "ytcliocbkoijblaa", sum := "9084c457657cf3753e65ffec1294292b01cc62898507b9a1fcb590810c1dde2d", func := "loop.example/g00447/laws.FnExpands", spec := "fnExpands", unfollowed := true, recurses := true, apart := false }
def FnExpandsSaid : Prop := fnExpandsRow.holds Try.pinned (OpenSpec.ofChange fnExpandsSpec)

/-- ITS FALSE NEIGHBOUR: 'it returns false'. Refute it at one input. -/
def fnExpandsWrong : ChangeSpec := { name := "fnExpands", fn := fun _ => fun
  | [d] => { results := [.lit (.bool false)], args := [d] }
  | _ => none }
def FnExpandsWrongFalsely : Prop := fnExpandsRow.holds Try.pinned (OpenSpec.ofChange fnExpandsWrong)

/- THE SECOND FORM. 'bulk': how many values and letters a reading holds, each counted each time it is reached (what is shared counts as often as it is met; a slice's spare places count too). A statement '..UptoSaid' is the law's where the arguments, and the package variables that the reading takes, are together of bulk at most 1048576: NARROWER than '..Said'. Prove '..Said' where nothing that the law and all that it calls make is longer than what came in: it says more and counts as full. Else prove '..UptoSaid'. A law counts once. -/
mutual
def uptoBulk {H : Type} : DataW H → Nat
  | .lit (.string bytes) => bytes.length + 1
  | .lit _ => 1
  | .nil => 1
  | .ptr d => uptoBulk d + 1
  | .slice elems spare => uptoBulkAll elems + uptoBulkAll spare + 1
  | .agg parts => uptoBulkAll parts + 1
  | .iface _ d => uptoBulk d + 1
  | .map entries => uptoBulkEntries entries + 1
  | .held _ => 1
def uptoBulkAll {H : Type} : List (DataW H) → Nat
  | [] => 0
  | d :: r => uptoBulk d + uptoBulkAll r
def uptoBulkEntries {H : Type} : List (Lit × DataW H) → Nat
  | [] => 0
  | x :: r => uptoBulkEntry x + uptoBulkEntries r
def uptoBulkEntry {H : Type} : Lit × DataW H → Nat
  | (.string bytes, d) => bytes.length + uptoBulk d + 1
  | (_, d) => uptoBulk d + 1
 end
def uptoSmall : (H : Type) → List (DataW H) → Bool := fun _ ds => decide (uptoBulkAll ds ≤ 1048576)
def OpenSpec.upto (s : _root_.Go.ChangeSpec) : _root_.Go.OpenSpec := { _root_.Go.OpenSpec.ofChange s with cond := some uptoSmall }

/-- 'laws.FnExactKeyOf', WHERE WHAT IT READS IS OF BULK AT MOST 1048576: true; the input reads as it did. -/
def fnExactKeyOfUptoRow : OpenClaim := { program := "ytcliocbkoijblaa", sum := "9084c457657cf3753e65ffec1294292b01cc62898507b9a1fcb590810c1dde2d", func := "loop.example/g00447/laws.FnExactKeyOf", spec := "fnExactKeyOf", apart := false, narrowed := true }
def FnExactKeyOfUptoSaid : Prop := fnExactKeyOfUptoRow.holds Try.pinned (OpenSpec.upto fnExactKeyOfSpec)

/-- 'laws.FnExactWhatOf', WHERE WHAT IT READS IS OF BULK AT MOST 1048576: true; the input reads as it did. -/
def fnExactWhatOfUptoRow : OpenClaim := { program := "ytcliocbkoijblaa", sum := "9084c457657cf3753e65ffec1294292b01cc62898507b9a1fcb590810c1dde2d", func := "loop.example/g00447/laws.FnExactWhatOf", spec := "fnExactWhatOf", apart := false, narrowed := true }
def FnExactWhatOfUptoSaid : Prop := fnExactWhatOfUptoRow.holds Try.pinned (OpenSpec.upto fnExactWhatOfSpec)

/-- 'laws.FnExactRangesFault', WHERE WHAT IT READS IS OF BULK AT MOST 1048576: true; the input reads as it did. -/
def fnExactRangesFaultUptoRow : OpenClaim := { program := "ytcliocbkoijblaa", sum := "9084c457657cf3753e65ffec1294292b01cc62898507b9a1fcb590810c1dde2d", func := "loop.example/g00447/laws.FnExactRangesFault", spec := "fnExactRangesFault", apart := false, narrowed := true }
def FnExactRangesFaultUptoSaid : Prop := fnExactRangesFaultUptoRow.holds Try.pinned (OpenSpec.upto fnExactRangesFaultSpec)

/-- 'laws.FnExactMessageFault', WHERE WHAT IT READS IS OF BULK AT MOST 1048576: true; the input reads as it did. -/
def fnExactMessageFaultUptoRow : OpenClaim := { program := "ytcliocbkoijblaa", sum := "9084c457657cf3753e65ffec1294292b01cc62898507b9a1fcb590810c1dde2d", func := "loop.example/g00447/laws.FnExactMessageFault", spec := "fnExactMessageFault", apart := false, narrowed := true }
def FnExactMessageFaultUptoSaid : Prop := fnExactMessageFaultUptoRow.holds Try.pinned (OpenSpec.upto fnExactMessageFaultSpec)

/-- 'laws.FnExactSliceList', WHERE WHAT IT READS IS OF BULK AT MOST 1048576: true; the input reads as it did. -/
def fnExactSliceListUptoRow : OpenClaim := { program := "ytcliocbkoijblaa", sum := "9084c457657cf3753e65ffec1294292b01cc62898507b9a1fcb590810c1dde2d", func := "loop.example/g00447/laws.FnExactSliceList", spec := "fnExactSliceList", apart := false, narrowed := true }
def FnExactSliceListUptoSaid : Prop := fnExactSliceListUptoRow.holds Try.pinned (OpenSpec.upto fnExactSliceListSpec)

/-- 'laws.FnExactInSet', WHERE WHAT IT READS IS OF BULK AT MOST 1048576: true; the input reads as it did. -/
def fnExactInSetUptoRow : OpenClaim := { program := "ytcliocbkoijblaa", sum := "9084c457657cf3753e65ffec1294292b01cc62898507b9a1fcb590810c1dde2d", func := "loop.example/g00447/laws.FnExactInSet", spec := "fnExactInSet", unfollowed := true, recurses := true, apart := false, narrowed := true }
def FnExactInSetUptoSaid : Prop := fnExactInSetUptoRow.holds Try.pinned (OpenSpec.upto fnExactInSetSpec)

/-- 'laws.FnExactFlagsText', WHERE WHAT IT READS IS OF BULK AT MOST 1048576: true; the input reads as it did. -/
def fnExactFlagsTextUptoRow : OpenClaim := { program := "ytcliocbkoijblaa", sum := "9084c457657cf3753e65ffec1294292b01cc62898507b9a1fcb590810c1dde2d", func := "loop.example/g00447/laws.FnExactFlagsText", spec := "fnExactFlagsText", inPlace := ["internal/abi.NoEscape", "internal/bytealg.MakeNoZero"], apart := false, narrowed := true }
def FnExactFlagsTextUptoSaid : Prop := fnExactFlagsTextUptoRow.holds Try.pinned (OpenSpec.upto fnExactFlagsTextSpec)

/-- 'laws.FnExactParseFlags', WHERE WHAT IT READS IS OF BULK AT MOST 1048576: true; the input reads as it did. -/
def fnExactParseFlagsUptoRow : OpenClaim := { program := "ytcliocbkoijblaa", sum := "9084c457657cf3753e65ffec1294292b01cc62898507b9a1fcb590810c1dde2d", func := "loop.example/g00447/laws.FnExactParseFlags", spec := "fnExactParseFlags", inPlace := ["internal/abi.NoEscape", "internal/bytealg.MakeNoZero"], apart := false, narrowed := true }
def FnExactParseFlagsUptoSaid : Prop := fnExactParseFlagsUptoRow.holds Try.pinned (OpenSpec.upto fnExactParseFlagsSpec)

/-- 'laws.FnExactSetOf', WHERE WHAT IT READS IS OF BULK AT MOST 1048576: true; the input reads as it did. -/
def fnExactSetOfUptoRow : OpenClaim := { program := "ytcliocbkoijblaa", sum := "9084c457657cf3753e65ffec1294292b01cc62898507b9a1fcb590810c1dde2d", func := "loop.example/g00447/laws.FnExactSetOf", spec := "fnExactSetOf", apart := false, narrowed := true }
def FnExactSetOfUptoSaid : Prop := fnExactSetOfUptoRow.holds Try.pinned (OpenSpec.upto fnExactSetOfSpec)

/-- 'laws.FnExactTagOf', WHERE WHAT IT READS IS OF BULK AT MOST 1048576: true; the input reads as it did. -/
def fnExactTagOfUptoRow : OpenClaim := { program := "ytcliocbkoijblaa", sum := "9084c457657cf3753e65ffec1294292b01cc62898507b9a1fcb590810c1dde2d", func := "loop.example/g00447/laws.FnExactTagOf", spec := "fnExactTagOf", inPlace := ["internal/bytealg.IndexByteString", "internal/bytealg.IndexString"], named := ["internal/bytealg.MaxLen"], apart := false, narrowed := true }
def FnExactTagOfUptoSaid : Prop := fnExactTagOfUptoRow.holds Try.pinned (OpenSpec.upto fnExactTagOfSpec)

/-- 'laws.FnExactExpandSet', WHERE WHAT IT READS IS OF BULK AT MOST 1048576: true; the input reads as it did. -/
def fnExactExpandSetUptoRow : OpenClaim := { program := "ytcliocbkoijblaa", sum := "9084c457657cf3753e65ffec1294292b01cc62898507b9a1fcb590810c1dde2d", func := "loop.example/g00447/laws.FnExactExpandSet", spec := "fnExactExpandSet", unfollowed := true, recurses := true, apart := false, narrowed := true }
def FnExactExpandSetUptoSaid : Prop := fnExactExpandSetUptoRow.holds Try.pinned (OpenSpec.upto fnExactExpandSetSpec)

/-- 'laws.FnExpands', WHERE WHAT IT READS IS OF BULK AT MOST 1048576: true; the input reads as it did. -/
def fnExpandsUptoRow : OpenClaim := { program := "ytcliocbkoijblaa", sum := "9084c457657cf3753e65ffec1294292b01cc62898507b9a1fcb590810c1dde2d", func := "loop.example/g00447/laws.FnExpands", spec := "fnExpands", unfollowed := true, recurses := true, apart := false, narrowed := true }
def FnExpandsUptoSaid : Prop := fnExpandsUptoRow.holds Try.pinned (OpenSpec.upto fnExpandsSpec)

end Rows
end Go.Proofs.Ytcliocbkoijblaa

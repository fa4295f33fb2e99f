/-
  No cell of these rows narrows 'for every input' (looked for: loops, veiled, ifaces, maps, wideKeys, modest, calm, conditions, laid).
  DERIVED. THE GIVEN ROWS OF THIS SEAT. 12 by the template 'for every input the law returns true; each argument reads behind the call as it read before'; 0 by the template 'total and deterministic' (their statements: YtfbgfakdflifdaaTotals.lean).
  GIVEN WITH THE SEED: the statements are not yours to turn. If you find one false, say at which input.
  Laid BY PROGRAM, IN A SANDBOX (cutbox-rows.mjs): the forced cells as the released guide's own fill.sh prints them over the translation e4507c2785d35a57… (all of the seat's roots in one cut). By AI agents, Wed Nov 11 2026. No macro, syntax, notation, axiom, sorry.
-/
import Derived.Test.YtfbgfakdflifdaaChecked
import GoSem.Claim
import GoSem.ClaimJoined
import GoSem.ClaimMapViews
import Derived.JoinedTies
import Derived.KernelRfl
namespace Go.Proofs.Ytfbgfakdflifdaa
/- THE CELL 'sum', in the pinned program and in every row, IS THE sha256 OF THE DUMP (.gsa) THAT YtfbgfakdflifdaaProg.lean LOADS. Nothing in Lean hashes anything: it is a label: what it is worth is what the hold of that sum in a sandbox is worth. -/
noncomputable def Try.pinned : Pinned := { name := "ytfbgfakdflifdaa", sum := "e4507c2785d35a576c436e3209e00eb6cc76a6713aca7a44cab1c8aa64e8f012", checked := Try.checked }
namespace Rows
def none {H : Type} : Left H := { results := [], args := [] }

/-- 'laws.FnExactSameOps': WHATEVER THE INPUT: true; the input reads as it did. -/
def fnExactSameOpsSpec : ChangeSpec := { name := "fnExactSameOps", fn := fun _ => fun
  | [d1, d2] => { results := [.lit (.bool true)], args := [d1, d2] }
  | _ => none }
def fnExactSameOpsRow : OpenClaim := { program := "ytfbgfakdflifdaa", sum := "e4507c2785d35a576c436e3209e00eb6cc76a6713aca7a44cab1c8aa64e8f012", func := "loop.example/g00447/laws.FnExactSameOps", spec := "fnExactSameOps", unfollowed := true, recurses := true, apart := false }
def FnExactSameOpsSaid : Prop := fnExactSameOpsRow.holds Try.pinned (OpenSpec.ofChange fnExactSameOpsSpec)

/-- ITS FALSE NEIGHBOUR: 'it returns false'. Refute it at one input. -/
def fnExactSameOpsWrong : ChangeSpec := { name := "fnExactSameOps", fn := fun _ => fun
  | [d1, d2] => { results := [.lit (.bool false)], args := [d1, d2] }
  | _ => none }
def FnExactSameOpsWrongFalsely : Prop := fnExactSameOpsRow.holds Try.pinned (OpenSpec.ofChange fnExactSameOpsWrong)

/-- 'laws.FnExactSameTerms': WHATEVER THE INPUT: true; the input reads as it did. -/
def fnExactSameTermsSpec : ChangeSpec := { name := "fnExactSameTerms", fn := fun _ => fun
  | [d1, d2] => { results := [.lit (.bool true)], args := [d1, d2] }
  | _ => none }
def fnExactSameTermsRow : OpenClaim := { program := "ytfbgfakdflifdaa", sum := "e4507c2785d35a576c436e3209e00eb6cc76a6713aca7a44cab1c8aa64e8f012", func := "loop.example/g00447/laws.FnExactSameTerms", spec := "fnExactSameTerms", unfollowed := true, recurses := true, apart := false }
def FnExactSameTermsSaid : Prop := fnExactSameTermsRow.holds Try.pinned (OpenSpec.ofChange fnExactSameTermsSpec)

/-- ITS FALSE NEIGHBOUR: 'it returns false'. Refute it at one input. -/
def fnExactSameTermsWrong : ChangeSpec := { name := "fnExactSameTerms", fn := fun _ => fun
  | [d1, d2] => { results := [.lit (.bool false)], args := [d1, d2] }
  | _ => none }
def FnExactSameTermsWrongFalsely : Prop := fnExactSameTermsRow.holds Try.pinned (OpenSpec.ofChange fnExactSameTermsWrong)

/-- 'laws.FnExactOpFault': WHATEVER THE INPUT: true; the input reads as it did. -/
def fnExactOpFaultSpec : ChangeSpec := { name := "fnExactOpFault", fn := fun _ => fun
  | [d] => { results := [.lit (.bool true)], args := [d] }
  | _ => none }
def fnExactOpFaultRow : OpenClaim := { program := "ytfbgfakdflifdaa", sum := "e4507c2785d35a576c436e3209e00eb6cc76a6713aca7a44cab1c8aa64e8f012", func := "loop.example/g00447/laws.FnExactOpFault", spec := "fnExactOpFault", apart := false }
def FnExactOpFaultSaid : Prop := fnExactOpFaultRow.holds Try.pinned (OpenSpec.ofChange fnExactOpFaultSpec)

/-- ITS FALSE NEIGHBOUR: 'it returns false'. Refute it at one input. -/
def fnExactOpFaultWrong : ChangeSpec := { name := "fnExactOpFault", fn := fun _ => fun
  | [d] => { results := [.lit (.bool false)], args := [d] }
  | _ => none }
def FnExactOpFaultWrongFalsely : Prop := fnExactOpFaultRow.holds Try.pinned (OpenSpec.ofChange fnExactOpFaultWrong)

/-- 'laws.FnExactBoxFault': WHATEVER THE INPUT: true; the input reads as it did. -/
def fnExactBoxFaultSpec : ChangeSpec := { name := "fnExactBoxFault", fn := fun _ => fun
  | [d] => { results := [.lit (.bool true)], args := [d] }
  | _ => none }
def fnExactBoxFaultRow : OpenClaim := { program := "ytfbgfakdflifdaa", sum := "e4507c2785d35a576c436e3209e00eb6cc76a6713aca7a44cab1c8aa64e8f012", func := "loop.example/g00447/laws.FnExactBoxFault", spec := "fnExactBoxFault", apart := false }
def FnExactBoxFaultSaid : Prop := fnExactBoxFaultRow.holds Try.pinned (OpenSpec.ofChange fnExactBoxFaultSpec)

/-- ITS FALSE NEIGHBOUR: 'it returns false'. Refute it at one input. -/
def fnExactBoxFaultWrong : ChangeSpec := { name := "fnExactBoxFault", fn := fun _ => fun
  | [d] => { results := [.lit (.bool false)], args := [d] }
  | _ => none }
def FnExactBoxFaultWrongFalsely : Prop := fnExactBoxFaultRow.holds Try.pinned (OpenSpec.ofChange fnExactBoxFaultWrong)

/-- 'laws.FnExactSameStores': WHATEVER THE INPUT: true; the input reads as it did. -/
def fnExactSameStoresSpec : ChangeSpec := { name := "fnExactSameStores", fn := fun _ => fun
  | [d1, d2] => { results := [.lit (.bool true)], args := [d1, d2] }
  | _ => none }
def fnExactSameStoresRow : OpenClaim := { program := "ytfbgfakdflifdaa", sum := "e4507c2785d35a576c436e3209e00eb6cc76a6713aca7a44cab1c8aa64e8f012", func := "loop.example/g00447/laws.FnExactSameStores", spec := "fnExactSameStores", unfollowed := true, recurses := true, apart := false }
def FnExactSameStoresSaid : Prop := fnExactSameStoresRow.holds Try.pinned (OpenSpec.ofChange fnExactSameStoresSpec)

/-- ITS FALSE NEIGHBOUR: 'it returns false'. Refute it at one input. -/
def fnExactSameStoresWrong : ChangeSpec := { name := "fnExactSameStores", fn := fun _ => fun
  | [d1, d2] => { results := [.lit (.bool false)], args := [d1, d2] }
  | _ => none }
def FnExactSameStoresWrongFalsely : Prop := fnExactSameStoresRow.holds Try.pinned (OpenSpec.ofChange fnExactSameStoresWrong)

/-- 'laws.FnExactSequenceOf': WHATEVER THE INPUT: true; the input reads as it did. -/
def fnExactSequenceOfSpec : ChangeSpec := { name := "fnExactSequenceOf", fn := fun _ => fun
  | [d1, d2] => { results := [.lit (.bool true)], args := [d1, d2] }
  | _ => none }
def fnExactSequenceOfRow : OpenClaim := { program := "ytfbgfakdflifdaa", sum := "e4507c2785d35a576c436e3209e00eb6cc76a6713aca7a44cab1c8aa64e8f012", func := "loop.example/g00447/laws.FnExactSequenceOf", spec := "fnExactSequenceOf", unfollowed := true, recurses := true, apart := false }
def FnExactSequenceOfSaid : Prop := fnExactSequenceOfRow.holds Try.pinned (OpenSpec.ofChange fnExactSequenceOfSpec)

/-- ITS FALSE NEIGHBOUR: 'it returns false'. Refute it at one input. -/
def fnExactSequenceOfWrong : ChangeSpec := { name := "fnExactSequenceOf", fn := fun _ => fun
  | [d1, d2] => { results := [.lit (.bool false)], args := [d1, d2] }
  | _ => none }
def FnExactSequenceOfWrongFalsely : Prop := fnExactSequenceOfRow.holds Try.pinned (OpenSpec.ofChange fnExactSequenceOfWrong)

/-- 'laws.FnExactNewVault': WHATEVER THE INPUT: true; the input reads as it did. -/
def fnExactNewVaultSpec : ChangeSpec := { name := "fnExactNewVault", fn := fun _ => fun
  | [] => { results := [.lit (.bool true)], args := [] }
  | _ => none }
def fnExactNewVaultRow : OpenClaim := { program := "ytfbgfakdflifdaa", sum := "e4507c2785d35a576c436e3209e00eb6cc76a6713aca7a44cab1c8aa64e8f012", func := "loop.example/g00447/laws.FnExactNewVault", spec := "fnExactNewVault", apart := false }
def FnExactNewVaultSaid : Prop := fnExactNewVaultRow.holds Try.pinned (OpenSpec.ofChange fnExactNewVaultSpec)

/-- ITS FALSE NEIGHBOUR: 'it returns false'. Refute it at one input. -/
def fnExactNewVaultWrong : ChangeSpec := { name := "fnExactNewVault", fn := fun _ => fun
  | [] => { results := [.lit (.bool false)], args := [] }
  | _ => none }
def FnExactNewVaultWrongFalsely : Prop := fnExactNewVaultRow.holds Try.pinned (OpenSpec.ofChange fnExactNewVaultWrong)

/-- 'laws.FnExactPackOp': WHATEVER THE INPUT: true; the input reads as it did. -/
def fnExactPackOpSpec : ChangeSpec := { name := "fnExactPackOp", fn := fun _ => fun
  | [d] => { results := [.lit (.bool true)], args := [d] }
  | _ => none }
def fnExactPackOpRow : OpenClaim := { program := "ytfbgfakdflifdaa", sum := "e4507c2785d35a576c436e3209e00eb6cc76a6713aca7a44cab1c8aa64e8f012", func := "loop.example/g00447/laws.FnExactPackOp", spec := "fnExactPackOp", apart := false }
def FnExactPackOpSaid : Prop := fnExactPackOpRow.holds Try.pinned (OpenSpec.ofChange fnExactPackOpSpec)

/-- ITS FALSE NEIGHBOUR: 'it returns false'. Refute it at one input. -/
def fnExactPackOpWrong : ChangeSpec := { name := "fnExactPackOp", fn := fun _ => fun
  | [d] => { results := [.lit (.bool false)], args := [d] }
  | _ => none }
def FnExactPackOpWrongFalsely : Prop := fnExactPackOpRow.holds Try.pinned (OpenSpec.ofChange fnExactPackOpWrong)

/-- 'laws.FnExactStoreFault': WHATEVER THE INPUT: true; the input reads as it did. -/
def fnExactStoreFaultSpec : ChangeSpec := { name := "fnExactStoreFault", fn := fun _ => fun
  | [d] => { results := [.lit (.bool true)], args := [d] }
  | _ => none }
def fnExactStoreFaultRow : OpenClaim := { program := "ytfbgfakdflifdaa", sum := "e4507c2785d35a576c436e3209e00eb6cc76a6713aca7a44cab1c8aa64e8f012", func := "loop.example/g00447/laws.FnExactStoreFault", spec := "fnExactStoreFault", unfollowed := true, recurses := true, apart := false }
def FnExactStoreFaultSaid : Prop := fnExactStoreFaultRow.holds Try.pinned (OpenSpec.ofChange fnExactStoreFaultSpec)

/-- ITS FALSE NEIGHBOUR: 'it returns false'. Refute it at one input. -/
def fnExactStoreFaultWrong : ChangeSpec := { name := "fnExactStoreFault", fn := fun _ => fun
  | [d] => { results := [.lit (.bool false)], args := [d] }
  | _ => none }
def FnExactStoreFaultWrongFalsely : Prop := fnExactStoreFaultRow.holds Try.pinned (OpenSpec.ofChange fnExactStoreFaultWrong)

/-- 'laws.FnExactTermsFault': WHATEVER THE INPUT: true; the input reads as it did. -/
def fnExactTermsFaultSpec : ChangeSpec := { name := "fnExactTermsFault", fn := fun _ => fun
  | [d] => { results := [.lit (.bool true)], args := [d] }
  | _ => none }
def fnExactTermsFaultRow : OpenClaim := { program := "ytfbgfakdflifdaa", sum := "e4507c2785d35a576c436e3209e00eb6cc76a6713aca7a44cab1c8aa64e8f012", func := "loop.example/g00447/laws.FnExactTermsFault", spec := "fnExactTermsFault", unfollowed := true, recurses := true, apart := false }
def FnExactTermsFaultSaid : Prop := fnExactTermsFaultRow.holds Try.pinned (OpenSpec.ofChange fnExactTermsFaultSpec)

/-- ITS FALSE NEIGHBOUR: 'it returns false'. Refute it at one input. -/
def fnExactTermsFaultWrong : ChangeSpec := { name := "fnExactTermsFault", fn := fun _ => fun
  | [d] => { results := [.lit (.bool false)], args := [d] }
  | _ => none }
def FnExactTermsFaultWrongFalsely : Prop := fnExactTermsFaultRow.holds Try.pinned (OpenSpec.ofChange fnExactTermsFaultWrong)

/-- 'laws.FnExactSameCmds': WHATEVER THE INPUT: true; the input reads as it did. -/
def fnExactSameCmdsSpec : ChangeSpec := { name := "fnExactSameCmds", fn := fun _ => fun
  | [d1, d2] => { results := [.lit (.bool true)], args := [d1, d2] }
  | _ => none }
def fnExactSameCmdsRow : OpenClaim := { program := "ytfbgfakdflifdaa", sum := "e4507c2785d35a576c436e3209e00eb6cc76a6713aca7a44cab1c8aa64e8f012", func := "loop.example/g00447/laws.FnExactSameCmds", spec := "fnExactSameCmds", unfollowed := true, recurses := true, apart := false }
def FnExactSameCmdsSaid : Prop := fnExactSameCmdsRow.holds Try.pinned (OpenSpec.ofChange fnExactSameCmdsSpec)

/-- ITS FALSE NEIGHBOUR: 'it returns false'. Refute it at one input. -/
def fnExactSameCmdsWrong : ChangeSpec := { name := "fnExactSameCmds", fn := fun _ => fun
  | [d1, d2] => { results := [.lit (.bool false)], args := [d1, d2] }
  | _ => none }
def FnExactSameCmdsWrongFalsely : Prop := fnExactSameCmdsRow.holds Try.pinned (OpenSpec.ofChange fnExactSameCmdsWrong)

/-- 'laws.FnExactReadOp': WHATEVER THE INPUT: true; the input reads as it did. -/
def fnExactReadOpSpec : ChangeSpec := { name := "fnExactReadOp", fn := fun _ => fun
  | [d] => { results := [.lit (.bool true)], args := [d] }
  | _ => none }
def fnExactReadOpRow : OpenClaim := { program := "ytfbgfakdflifdaa", sum := "e4507c2785d35a576c436e3209e00eb6cc76a6713aca7a44cab1c8aa64e8f012", func := "loop.example/g00447/laws.FnExactReadOp", spec := "fnExactReadOp", apart := false }
def FnExactReadOpSaid : Prop := fnExactReadOpRow.holds Try.pinned (OpenSpec.ofChange fnExactReadOpSpec)

/-- ITS FALSE NEIGHBOUR: 'it returns false'. Refute it at one input. -/
def fnExactReadOpWrong : ChangeSpec := { name := "fnExactReadOp", fn := fun _ => fun
  | [d] => { results := [.lit (.bool false)], args := [d] }
  | _ => none }
def FnExactReadOpWrongFalsely : Prop := fnExactReadOpRow.holds Try.pinned (OpenSpec.ofChange fnExactReadOpWrong)

/- THE SECOND FORM. 'bulk': how many values and letters a reading holds, each counted each time it is reached (what is shared counts as often as it is met; a slice's spare places count too). A statement '..UptoSaid' is the law's where the arguments, and the package variables that the reading takes, are together of bulk at most 1048576: NARROWER than '..Said'. Prove '..Said' where nothing that the law and all that it calls make is longer than what came in: it says more and counts as full. Else prove '..UptoSaid'. A law counts once. -/
mutual
def uptoBulk {H : Type} : DataW H → Nat
  | .lit (.string bytes) => bytes.length + 1
  | .lit _ => 1
  | .nil => 1
  | .ptr d => uptoBulk d + 1
  | .slice elems spare => uptoBulkAll elems + uptoBulkAll spare + 1
  | .agg parts => uptoBulkAll parts + 1
  | .iface _ d => uptoBulk d + 1
  | .map entries => uptoBulkEntries entries + 1
  | .held _ => 1
def uptoBulkAll {H : Type} : List (DataW H) → Nat
  | [] => 0
  | d :: r => uptoBulk d + uptoBulkAll r
def uptoBulkEntries {H : Type} : List (Lit × DataW H) → Nat
  | [] => 0
  | x :: r => uptoBulkEntry x + uptoBulkEntries r
def uptoBulkEntry {H : Type} : Lit × DataW H → Nat
  | (.string bytes, d) => bytes.length + uptoBulk d + 1
  | (_, d) => uptoBulk d + 1
 end
def uptoSmall : (H : Type) → List (DataW H) → Bool := fun _ ds => decide (uptoBulkAll ds ≤ 1048576)
def OpenSpec.upto (s : _root_.Go.ChangeSpec) : _root_.Go.OpenSpec := { _root_.Go.OpenSpec.ofChange s with cond := some uptoSmall }

/-- 'laws.FnExactSameOps', WHERE WHAT IT READS IS OF BULK AT MOST 1048576: true; the input reads as it did. -/
def fnExactSameOpsUptoRow : OpenClaim := { program := "ytfbgfakdflifdaa", sum := "e4507c2785d35a576c436e3209e00eb6cc76a6713aca7a44cab1c8aa64e8f012", func := "loop.example/g00447/laws.FnExactSameOps", spec := "fnExactSameOps", unfollowed := true, recurses := true, apart := false, narrowed := true }
def FnExactSameOpsUptoSaid : Prop := fnExactSameOpsUptoRow.holds Try.pinned (OpenSpec.upto fnExactSameOpsSpec)

/-- 'laws.FnExactSameTerms', WHERE WHAT IT READS IS OF BULK AT MOST 1048576: true; the input reads as it did. -/
def fnExactSameTermsUptoRow : OpenClaim := { program := "ytfbgfakdflifdaa", sum := "e4507c2785d35a576c436e3209e00eb6cc76a6713aca7a44cab1c8aa64e8f012", func := "loop.example/g00447/laws.FnExactSameTerms", spec := "fnExactSameTerms", unfollowed := true, recurses := true, apart := false, narrowed := true }
def FnExactSameTermsUptoSaid : Prop := fnExactSameTermsUptoRow.holds Try.pinned (OpenSpec.upto fnExactSameTermsSpec)

/-- 'laws.FnExactOpFault', WHERE WHAT IT READS IS OF BULK AT MOST 1048576: true; the input reads as it did. -/
def fnExactOpFaultUptoRow : OpenClaim := { program := "ytfbgfakdflifdaa", sum := "e4507c2785d35a576c436e3209e00eb6cc76a6713aca7a44cab1c8aa64e8f012", func := "loop.example/g00447/laws.FnExactOpFault", spec := "fnExactOpFault", apart := false, narrowed := true }
def FnExactOpFaultUptoSaid : Prop := fnExactOpFaultUptoRow.holds Try.pinned (OpenSpec.upto fnExactOpFaultSpec)

/-- 'laws.FnExactBoxFault', WHERE WHAT IT READS IS OF BULK AT MOST 1048576: true; the input reads as it did. -/
def fnExactBoxFaultUptoRow : OpenClaim := { program := "ytfbgfakdflifdaa", sum := "e4507c2785d35a576c436e3209e00eb6cc76a6713aca7a44cab1c8aa64e8f012", func := "loop.example/g00447/laws.FnExactBoxFault", spec := "fnExactBoxFault", apart := false, narrowed := true }
def FnExactBoxFaultUptoSaid : Prop := fnExactBoxFaultUptoRow.holds Try.pinned (OpenSpec.upto fnExactBoxFaultSpec)

/-- 'laws.FnExactSameStores', WHERE WHAT IT READS IS OF BULK AT MOST 1048576: true; the input reads as it did. -/
def fnExactSameStoresUptoRow : OpenClaim := { program := "ytfbgfakdflifdaa", sum := "e4507c2785d35a576c436e3209e00eb6cc76a6713aca7a44cab1c8aa64e8f012", func := "loop.example/g00447/laws.FnExactSameStores", spec := "fnExactSameStores", unfollowed := true, recurses := true, apart := false, narrowed := true }
def FnExactSameStoresUptoSaid : Prop := fnExactSameStoresUptoRow.holds Try.pinned (OpenSpec.upto fnExactSameStoresSpec)

/-- 'laws.FnExactSequenceOf', WHERE WHAT IT READS IS OF BULK AT MOST 1048576: true; the input reads as it did. -/
def fnExactSequenceOfUptoRow : OpenClaim := { program := "ytfbgfakdflifdaa", sum := "e4507c2785d35a576c436e3209e00eb6cc76a6713aca7a44cab1c8aa64e8f012", func := "loop.example/g00447/laws.FnExactSequenceOf", spec := "fnExactSequenceOf", unfollowed := true, recurses := true, apart := false, narrowed := true }
def FnExactSequenceOfUptoSaid : Prop := fnExactSequenceOfUptoRow.holds Try.pinned (OpenSpec.upto fnExactSequenceOfSpec)

/-- 'laws.FnExactNewVault', WHERE WHAT IT READS IS OF BULK AT MOST 1048576: true; the input reads as it did. -/
def fnExactNewVaultUptoRow : OpenClaim := { program := "ytfbgfakdflifdaa", sum := "e4507c2785d35a576c436e3209e00eb6cc76a6713aca7a44cab1c8aa64e8f012", func := "loop.example/g00447/laws.FnExactNewVault", spec := "fnExactNewVault", apart := false, narrowed := true }
def FnExactNewVaultUptoSaid : Prop := fnExactNewVaultUptoRow.holds Try.pinned (OpenSpec.upto fnExactNewVaultSpec)

/-- 'laws.FnExactPackOp', WHERE WHAT IT READS IS OF BULK AT MOST 1048576: true; the input reads as it did. -/
def fnExactPackOpUptoRow : OpenClaim := { program := "ytfbgfakdflifdaa", sum := "e4507c2785d35a576c436e3209e00eb6cc76a6713aca7a44cab1c8aa64e8f012", func := "loop.example/g00447/laws.FnExactPackOp", spec := "fnExactPackOp", apart := false, narrowed := true }
def FnExactPackOpUptoSaid : Prop := fnExactPackOpUptoRow.holds Try.pinned (OpenSpec.upto fnExactPackOpSpec)

/-- 'laws.FnExactStoreFault', WHERE WHAT IT READS IS OF BULK AT MOST 1048576: true; the input reads as it did. -/
def fnExactStoreFaultUptoRow : OpenClaim := { program := "ytfbgfakdflifdaa", sum := "e4507c2785d35a576c436e3209e00eb6cc76a6713aca7a44cab1c8aa64e8f012", func := "loop.example/g00447/laws.FnExactStoreFault", spec := "fnExactStoreFault", unfollowed := true, recurses := true, apart := false, narrowed := true }
def FnExactStoreFaultUptoSaid : Prop := fnExactStoreFaultUptoRow.holds Try.pinned (OpenSpec.upto fnExactStoreFaultSpec)

/-- 'laws.FnExactTermsFault', WHERE WHAT IT READS IS OF BULK AT MOST 1048576: true; the input reads as it did. -/
def fnExactTermsFaultUptoRow : OpenClaim := { program := "ytfbgfakdflifdaa", sum := "e4507c2785d35a576c436e3209e00eb6cc76a6713aca7a44cab1c8aa64e8f012", func := "loop.example/g00447/laws.FnExactTermsFault", spec := "fnExactTermsFault", unfollowed := true, recurses := true, apart := false, narrowed := true }
def FnExactTermsFaultUptoSaid : Prop := fnExactTermsFaultUptoRow.holds Try.pinned (OpenSpec.upto fnExactTermsFaultSpec)

/-- 'laws.FnExactSameCmds', WHERE WHAT IT READS IS OF BULK AT MOST 1048576: true; the input reads as it did. -/
def fnExactSameCmdsUptoRow : OpenClaim := { program := "ytfbgfakdflifdaa", sum := "e4507c2785d35a576c436e3209e00eb6cc76a6713aca7a44cab1c8aa64e8f012", func := "loop.example/g00447/laws.FnExactSameCmds", spec := "fnExactSameCmds", unfollowed := true, recurses := true, apart := false, narrowed := true }
def FnExactSameCmdsUptoSaid : Prop := fnExactSameCmdsUptoRow.holds Try.pinned (OpenSpec.upto fnExactSameCmdsSpec)

/-- 'laws.FnExactReadOp', WHERE WHAT IT READS IS OF BULK AT MOST 1048576: true; the input reads as it did. -/
def fnExactReadOpUptoRow : OpenClaim := { program := "ytfbgfakdflifdaa", sum := "e4507c2785d35a576c436e3209e00eb6cc76a6713aca7a44cab1c8aa64e8f012", func := "loop.example/g00447/laws.FnExactReadOp", spec := "fnExactReadOp", apart := false, narrowed := true }
def FnExactReadOpUptoSaid : Prop := fnExactReadOpUptoRow.holds Try.pinned (OpenSpec.upto fnExactReadOpSpec)

end Rows
end Go.Proofs.Ytfbgfakdflifdaa

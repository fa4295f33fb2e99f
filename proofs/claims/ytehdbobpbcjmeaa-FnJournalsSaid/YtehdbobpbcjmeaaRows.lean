/-
  No cell of these rows narrows 'for every input' (looked for: loops, veiled, ifaces, maps, wideKeys, modest, calm, conditions, laid).
  DERIVED. THE GIVEN ROWS OF THIS SEAT. 5 by the template 'for every input the law returns true; each argument reads behind the call as it read before'; 0 by the template 'total and deterministic' (their statements: YtehdbobpbcjmeaaTotals.lean).
  GIVEN WITH THE SEED: the statements are not yours to turn. If you find one false, say at which input.
  Laid BY PROGRAM, IN A SANDBOX (cutbox-rows.mjs): the forced cells as the released guide's own fill.sh prints them over the translation a7025f449c1c77ad… (all of the seat's roots in one cut). By AI agents, Wed Nov 11 2026. No macro, syntax, notation, axiom, sorry.
-/
import Derived.Test.YtehdbobpbcjmeaaChecked
import GoSem.Claim
import GoSem.ClaimJoined
import GoSem.ClaimMapViews
import Derived.JoinedTies
import Derived.KernelRfl
namespace Go.Proofs.Ytehdbobpbcjmeaa
/- THE CELL 'sum', in the pinned program and in every row, IS THE sha256 OF THE DUMP (.gsa) THAT YtehdbobpbcjmeaaProg.lean LOADS. Nothing in Lean hashes anything: it is a label: what it is worth is what the hold of that sum in a sandbox is worth. -/
noncomputable def Try.pinned : Pinned := { name := "ytehdbobpbcjmeaa", sum := "a7025f449c1c77ad344c2ddc8ca7cdaceef575c687f02efacbbf0b736d1f8961", checked := Try.checked }
namespace Rows
def none {H : Type} : Left H := { results := [], args := [] }

/-- 'laws.FnExactPackOps': WHATEVER THE INPUT: true; the input reads as it did. -/
def fnExactPackOpsSpec : ChangeSpec := { name := "fnExactPackOps", fn := fun _ => fun
  | [d] => { results := [.lit (.bool true)], args := [d] }
  | _ => none }
def fnExactPackOpsRow : OpenClaim := { program := "ytehdbobpbcjmeaa", sum := "a7025f449c1c77ad344c2ddc8ca7cdaceef575c687f02efacbbf0b736d1f8961", func := "loop.example/g00447/laws.FnExactPackOps", spec := "fnExactPackOps", apart := false }
def FnExactPackOpsSaid : Prop := fnExactPackOpsRow.holds Try.pinned (OpenSpec.ofChange fnExactPackOpsSpec)

/-- ITS FALSE NEIGHBOUR: 'it returns false'. Refute it at one input. -/
def fnExactPackOpsWrong : ChangeSpec := { name := "fnExactPackOps", fn := fun _ => fun
  | [d] => { results := [.lit (.bool false)], args := [d] }
  | _ => none }
def FnExactPackOpsWrongFalsely : Prop := fnExactPackOpsRow.holds Try.pinned (OpenSpec.ofChange fnExactPackOpsWrong)

/-- 'laws.FnExactReadOp': WHATEVER THE INPUT: true; the input reads as it did. -/
def fnExactReadOpSpec : ChangeSpec := { name := "fnExactReadOp", fn := fun _ => fun
  | [d] => { results := [.lit (.bool true)], args := [d] }
  | _ => none }
def fnExactReadOpRow : OpenClaim := { program := "ytehdbobpbcjmeaa", sum := "a7025f449c1c77ad344c2ddc8ca7cdaceef575c687f02efacbbf0b736d1f8961", func := "loop.example/g00447/laws.FnExactReadOp", spec := "fnExactReadOp", apart := false }
def FnExactReadOpSaid : Prop := fnExactReadOpRow.holds Try.pinned (OpenSpec.ofChange fnExactReadOpSpec)

/-- ITS FALSE NEIGHBOUR: 'it returns false'. Refute it at one input. -/
def fnExactReadOpWrong : ChangeSpec := { name := "fnExactReadOp", fn := fun _ => fun
  | [d] => { results := [.lit (.bool false)], args := [d] }
  | _ => none }
def FnExactReadOpWrongFalsely : Prop := fnExactReadOpRow.holds Try.pinned (OpenSpec.ofChange fnExactReadOpWrong)

/-- 'laws.FnExactReadJournal': WHATEVER THE INPUT: true; the input reads as it did. -/
def fnExactReadJournalSpec : ChangeSpec := { name := "fnExactReadJournal", fn := fun _ => fun
  | [d] => { results := [.lit (.bool true)], args := [d] }
  | _ => none }
def fnExactReadJournalRow : OpenClaim := { program := "ytehdbobpbcjmeaa", sum := "a7025f449c1c77ad344c2ddc8ca7cdaceef575c687f02efacbbf0b736d1f8961", func := "loop.example/g00447/laws.FnExactReadJournal", spec := "fnExactReadJournal", apart := false }
def FnExactReadJournalSaid : Prop := fnExactReadJournalRow.holds Try.pinned (OpenSpec.ofChange fnExactReadJournalSpec)

/-- ITS FALSE NEIGHBOUR: 'it returns false'. Refute it at one input. -/
def fnExactReadJournalWrong : ChangeSpec := { name := "fnExactReadJournal", fn := fun _ => fun
  | [d] => { results := [.lit (.bool false)], args := [d] }
  | _ => none }
def FnExactReadJournalWrongFalsely : Prop := fnExactReadJournalRow.holds Try.pinned (OpenSpec.ofChange fnExactReadJournalWrong)

/-- 'laws.FnReads': WHATEVER THE INPUT: true; the input reads as it did. -/
def fnReadsSpec : ChangeSpec := { name := "fnReads", fn := fun _ => fun
  | [d] => { results := [.lit (.bool true)], args := [d] }
  | _ => none }
def fnReadsRow : OpenClaim := { program := "ytehdbobpbcjmeaa", sum := "a7025f449c1c77ad344c2ddc8ca7cdaceef575c687f02efacbbf0b736d1f8961", func := "loop.example/g00447/laws.FnReads", spec := "fnReads", unfollowed := true, recurses := true, apart := false }
def FnReadsSaid : Prop := fnReadsRow.holds Try.pinned (OpenSpec.ofChange fnReadsSpec)

/-- ITS FALSE NEIGHBOUR: 'it returns false'. Refute it at one input. -/
def fnReadsWrong : ChangeSpec := { name := "fnReads", fn := fun _ => fun
  | [d] => { results := [.lit (.bool false)], args := [d] }
  | _ => none }
def FnReadsWrongFalsely : Prop := fnReadsRow.holds Try.pinned (OpenSpec.ofChange fnReadsWrong)

/-- 'laws.FnJournals': WHATEVER THE INPUT: true; the input reads as it did. -/
def fnJournalsSpec : ChangeSpec := { name := "fnJournals", fn := fun _ => fun
  | [d] => { results := [.lit (.bool true)], args := [d] }
  | _ => none }
def fnJournalsRow : OpenClaim := { program := "ytehdbobpbcjmeaa", sum := "a7025f449c1c77ad344c2ddc8ca7cdaceef575c687f02efacbbf0b736d1f8961", func := "loop.example/g00447/laws.FnJournals", spec := "fnJournals", unfollowed := true, recurses := true, apart := false }
def FnJournalsSaid : Prop := fnJournalsRow.holds Try.pinned (OpenSpec.ofChange fnJournalsSpec)

/-- ITS FALSE NEIGHBOUR: 'it returns false'. Refute it at one input. -/
def fnJournalsWrong : ChangeSpec := { name := "fnJournals", fn := fun _ => fun
  | [d] => { results := [.lit (.bool false)], args := [d] }
  | _ => none }
def FnJournalsWrongFalsely : Prop := fnJournalsRow.holds Try.pinned (OpenSpec.ofChange fnJournalsWrong)

/- THE SECOND FORM. 'bulk': how many values and letters a reading holds, each counted each time it is reached (what is shared counts as often as it is met; a slice's spare places count too). A statement '..UptoSaid' is the law's where the arguments, and the package variables that the reading takes, are together of bulk at most 1048576: NARROWER than '..Said'. Prove '..Said' where nothing that the law and all that it calls make is longer than what came in: it says more and counts as full. Else prove '..UptoSaid'. A law counts once. -/
mutual
def uptoBulk {H : Type} : DataW H → Nat
  | .lit (.string bytes) => bytes.length + 1
  | .lit _ => 1
  | .nil => 1
  | .ptr d => uptoBulk d + 1
  | .slice elems spare => uptoBulkAll elems + uptoBulkAll spare + 1
  | .agg parts => uptoBulkAll parts + 1
  | .iface _ d => uptoBulk d + 1
  | .map entries => uptoBulkEntries entries + 1
  | .held _ => 1
def uptoBulkAll {H : Type} : List (DataW H) → Nat
  | [] => 0
  | d :: r => uptoBulk d + uptoBulkAll r
def uptoBulkEntries {H : Type} : List (Lit × DataW H) → Nat
  | [] => 0
  | x :: r => uptoBulkEntry x + uptoBulkEntries r
def uptoBulkEntry {H : Type} : Lit × DataW H → Nat
  | (.string bytes, d) => bytes.length + uptoBulk d + 1
  | (_, d) => uptoBulk d + 1
 end
def uptoSmall : (H : Type) → List (DataW H) → Bool := fun _ ds => decide (uptoBulkAll ds ≤ 1048576)
def OpenSpec.upto (s : _root_.Go.ChangeSpec) : _root_.Go.OpenSpec := { _root_.Go.OpenSpec.ofChange s with cond := some uptoSmall }

/-- 'laws.FnExactPackOps', WHERE WHAT IT READS IS OF BULK AT MOST 1048576: true; the input reads as it did. -/
def fnExactPackOpsUptoRow : OpenClaim := { program := "ytehdbobpbcjmeaa", sum := "a7025f449c1c77ad344c2ddc8ca7cdaceef575c687f02efacbbf0b736d1f8961", func := "loop.example/g00447/laws.FnExactPackOps", spec := "fnExactPackOps", apart := false, narrowed := true }
def FnExactPackOpsUptoSaid : Prop := fnExactPackOpsUptoRow.holds Try.pinned (OpenSpec.upto fnExactPackOpsSpec)

/-- 'laws.FnExactReadOp', WHERE WHAT IT READS IS OF BULK AT MOST 1048576: true; the input reads as it did. -/
def fnExactReadOpUptoRow : OpenClaim := { program := "ytehdbobpbcjmeaa", sum := "a7025f449c1c77ad344c2ddc8ca7cdaceef575c687f02efacbbf0b736d1f8961", func := "loop.example/g00447/laws.FnExactReadOp", spec := "fnExactReadOp", apart := false, narrowed := true }
def FnExactReadOpUptoSaid : Prop := fnExactReadOpUptoRow.holds Try.pinned (OpenSpec.upto fnExactReadOpSpec)

/-- 'laws.FnExactReadJournal', WHERE WHAT IT READS IS OF BULK AT MOST 1048576: true; the input reads as it did. -/
def fnExactReadJournalUptoRow : OpenClaim := { program := "ytehdbobpbcjmeaa", sum := "a7025f449c1c77ad344c2ddc8ca7cdaceef575c687f02efacbbf0b736d1f8961", func := "loop.example/g00447/laws.FnExactReadJournal", spec := "fnExactReadJournal", apart := false, narrowed := true }
def FnExactReadJournalUptoSaid : Prop := fnExactReadJournalUptoRow.holds Try.pinned (OpenSpec.upto fnExactReadJournalSpec)

/-- 'laws.FnReads', WHERE WHAT IT READS IS OF BULK AT MOST 1048576: true; the input reads as it did. -/
def fnReadsUptoRow : OpenClaim := { program := "ytehdbobpbcjmeaa", sum := "a7025f449c1c77ad344c2ddc8ca7cdaceef575c687f02efacbbf0b736d1f8961", func := "loop.example/g00447/laws.FnReads", spec := "fnReads", unfollowed := true, recurses := true, apart := false, narrowed := true }
def FnReadsUptoSaid : Prop := fnReadsUptoRow.holds Try.pinned (OpenSpec.upto fnReadsSpec)

/-- 'laws.FnJournals', WHERE WHAT IT READS IS OF BULK AT MOST 1048576: true; the input reads as it did. -/
def fnJournalsUptoRow : OpenClaim := { program := "ytehdbobpbcjmeaa", sum := "a7025f449c1c77ad344c2ddc8ca7cdaceef575c687f02efacbbf0b736d1f8961", func := "loop.example/g00447/laws.FnJournals", spec := "fnJournals", unfollowed := true, recurses := true, apart := false, narrowed := true }
def FnJournalsUptoSaid : Prop := fnJournalsUptoRow.holds Try.pinned (OpenSpec.upto fnJournalsSpec)

end Rows
end Go.Proofs.Ytehdbobpbcjmeaa

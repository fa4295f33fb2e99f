/- Functions of the program as Lean functions, each with the proof that its call comes to what that function says (texts written by a program of this session). Conditions: those that stand in each theorem. -/
import Derived.Test.YtlneiofnmbcheaaProg
import Derived.Below
import Derived.Deep.Draws
import Derived.Deep.AppendLies
import Derived.Maps.AppendAt
import Derived.OwnWalk
import Derived.Laws.BytesArg
import Derived.Laws.MakeOwn
import Derived.Laws.OwnMore
import Derived.Deep.OwnRows
import Derived.Tactics
import Derived.Lib.ConvBytes
import Derived.Laws.Slices
import Derived.WalkKit
import Derived.KernelRfl
import Derived.RowKit3
import Derived.Deep.LoopGhost
import Derived.Deep.QuietTactic
import Derived.BigQuiet
import Derived.WideLaws
import Derived.Deep.DeepCutAuto
import Derived.Deep.CutBlock
import Derived.Deep.RegionHeld3
import Derived.Laws.Rows
import Derived.Lib.AppendStr
import Derived.ArgAppend
import Derived.Laws.IdiomCopy
import Derived.OrdersHeld
import Derived.Laws.BitsLemmas
import Derived.RowKit
import Derived.Lib.SliceRun
import Derived.Test.YtlneiofnmbcheaaX
import Derived.Test.YtlneiofnmbcheaaShelf
import Derived.Test.YtlneiofnmbcheaaWWords
import Derived.Test.YtlneiofnmbcheaaWLast
import Derived.Test.YtlneiofnmbcheaaWTab
import Derived.Test.YtlneiofnmbcheaaWFour
import Derived.Test.YtlneiofnmbcheaaWQPut
import Derived.Test.YtlneiofnmbcheaaWApart
import Derived.Test.YtlneiofnmbcheaaWArr
import Derived.Test.YtlneiofnmbcheaaWZeros
import Derived.Test.YtlneiofnmbcheaaWFoot
import Derived.Test.YtlneiofnmbcheaaWKept
import Derived.Test.YtlneiofnmbcheaaWShare
import Derived.Test.YtlneiofnmbcheaaWN
import Derived.Test.YtlneiofnmbcheaaWFootNe
import Derived.Test.YtlneiofnmbcheaaWAt
import Derived.Test.YtlneiofnmbcheaaWEqStruct
import Derived.Test.YtlneiofnmbcheaaWRepsOne
import Derived.Test.YtlneiofnmbcheaaWInv
import Derived.Test.YtlneiofnmbcheaaWInvWords
import Derived.Test.YtlneiofnmbcheaaWGuard
import Derived.Test.YtlneiofnmbcheaaWNEv
import Derived.Test.YtlneiofnmbcheaaWMore
namespace Go.Proofs.Ytlneiofnmbcheaa.PFnExactTagOf
open Go.RowKit Go.Proofs.YtlneiofnmbcheaaW.PrintWords Go.Proofs.YtlneiofnmbcheaaW.PrintLast Go.Proofs.YtlneiofnmbcheaaW.PrintMore
attribute [local go_sem] max2_int min2_int max_two min_two max_three min_three max_four min_four   -- for this text's walks alone
set_option linter.unusedVariables false
set_option linter.unusedSimpArgs false



def errW : Option Int → Value
  | none => .nilIface
  | some c => .iface 0 (.int .i64 c)
theorem errW_none : errW none = .nilIface := rfl
theorem errW_some (c : Int) : errW (some c) = .iface 0 (.int .i64 c) := rfl

theorem info9 : (Try.prog.info? 9).map (fun i => (i.zero, i.size, i.bytes)) = some (some (.string ⟨#[]⟩), 1, 16) := by kernel_rfl
-- the values' own types

end Go.Proofs.Ytlneiofnmbcheaa.PFnExactTagOf

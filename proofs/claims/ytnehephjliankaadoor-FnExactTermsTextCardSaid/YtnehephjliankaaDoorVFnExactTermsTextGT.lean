/- Words that the law's texts use (taken out of the print's words by a program of this session). No condition of its own. -/
import Derived.Test.YtnehephjliankaaDoorVFnExactTermsTextWWords
import Derived.Test.YtnehephjliankaaDoorVFnExactTermsTextWLast
import Derived.Test.YtnehephjliankaaDoorVFnExactTermsTextWApart
import Derived.Test.YtnehephjliankaaDoorVFnExactTermsTextWFoot
import Derived.Test.YtnehephjliankaaDoorVFnExactTermsTextWKept
import Derived.Test.YtnehephjliankaaDoorVFnExactTermsTextWShare
import Derived.Test.YtnehephjliankaaDoorVFnExactTermsTextWN
import Derived.Test.YtnehephjliankaaDoorVFnExactTermsTextWMore
import Derived.Test.YtnehephjliankaaDoorVFnExactTermsTextX
import Derived.Test.YtnehephjliankaaDoorVFnExactTermsTextY
import Derived.Test.YtnehephjliankaaDoorVFnExactTermsTextShelf
import Derived.Lib.LaidTab
import Derived.Lib.SmallJoins
import Derived.Lib.AppendIntMem
import Derived.KernelRfl
import Derived.LaidSub
import Derived.MakeChecks
namespace Go.Proofs.YtnehephjliankaaDoorW.PrintWords
open Go.RowKit Go.Sort
def GL (w : World) : Prop := Lib.TabIs Tryd.prog w "internal/strconv.uint64pow10" .u64 Lib.pow10Tab ∧ True
theorem GL_named : Tryd.prog.globalNamed "internal/strconv.uint64pow10" = some (Tryd.prog.globalNamed "internal/strconv.uint64pow10").get! := by kernel_rfl
theorem GL_up {w w1 : World} (h : GL w) (hb : Below w.heap.size w w1) : GL w1 := ⟨Joins.tab_stays GL_named h.1 hb (Nat.le_refl _), trivial⟩
theorem GL_grow (w : World) (k : Nat) (os : Array Obj) : Below w.heap.size w (grow (w.drewN k) os) := Lib.below_grow w.heap.size w (Nat.le_refl _) k os
theorem GL_laid {W : World} {l : List (String × DataW Unit)} (h : laidMetH Tryd.prog l W) (hp : (l.all fun x => x.2.handleName?.isNone) = true)
    (hf : l.filter (fun x => x.1 == "internal/strconv.uint64pow10") = [("internal/strconv.uint64pow10", Lib.tabData .u64 Lib.pow10Tab)]) : GL W := by
  rw [MakeChecks.laidMetH_plain _ _ _ hp] at h
  have h1 := laidMet.filter (fun x => x.1 == "internal/strconv.uint64pow10") h
  rw [hf] at h1
  refine ⟨?_, trivial⟩
  exact Lib.tabIs_of_head (g := 1) (t := 158) (e := 143) (n := 20) (by kernel_rfl) (by kernel_rfl) (by kernel_rfl) (by kernel_rfl) (by kernel_rfl) (by kernel_rfl) h1
end Go.Proofs.YtnehephjliankaaDoorW.PrintWords

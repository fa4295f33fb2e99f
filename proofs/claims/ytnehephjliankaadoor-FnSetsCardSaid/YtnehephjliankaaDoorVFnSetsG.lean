/- Words that the law's texts use (taken out of the print's words by a program of this session). No condition of its own. -/
import Derived.Test.YtnehephjliankaaDoorVFnSetsWWords
import Derived.Test.YtnehephjliankaaDoorVFnSetsWLast
import Derived.Test.YtnehephjliankaaDoorVFnSetsWApart
import Derived.Test.YtnehephjliankaaDoorVFnSetsWFoot
import Derived.Test.YtnehephjliankaaDoorVFnSetsWKept
import Derived.Test.YtnehephjliankaaDoorVFnSetsWShare
import Derived.Test.YtnehephjliankaaDoorVFnSetsWN
import Derived.Test.YtnehephjliankaaDoorVFnSetsWMore
import Derived.Test.YtnehephjliankaaDoorVFnSetsX
import Derived.Test.YtnehephjliankaaDoorVFnSetsY
import Derived.Test.YtnehephjliankaaDoorVFnSetsShelf
import Derived.Lib.LaidTab
import Derived.Lib.SmallJoins
import Derived.Lib.AppendIntMem
import Derived.KernelRfl
import Derived.LaidSub
import Derived.MakeChecks
import Derived.Shelf.Vars
import Derived.Lib.LaidU8
namespace Go.Proofs.YtnehephjliankaaDoorW.PrintWords
open Go.RowKit Go.Sort
def GL (w : World) : Prop := Lib.TabIs Tryd.prog w "internal/strconv.uint64pow10" .u64 Lib.pow10Tab ∧ (∃ m, w.cell? ⟨0, 0, none⟩ = some (.int .i64 m)) ∧
  (∃ ev, w.cell? ⟨4, 0, none⟩ = some ev ∧ (ev = .nilIface ∨ ∃ te pe, ev = .iface te pe)) ∧ (∃ ev, w.cell? ⟨5, 0, none⟩ = some ev ∧ (ev = .nilIface ∨ ∃ te pe, ev = .iface te pe))
theorem GL_named : Tryd.prog.globalNamed "internal/strconv.uint64pow10" = some (Tryd.prog.globalNamed "internal/strconv.uint64pow10").get! := by kernel_rfl
theorem GL_up {w w1 : World} (h : GL w) (hb : Below w.heap.size w w1) : GL w1 := by
  obtain ⟨h1, ⟨m, h2⟩, ⟨e1, h3, k3⟩, ⟨e2, h4, k4⟩⟩ := h
  exact ⟨Joins.tab_stays GL_named h1 hb (Nat.le_refl _), ⟨m, ck_ hb h2⟩, ⟨e1, ck_ hb h3, k3⟩, ⟨e2, ck_ hb h4, k4⟩⟩
theorem GL_grow (w : World) (k : Nat) (os : Array Obj) : Below w.heap.size w (grow (w.drewN k) os) := Lib.below_grow w.heap.size w (Nat.le_refl _) k os
theorem iface_of_reads {P : Program} {w : World} {n : String} {d : DataW Unit} {g : Nat} {t : TypeId} {ms : Array (String × TypeId)} (h : Lib.VarReads P w n d) (hg : P.globalNamed n = some g)
    (hty : (P.globals[g]?).map (·.type) = some t) (hu : P.underlying t = some (.interface ms)) : ∃ ev, w.cell? ⟨g, 0, none⟩ = some ev ∧ (ev = .nilIface ∨ ∃ te pe, ev = .iface te pe) := by
  obtain ⟨g', t', cs, fuel, p, h1, h2, h3, h4⟩ := h
  obtain rfl := Option.some.inj (hg.symm.trans h1)
  obtain rfl := Option.some.inj (hty.symm.trans h2)
  have hc := World.var?_cell hg h3 0
  obtain ⟨cs⟩ := cs
  cases fuel with
  | zero => simp [DataW.trod] at h4
  | succ fuel =>
    simp only [DataW.trod, hu] at h4
    rcases cs with _ | ⟨v, _ | ⟨v2, rest⟩⟩
    · simp at h4
    · refine ⟨v, by simpa using hc, ?_⟩
      cases v <;> simp at h4 ⊢
    · cases v <;> simp at h4
theorem GL_laid {W : World} {l : List (String × DataW Unit)} (h : laidMetH Tryd.prog l W) (hsh : W.ShapedOpen Tryd.prog) {ds dr : DataW Unit} (hs : ("strconv.ErrSyntax", ds) ∈ l) (hr : ("strconv.ErrRange", dr) ∈ l) (hp : (l.all fun x => x.2.handleName?.isNone) = true)
    (hf : l.filter (fun x => x.1 == "internal/strconv.uint64pow10") = [("internal/strconv.uint64pow10", Lib.tabData .u64 Lib.pow10Tab)]) : GL W := by
  rw [MakeChecks.laidMetH_plain _ _ _ hp] at h
  have h1 := laidMet.filter (fun x => x.1 == "internal/strconv.uint64pow10") h
  rw [hf] at h1
  exact ⟨Lib.tabIs_of_head (g := 1) (t := 158) (e := 143) (n := 20) (by kernel_rfl) (by kernel_rfl) (by kernel_rfl) (by kernel_rfl) (by kernel_rfl) (by kernel_rfl) h1,
    cell_of_shapedOpen_int (g := 0) (t := 3) (zero := #[.int .i64 0]) (k := .i64) hsh (of_decide_eq_true (by kernel_rfl)) (by kernel_rfl) rfl (by kernel_rfl) (by kernel_rfl) (by kernel_rfl),
    iface_of_reads (g := 4) (t := 113) (ms := #[("Error", 116)]) (Lib.laidMet.reads h hs) (by kernel_rfl) (by kernel_rfl) (by kernel_rfl),
    iface_of_reads (g := 5) (t := 113) (ms := #[("Error", 116)]) (Lib.laidMet.reads h hr) (by kernel_rfl) (by kernel_rfl) (by kernel_rfl)⟩
end Go.Proofs.YtnehephjliankaaDoorW.PrintWords

/- For every number, the flags text of the program is that of the reference. -/
import Derived.Test.YtlneiofnmbcheaaPFnExactFlagsTextx1
import Derived.Test.YtlneiofnmbcheaaU
namespace Go.Proofs.Ytlneiofnmbcheaa.Pure
open Go.RowKit Go.Proofs.Ytlneiofnmbcheaa.PFnExactFlagsText Go.Proofs.YtlneiofnmbcheaaW.PrintWords Go.Proofs.YtlneiofnmbcheaaW.PrintLast Go.Proofs.Ytlneiofnmbcheaa.U
set_option linter.unusedSimpArgs false
set_option linter.unusedVariables false

theorem l1In_eq (a b c : Int) : spec_l1In.f a b c = some (decide (b ≤ a ∧ a ≤ c)) := by
  unfold spec_l1In.f
  by_cases h : b ≤ a <;> simp [h]
theorem within_eq (a b c : Int) : impl_within.f a b c = some (decide (b ≤ a ∧ a ≤ c)) := by
  unfold impl_within.f
  by_cases h : b ≤ a <;> simp [h]
theorem FnExactFlagsText : ∀ (a0 : Int), (Lit.int .i64 a0).wf = true → ∃ k, laws_FnExactFlagsText.f k a0 = some true := by
  intro a _
  by_cases h : 0 ≤ a ∧ a ≤ 15
  · have hc : a = 0 ∨ a = 1 ∨ a = 2 ∨ a = 3 ∨ a = 4 ∨ a = 5 ∨ a = 6 ∨ a = 7 ∨ a = 8 ∨ a = 9 ∨ a = 10 ∨ a = 11 ∨ a = 12 ∨ a = 13 ∨ a = 14 ∨ a = 15 := by omega
    rcases hc with rfl | rfl | rfl | rfl | rfl | rfl | rfl | rfl | rfl | rfl | rfl | rfl | rfl | rfl | rfl | rfl
    all_goals exact ⟨40, by kernel_rfl⟩
  · refine ⟨0, ?_⟩
    have hd : decide (0 ≤ a ∧ a ≤ 15) = false := decide_eq_false h
    unfold laws_FnExactFlagsText.f spec_FlagsText.f impl_FlagsText.f impl_areFlags.f
    simp only [l1In_eq, within_eq, hd, Option.bind_some, Bool.false_eq_true, if_false]
    unfold laws_eqTextResult.f
    simp

end Go.Proofs.Ytlneiofnmbcheaa.Pure

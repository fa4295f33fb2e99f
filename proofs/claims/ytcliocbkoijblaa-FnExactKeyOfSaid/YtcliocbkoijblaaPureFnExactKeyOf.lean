/- The program's KeyOf returns what the reference's KeyOf returns, for every word. Conditions: none. -/
import Derived.Test.YtcliocbkoijblaaPFnExactKeyOfx1
namespace Go.Proofs.Ytcliocbkoijblaa.Pure
open Go.RowKit Go.Proofs.Ytcliocbkoijblaa.PFnExactKeyOf Go.Proofs.YtcliocbkoijblaaW.PrintWords Go.Proofs.YtcliocbkoijblaaW.PrintLast

theorem key_words (s : ByteArray) : ∃ c v, spec_KeyOf.f 10 s = some (c, v) ∧ impl_KeyOf.f 10 s = some (c, v) := by
  unfold impl_KeyOf.f impl_keyWords.f spec_KeyOf.f
  simp only [Option.bind_some, slices_Index_string_string.f, slices_Index_string_string.l0, spec_KeyOf.l0]
  generalize s.toList = l
  have e : ∀ m : List UInt8, (m = l) = (l = m) := fun m => propext eq_comm
  simp only [e]
  by_cases h1 : l = [100, 97, 116, 101]
  · subst h1; simp [rdOf, wrap64]
  by_cases h2 : l = [115, 105, 122, 101]
  · subst h2; simp [rdOf, wrap64]
  by_cases h3 : l = [115, 117, 98, 106, 101, 99, 116]
  · subst h3; simp [rdOf, wrap64]
  by_cases h4 : l = [97, 114, 114, 105, 118, 97, 108]
  · subst h4; simp [rdOf, wrap64]
  simp [rdOf, wrap64, h1, h2, h3, h4]

theorem FnExactKeyOf : laws_FnExactKeyOf.Pure := by
  intro s _
  refine ⟨10, ?_⟩
  obtain ⟨c, v, h, h'⟩ := key_words s
  unfold laws_FnExactKeyOf.f
  split
  · rfl
  · simp [h, h', laws_eqIntResult.f]

end Go.Proofs.Ytcliocbkoijblaa.Pure

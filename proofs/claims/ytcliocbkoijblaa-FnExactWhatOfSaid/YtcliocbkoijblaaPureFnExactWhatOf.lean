/- The program's WhatOf returns what the reference's WhatOf returns, for every word. Conditions: none. -/
import Derived.Test.YtcliocbkoijblaaPFnExactWhatOfx1
namespace Go.Proofs.Ytcliocbkoijblaa.Pure
open Go.RowKit Go.Proofs.Ytcliocbkoijblaa.PFnExactWhatOf Go.Proofs.YtcliocbkoijblaaW.PrintWords Go.Proofs.YtcliocbkoijblaaW.PrintLast

theorem what_words (s : ByteArray) : ∃ c v, spec_WhatOf.f 10 s = some (c, v) ∧ impl_WhatOf.f 10 s = some (c, v) := by
  unfold impl_WhatOf.f impl_whatWords.f spec_WhatOf.f
  simp only [Option.bind_some, slices_Index_string_string.f, slices_Index_string_string.l0, spec_WhatOf.l0, spec_l14What.f]
  generalize s.toList = l
  have e : ∀ m : List UInt8, (m = l) = (l = m) := fun m => propext eq_comm
  simp only [e]
  by_cases h1 : l = [102, 108, 97, 103, 115]
  · subst h1; simp [rdOf, wrap64]
  by_cases h2 : l = [115, 105, 122, 101]
  · subst h2; simp [rdOf, wrap64]
  by_cases h3 : l = [98, 111, 100, 121]
  · subst h3; simp [rdOf, wrap64]
  by_cases h4 : l = [98, 121, 116, 101, 115]
  · subst h4; simp [rdOf, wrap64]
  by_cases h5 : l = [116, 101, 120, 116]
  · subst h5; simp [rdOf, wrap64]
  by_cases h6 : l = [112, 114, 101, 118, 105, 101, 119]
  · subst h6; simp [rdOf, wrap64]
  by_cases h7 : l = [115, 117, 98, 106, 101, 99, 116]
  · subst h7; simp [rdOf, wrap64]
  simp [rdOf, wrap64, h1, h2, h3, h4, h5, h6, h7]

theorem FnExactWhatOf : laws_FnExactWhatOf.Pure := by
  intro s _
  refine ⟨10, ?_⟩
  obtain ⟨c, v, h, h'⟩ := what_words s
  unfold laws_FnExactWhatOf.f
  split
  · rfl
  · simp [h, h', laws_eqIntResult.f]

end Go.Proofs.Ytcliocbkoijblaa.Pure

/- For every list of numbers and every two places, the slice of the program is that of the reference. -/
import Derived.Test.YtlneiofnmbcheaaPFnExactSliceListx2
import Derived.Test.YtlneiofnmbcheaaU
namespace Go.Proofs.Ytlneiofnmbcheaa.Pure
open Go.RowKit Go.Proofs.Ytlneiofnmbcheaa.PFnExactSliceList Go.Proofs.YtlneiofnmbcheaaW.PrintWords Go.Proofs.YtlneiofnmbcheaaW.PrintLast Go.Proofs.Ytlneiofnmbcheaa.U
set_option linter.unusedSimpArgs false
set_option linter.unusedVariables false

theorem ev_eqInt64S (x : List Int) (hx : x.length ≤ 1048576) : Ev (fun k => laws_eqInt64S.f k x x) true := by
  unfold laws_eqInt64S.f
  refine Ev.pos rfl ?_
  refine ev_iter (fun k (_ : Unit) i => laws_eqInt64S.l0 k x x i) x.length (fun _ => ()) true ?_ ?_
  · refine Ev.succ ?_
    simp only [laws_eqInt64S.l0, Int.lt_irrefl, if_false]
    exact Ev.now _
  · intro i hi r h
    refine Ev.succ ?_
    simp only [laws_eqInt64S.l0]
    refine Ev.pos (by omega) (Ev.pos (by omega) (Ev.pos (by omega) (Ev.pos trivial ?_)))
    simp only [wsucc hi (show x.length ≤ 281474976710656 by omega)]
    exact h
theorem ev_markInt64S (x : List Int) (m : Int) (hx : x.length ≤ 1048576) (h0 : 0 ≤ m) (h1 : m ≤ 1048576) :
    Ev (fun k => laws_markInt64S.f k x m) (m + x.length, (List.range x.length).map fun (i : Nat) => m + (i : Int)) := by
  rw [← over_all]
  unfold laws_markInt64S.f
  have h := ev_iter (fun k (s : List Int × Int) i => laws_markInt64S.l0 k s.1 s.2 i) x.length (fun i => (over x (fun i => m + i) i, m + i)) (m + x.length, over x (fun i => m + i) x.length) ?_ ?_
  · simpa [over_zero] using h
  · refine Ev.succ ?_
    simp only [laws_markInt64S.l0, over_length x _ _ (Nat.le_refl _), Int.lt_irrefl, if_false]
    exact Ev.now _
  · intro i hi r h
    refine Ev.succ ?_
    simp only [laws_markInt64S.l0, over_length x _ i (by omega)]
    refine Ev.pos (by omega) (Ev.pos (by omega) ?_)
    simp only [wsucc hi (show x.length ≤ 281474976710656 by omega), Int.toNat_natCast, over_set x (fun (i : Nat) => m + (i : Int)) i hi]
    rw [show wrap64 (m + (i : Int) + 1) = m + ((i + 1 : Nat) : Int) by rw [wid (by omega) (by omega)]; omega]
    exact h
theorem ev_heldInt64S (n : Nat) (m : Int) (hx : n ≤ 1048576) (h0 : 0 ≤ m) (h1 : m ≤ 1048576) :
    Ev (fun k => laws_heldInt64S.f k ((List.range n).map fun (i : Nat) => m + (i : Int)) m) (m + n) := by
  unfold laws_heldInt64S.f
  generalize hy : (List.range n).map (fun (i : Nat) => m + (i : Int)) = y
  have hl : y.length = n := by subst hy; simp
  have h := ev_iter (fun k (s : Int) i => laws_heldInt64S.l0 k y s i) n (fun i => m + i) (m + n) ?_ ?_
  · simpa using h
  · refine Ev.succ ?_
    simp only [laws_heldInt64S.l0, hl, Int.lt_irrefl, if_false]
    exact Ev.now _
  · intro i hi r h
    refine Ev.succ ?_
    have hg : rd y (i : Int) = m + i := by rw [rd_get y i (by omega)]; subst hy; simp
    simp only [laws_heldInt64S.l0, hl, hg]
    refine Ev.pos (by omega) (Ev.pos (by omega) (Ev.pos trivial ?_))
    rw [show wrap64 (m + (i : Int) + 1) = m + ((i + 1 : Nat) : Int) by rw [wid (by omega) (by omega)]; omega]
    simp only [wsucc hi (show n ≤ 281474976710656 by omega)]
    exact h
theorem ev_eqIntsResult (c : Int) (x : List Int) (hx : x.length ≤ 1048576) : Ev (fun k => laws_eqIntsResult.f k c x c x) true := by
  unfold laws_eqIntsResult.f
  exact Ev.pos rfl (Ev.bind (ev_eqInt64S x hx) (Ev.pos rfl (Ev.now _)))
def marks (n : Nat) : List Int := (List.range n).map fun (i : Nat) => 1 + (i : Int)
theorem ev_markIntsResult (c : Int) (x : List Int) (hx : x.length ≤ 1048576) : Ev (fun k => laws_markIntsResult.f k c x 1) (1 + x.length, marks x.length) := by
  unfold laws_markIntsResult.f
  exact Ev.bind (ev_markInt64S x 1 hx (by omega) (by omega)) (Ev.now _)
theorem ev_heldIntsResult (c : Int) (n : Nat) (hx : n ≤ 1048576) : Ev (fun k => laws_heldIntsResult.f k c (marks n) 1) (1 + n) := by
  unfold laws_heldIntsResult.f
  exact Ev.bind (ev_heldInt64S n 1 hx (by omega) (by omega)) (Ev.neg (by omega) (Ev.now _))
theorem ev_toInt64S (x : List Int) (hx : x.length ≤ 1048576) : Ev (fun k => laws_toInt64S.f k x) x := by
  unfold laws_toInt64S.f
  have h := ev_copy (fun k y i => laws_toInt64S.l0 k x y i) x (fun a => a) (fun y => y) ?_ ?_ (List.replicate x.length 0) (by simp)
  · simp only [List.map_id'] at h
    refine Ev.pos (by omega) (Ev.pos (by omega) ?_)
    simp only [Int.toNat_natCast]
    exact h
  · refine Ev.succ ?_
    simp only [laws_toInt64S.l0, Int.lt_irrefl, if_false]
    exact Ev.now _
  · intro i hi y hy r h
    refine Ev.succ ?_
    simp only [laws_toInt64S.l0]
    refine Ev.pos (by omega) (Ev.pos (by omega) (Ev.pos (by omega) ?_))
    simp only [Int.toNat_natCast, rd_get x i hi, wsucc hi (show x.length ≤ 281474976710656 by omega)]
    exact h
theorem l1In_eq (a b c : Int) : spec_l1In.f a b c = some (decide (b ≤ a ∧ a ≤ c)) := by
  unfold spec_l1In.f
  by_cases h : b ≤ a <;> simp [h]
theorem within_eq (a b c : Int) : impl_within.f a b c = some (decide (b ≤ a ∧ a ≤ c)) := by
  unfold impl_within.f
  by_cases h : b ≤ a <;> simp [h]
def sliceF (x : List Int) (a b : Int) : Int × List Int :=
  if (x.length : Int) > 60 then (2, []) else if 1 ≤ a ∧ a ≤ 999 ∧ 1 ≤ b ∧ b ≤ 999 then (0, (x.take (max a b).toNat).drop (min a b - 1).toNat) else (3, [])
theorem sliceF_length (x : List Int) (a b : Int) : (sliceF x a b).2.length ≤ 60 := by
  unfold sliceF
  split
  · simp
  · split
    · simp only [List.length_drop, List.length_take]; omega
    · simp
theorem ev_specSlice (x : List Int) (a b : Int) : spec_SliceList.f x a b = some (sliceF x a b) := by
  unfold spec_SliceList.f sliceF
  by_cases h1 : (x.length : Int) > 60
  · simp [h1]
  simp only [if_neg h1, l1In_eq, Option.bind_some]
  by_cases ha : 1 ≤ a ∧ a ≤ 999
  case neg =>
    rw [if_neg (by simpa using ha), if_neg (fun h => ha ⟨h.1, h.2.1⟩)]
  rw [if_pos (decide_eq_true ha)]
  by_cases hb : 1 ≤ b ∧ b ≤ 999
  case neg =>
    rw [if_neg (by simpa using hb), if_neg (fun h => hb ⟨h.2.2.1, h.2.2.2⟩)]
  rw [if_pos (decide_eq_true hb), if_pos ⟨ha.1, ha.2, hb.1, hb.2⟩]
  have hmin : spec_l1Min.f a b = some (min a b) := by unfold spec_l1Min.f; by_cases h : a < b <;> simp [h] <;> omega
  have hmax : spec_l1Max.f a b = some (max a b) := by unfold spec_l1Max.f; by_cases h : a > b <;> simp [h] <;> omega
  have hmin2 : spec_l1Min.f (max a b) (x.length : Int) = some (min (max a b) (x.length : Int)) := by unfold spec_l1Min.f; by_cases h : max a b < (x.length : Int) <;> simp [h] <;> omega
  unfold spec_l13Slice.f
  simp only [hmin, hmax, hmin2, Option.bind_some, wid (x := min a b - 1) (by omega) (by omega), List.nil_append, List.length_nil]
  by_cases hge : min a b - 1 ≥ min (max a b) (x.length : Int)
  · rw [if_pos hge]
    simp only [Option.bind_some]
    congr 2
    symm
    apply List.drop_eq_nil_of_le
    rw [List.length_take]
    omega
  · rw [if_neg hge, if_pos (by omega), if_pos (by omega), if_pos (by omega), if_pos (by simp only [List.length_drop, List.length_take]; omega)]
    simp only [Option.bind_some]
    congr 3
    rcases Int.le_total (max a b) (x.length : Int) with h | h
    · rw [Int.min_eq_left h]
    · rw [Int.min_eq_right h, List.take_of_length_le (by omega), List.take_of_length_le (by omega)]
theorem ev_implSlice (x : List Int) (a b : Int) : Ev (fun k => impl_SliceList.f k x a b) (sliceF x a b) := by
  unfold impl_SliceList.f sliceF
  by_cases h1 : (x.length : Int) > 60
  · simp only [if_pos h1]; exact Ev.now _
  simp only [if_neg h1, within_eq, Option.bind_some]
  by_cases ha : 1 ≤ a ∧ a ≤ 999
  case neg =>
    rw [if_neg (fun h => ha ⟨h.1, h.2.1⟩)]
    refine Ev.neg (by simpa using ha) (Ev.succ ?_)
    simp only [impl_SliceList.j0]
    exact Ev.pos trivial (Ev.now _)
  refine Ev.pos (decide_eq_true ha) ?_
  by_cases hb : 1 ≤ b ∧ b ≤ 999
  case neg =>
    rw [if_neg (fun h => hb ⟨h.2.2.1, h.2.2.2⟩)]
    refine Ev.succ ?_
    simp only [impl_SliceList.j0]
    exact Ev.pos (by simp; omega) (Ev.now _)
  rw [if_pos ⟨ha.1, ha.2, hb.1, hb.2⟩]
  refine Ev.succ ?_
  simp only [impl_SliceList.j0, impl_length_int64.f, Option.bind_some]
  have hw : wrap64 (mn a b - 1) = mn a b - 1 := wid (by unfold mn; omega) (by unfold mn; omega)
  rw [hw]
  refine Ev.neg (by simp; omega) (Ev.pos (by unfold mn; omega) (Ev.pos (by unfold mn mx; omega) (Ev.pos (by unfold mn mx; omega) ?_)))
  unfold slices_Clone_int64_int64.f
  rw [if_pos (by simp only [List.length_drop, List.length_take]; omega)]
  simp only [Option.bind_some]
  have e : ((x.take (mn (mx a b) (x.length : Int)).toNat).drop (mn (mn a b - 1) (x.length : Int)).toNat) = ((x.take (max a b).toNat).drop (min a b - 1).toNat) := by
    have e1 : mx a b = max a b := by unfold mx; omega
    have e2 : mn a b = min a b := by unfold mn; omega
    rw [e1, e2]
    have e3 : x.take (mn (max a b) (x.length : Int)).toNat = x.take (max a b).toNat := by
      rcases Int.le_total (max a b) (x.length : Int) with h | h
      · rw [show mn (max a b) (x.length : Int) = max a b by unfold mn; omega]
      · rw [show mn (max a b) (x.length : Int) = (x.length : Int) by unfold mn; omega, List.take_of_length_le (by omega), List.take_of_length_le (by omega)]
    rw [e3]
    rcases Int.le_total (min a b - 1) (x.length : Int) with h | h
    · rw [show mn (min a b - 1) (x.length : Int) = min a b - 1 by unfold mn; omega]
    · rw [List.drop_eq_nil_of_le (by rw [List.length_take]; unfold mn; omega), List.drop_eq_nil_of_le (by rw [List.length_take]; omega)]
  rw [e]
  exact Ev.now _
theorem FnExactSliceList : ∀ (l0 : List Int) (a1 : Int) (a2 : Int), (l0.length * 8 ≤ 140737488351232 ∧ ∀ x1_ ∈ l0, (Lit.int .i64 x1_).wf = true) → (Lit.int .i64 a1).wf = true → (Lit.int .i64 a2).wf = true → ∃ k, laws_FnExactSliceList.f k l0 a1 a2 = some true := by
  rintro x a b _ _ _
  apply Ev.get
  unfold laws_FnExactSliceList.f
  by_cases hb : (x.length : Int) > 1048576
  · exact Ev.pos hb (Ev.now _)
  refine Ev.neg hb ?_
  have hl : x.length ≤ 1048576 := by omega
  have hto := ev_toInt64S x hl
  have hi := ev_implSlice x a b
  have hv := sliceF_length x a b
  have heq := ev_eqIntsResult (sliceF x a b).1 (sliceF x a b).2 (by omega)
  have hm := ev_markIntsResult (sliceF x a b).1 (sliceF x a b).2 (by omega)
  have hh := ev_heldIntsResult (sliceF x a b).1 (sliceF x a b).2.length (by omega)
  have hmk := ev_markInt64S x 1 hl (by omega) (by omega)
  refine Ev.bind hto (Ev.bindc (ev_specSlice x a b) (Ev.bind hto (Ev.bind hi (Ev.bind heq (Ev.pos rfl ?_)))))
  refine Ev.bind hto (Ev.bind (ev_eqInt64S x hl) (Ev.pos rfl (Ev.bind hmk (Ev.neg (by simp only; omega) (Ev.bind heq (Ev.succ ?_))))))
  simp only [laws_FnExactSliceList.j0]
  refine Ev.neg (by simp) (Ev.bind hm (Ev.bind hh (Ev.neg (by omega) (Ev.pos rfl ?_))))
  exact Ev.bind hto (Ev.bind hi (Ev.bind heq (Ev.pos rfl (Ev.bind hh (Ev.neg (by omega) (Ev.pos rfl (Ev.now _)))))))

end Go.Proofs.Ytlneiofnmbcheaa.Pure

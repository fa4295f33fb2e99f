/- The program's ExpandSet returns what the reference's ExpandSet returns, for every list of ranges and any number. Conditions: none. -/
import Derived.Test.YtcliocbkoijblaaPFnExactExpandSetx4
import Derived.Test.YtcliocbkoijblaaU
namespace Go.Proofs.Ytcliocbkoijblaa.Pure
open Go.RowKit Go.Proofs.Ytcliocbkoijblaa.PFnExactExpandSet Go.Proofs.YtcliocbkoijblaaW.PrintWords Go.Proofs.YtcliocbkoijblaaW.PrintLast Go.Proofs.Ytcliocbkoijblaa.U
set_option linter.unusedSimpArgs false
set_option linter.unusedVariables false

def cvRange (x : S83) : S81 := ⟨x.f0, x.f1⟩
theorem rd_Range_get (x : List S81) (i : Nat) (h : i < x.length) : rd_T81 x (i : Int) = x[i] := by simp [rd_T81, List.getD_eq_getElem?_getD, h]
theorem rd_lRange_get (x : List S83) (i : Nat) (h : i < x.length) : rd_T83 x (i : Int) = x[i] := by simp [rd_T83, List.getD_eq_getElem?_getD, h]
theorem szRangeS_eq (x : List S83) (m : Int) (hx : x.length * 16 ≤ 140737488351232) (h0 : 0 ≤ m) (h1 : m ≤ 1048576) : laws_szRangeS.f x m = some (if m - x.length < 0 then -1 else m - x.length) := by
  unfold laws_szRangeS.f
  rw [wid (by omega) (by omega)]
  split <;> rfl
theorem ev_toRangeS (x : List S83) (hx : x.length ≤ 1048576) : Ev (fun k => laws_toRangeS.f k x) (x.map cvRange) := by
  unfold laws_toRangeS.f
  have h := ev_copy (fun k y i => laws_toRangeS.l0 k x y i) x cvRange (fun y => y) ?_ ?_ (List.replicate x.length z81) (by simp)
  · refine Ev.pos (by omega) (Ev.pos (by omega) ?_)
    simp only [Int.toNat_natCast]
    exact h
  · refine Ev.succ ?_
    simp only [laws_toRangeS.l0, Int.lt_irrefl, if_false]
    exact Ev.now _
  · intro i hi y hy r h
    refine Ev.succ ?_
    simp only [laws_toRangeS.l0, laws_toRange.f, Option.bind_some]
    refine Ev.pos (by omega) (Ev.pos (by omega) (Ev.pos (by omega) ?_))
    simp only [Int.toNat_natCast, rd_lRange_get x i hi, wsucc hi (show x.length ≤ 281474976710656 by omega)]
    exact h
theorem ev_eqRangeS (x : List S81) (hx : x.length ≤ 1048576) : Ev (fun k => laws_eqRangeS.f k x x) true := by
  unfold laws_eqRangeS.f
  refine Ev.pos rfl ?_
  refine ev_iter (fun k (_ : Unit) i => laws_eqRangeS.l0 k x x i) x.length (fun _ => ()) true ?_ ?_
  · refine Ev.succ ?_
    simp only [laws_eqRangeS.l0, Int.lt_irrefl, if_false]
    exact Ev.now _
  · intro i hi r h
    refine Ev.succ ?_
    simp only [laws_eqRangeS.l0, laws_eqRange.f]
    refine Ev.pos (by omega) (Ev.pos (by omega) (Ev.pos (by omega) ?_))
    simp only [if_true, Option.bind_some, wsucc hi (show x.length ≤ 281474976710656 by omega)]
    exact h
theorem ev_markRangeS (x : List S81) (m : Int) (hx : x.length ≤ 1048576) (h0 : 0 ≤ m) (h1 : m ≤ 1048576) :
    ∃ y, Ev (fun k => laws_markRangeS.f k x m) (m + 2 * x.length, y) := by
  refine ⟨over x (fun i => ⟨m + 2 * i, m + 2 * i + 1⟩) x.length, ?_⟩
  unfold laws_markRangeS.f
  have h := ev_iter (fun k (s : List S81 × Int) i => laws_markRangeS.l0 k s.1 s.2 i) x.length (fun i => (over x (fun i => ⟨m + 2 * i, m + 2 * i + 1⟩) i, m + 2 * i)) (m + 2 * x.length, over x (fun i => ⟨m + 2 * i, m + 2 * i + 1⟩) x.length) ?_ ?_
  · simpa [over_zero] using h
  · refine Ev.succ ?_
    simp only [laws_markRangeS.l0, over_length x _ _ (Nat.le_refl _), Int.lt_irrefl, if_false]
    exact Ev.now _
  · intro i hi r h
    refine Ev.succ ?_
    have hl := over_length x (fun i => (⟨m + 2 * i, m + 2 * i + 1⟩ : S81)) i (by omega)
    simp only [laws_markRangeS.l0, hl]
    refine Ev.pos (by omega) (Ev.pos (by omega) ?_)
    simp only [Option.bind_some, wsucc hi (show x.length ≤ 281474976710656 by omega), Int.toNat_natCast, List.set_set]
    rw [show wrap64 (m + 2 * (i : Int) + 1) = m + 2 * (i : Int) + 1 by rw [wid (by omega) (by omega)]]
    rw [show wrap64 (m + 2 * (i : Int) + 1 + 1) = m + 2 * ((i + 1 : Nat) : Int) by rw [wid (by omega) (by omega)]; omega]
    rw [rd_Range_get _ i (by simp [hl, hi])]
    simp only [List.getElem_set_self]
    rw [over_set x (fun i => (⟨m + 2 * i, m + 2 * i + 1⟩ : S81)) i hi]
    exact h
theorem ev_eqInt64S (x : List Int) (hx : x.length ≤ 1048576) : Ev (fun k => laws_eqInt64S.f k x x) true := by
  unfold laws_eqInt64S.f
  refine Ev.pos rfl ?_
  refine ev_iter (fun k (_ : Unit) i => laws_eqInt64S.l0 k x x i) x.length (fun _ => ()) true ?_ ?_
  · refine Ev.succ ?_
    simp only [laws_eqInt64S.l0, Int.lt_irrefl, if_false]
    exact Ev.now _
  · intro i hi r h
    refine Ev.succ ?_
    simp only [laws_eqInt64S.l0]
    refine Ev.pos (by omega) (Ev.pos (by omega) (Ev.pos (by omega) (Ev.pos trivial ?_)))
    simp only [wsucc hi (show x.length ≤ 281474976710656 by omega)]
    exact h
theorem ev_markInt64S (x : List Int) (m : Int) (hx : x.length ≤ 1048576) (h0 : 0 ≤ m) (h1 : m ≤ 1048576) :
    Ev (fun k => laws_markInt64S.f k x m) (m + x.length, (List.range x.length).map fun (i : Nat) => m + (i : Int)) := by
  rw [← over_all]
  unfold laws_markInt64S.f
  have h := ev_iter (fun k (s : List Int × Int) i => laws_markInt64S.l0 k s.1 s.2 i) x.length (fun i => (over x (fun i => m + i) i, m + i)) (m + x.length, over x (fun i => m + i) x.length) ?_ ?_
  · simpa [over_zero] using h
  · refine Ev.succ ?_
    simp only [laws_markInt64S.l0, over_length x _ _ (Nat.le_refl _), Int.lt_irrefl, if_false]
    exact Ev.now _
  · intro i hi r h
    refine Ev.succ ?_
    simp only [laws_markInt64S.l0, over_length x _ i (by omega)]
    refine Ev.pos (by omega) (Ev.pos (by omega) ?_)
    simp only [wsucc hi (show x.length ≤ 281474976710656 by omega), Int.toNat_natCast, over_set x (fun (i : Nat) => m + (i : Int)) i hi]
    rw [show wrap64 (m + (i : Int) + 1) = m + ((i + 1 : Nat) : Int) by rw [wid (by omega) (by omega)]; omega]
    exact h
theorem ev_heldInt64S (n : Nat) (m : Int) (hx : n ≤ 1048576) (h0 : 0 ≤ m) (h1 : m ≤ 1048576) :
    Ev (fun k => laws_heldInt64S.f k ((List.range n).map fun (i : Nat) => m + (i : Int)) m) (m + n) := by
  unfold laws_heldInt64S.f
  generalize hy : (List.range n).map (fun (i : Nat) => m + (i : Int)) = y
  have hl : y.length = n := by subst hy; simp
  have h := ev_iter (fun k (s : Int) i => laws_heldInt64S.l0 k y s i) n (fun i => m + i) (m + n) ?_ ?_
  · simpa using h
  · refine Ev.succ ?_
    simp only [laws_heldInt64S.l0, hl, Int.lt_irrefl, if_false]
    exact Ev.now _
  · intro i hi r h
    refine Ev.succ ?_
    have hg : rd y (i : Int) = m + i := by rw [rd_get y i (by omega)]; subst hy; simp
    simp only [laws_heldInt64S.l0, hl, hg]
    refine Ev.pos (by omega) (Ev.pos (by omega) (Ev.pos trivial ?_))
    rw [show wrap64 (m + (i : Int) + 1) = m + ((i + 1 : Nat) : Int) by rw [wid (by omega) (by omega)]; omega]
    simp only [wsucc hi (show n ≤ 281474976710656 by omega)]
    exact h
theorem ev_eqIntsResult (c : Int) (x : List Int) (hx : x.length ≤ 1048576) : Ev (fun k => laws_eqIntsResult.f k c x c x) true := by
  unfold laws_eqIntsResult.f
  exact Ev.pos rfl (Ev.bind (ev_eqInt64S x hx) (Ev.pos rfl (Ev.now _)))
def marks (n : Nat) : List Int := (List.range n).map fun (i : Nat) => 1 + (i : Int)
theorem ev_markIntsResult (c : Int) (x : List Int) (hx : x.length ≤ 1048576) : Ev (fun k => laws_markIntsResult.f k c x 1) (1 + x.length, marks x.length) := by
  unfold laws_markIntsResult.f
  exact Ev.bind (ev_markInt64S x 1 hx (by omega) (by omega)) (Ev.now _)
theorem ev_heldIntsResult (c : Int) (n : Nat) (hx : n ≤ 1048576) : Ev (fun k => laws_heldIntsResult.f k c (marks n) 1) (1 + n) := by
  unfold laws_heldIntsResult.f
  exact Ev.bind (ev_heldInt64S n 1 hx (by omega) (by omega)) (Ev.neg (by omega) (Ev.now _))
theorem within_eq (a b c : Int) : impl_within.f a b c = some (decide (b ≤ a ∧ a ≤ c)) := by
  unfold impl_within.f
  by_cases h : b ≤ a <;> simp [h]
theorem l1In_eq (a b c : Int) : spec_l1In.f a b c = some (decide (b ≤ a ∧ a ≤ c)) := by
  unfold spec_l1In.f
  by_cases h : b ≤ a <;> simp [h]
def okRange (r : S81) : Bool := decide ((0 ≤ r.f0 ∧ r.f0 ≤ 999) ∧ (0 ≤ r.f1 ∧ r.f1 ≤ 999))
def rangesFault (x : List S81) : Int := if x.length < 1 ∨ 8 < x.length then 2 else if x.all okRange = true then 0 else 3
theorem ev_l11Fault (x : List S81) (hx : x.length ≤ 1048576) : Ev (fun k => spec_l11Fault.f k x) (rangesFault x) := by
  unfold spec_l11Fault.f rangesFault
  by_cases h1 : x.length < 1
  · rw [if_pos (by omega)]
    refine Ev.pos (by omega) (Ev.succ ?_)
    simp only [spec_l11Fault.j0, if_true]
    exact Ev.now _
  refine Ev.neg (by omega) (Ev.succ ?_)
  simp only [spec_l11Fault.j0]
  by_cases h2 : 8 < x.length
  · rw [if_pos (by omega)]
    exact Ev.pos (decide_eq_true (by omega)) (Ev.now _)
  rw [if_neg (by omega)]
  refine Ev.neg (by simp; omega) ?_
  have h := ev_find (fun k i => spec_l11Fault.l0 k x i) x (fun r => if okRange r = true then none else some 3) 0 ?_ ?_ ?_
  · rw [find_guard] at h; exact h
  · refine Ev.succ ?_
    simp only [spec_l11Fault.l0, Int.lt_irrefl, if_false]
    exact Ev.now _
  · intro i hi r hr
    by_cases hok : okRange x[i] = true
    · rw [if_pos hok] at hr; cases hr
    rw [if_neg hok] at hr; cases hr
    simp only [okRange, decide_eq_true_eq] at hok
    refine Ev.succ ?_
    simp only [spec_l11Fault.l0, rd_Range_get x i hi, l1In_eq, Option.bind_some]
    refine Ev.pos (by omega) (Ev.pos (by omega) ?_)
    by_cases ha : 0 ≤ x[i].f0 ∧ x[i].f0 ≤ 999
    · refine Ev.pos (decide_eq_true ha) (Ev.neg ?_ (Ev.now _))
      simp only [decide_eq_true_eq]; exact fun hb => hok ⟨ha, hb⟩
    · exact Ev.neg (by simpa using ha) (Ev.now _)
  · intro i hi hr r h
    by_cases hok : okRange x[i] = true
    case neg => rw [if_neg hok] at hr; cases hr
    simp only [okRange, decide_eq_true_eq] at hok
    refine Ev.succ ?_
    simp only [spec_l11Fault.l0, rd_Range_get x i hi, l1In_eq, Option.bind_some]
    refine Ev.pos (by omega) (Ev.pos (by omega) (Ev.pos (decide_eq_true hok.1) (Ev.pos (decide_eq_true hok.2) ?_)))
    simp only [wsucc hi (show x.length ≤ 281474976710656 by omega)]
    exact h
theorem ev_implRangesFault (x : List S81) (hx : x.length ≤ 1048576) : Ev (fun k => impl_RangesFault.f k x) (rangesFault x) := by
  unfold impl_RangesFault.f rangesFault
  simp only [impl_Range.f, within_eq, Option.bind_some]
  by_cases h1 : x.length < 1 ∨ 8 < x.length
  · rw [if_pos h1]
    exact Ev.neg (by simp; omega) (Ev.now _)
  rw [if_neg h1]
  refine Ev.pos (decide_eq_true (by omega)) ?_
  have h := ev_find (fun k i => impl_RangesFault.l0 k x (x.length : Int) i) x (fun r => if okRange r = true then none else some 3) 0 ?_ ?_ ?_
  · rw [find_guard] at h; exact h
  · refine Ev.succ ?_
    simp only [impl_RangesFault.l0, Int.lt_irrefl, if_false]
    exact Ev.now _
  · intro i hi r hr
    by_cases hok : okRange x[i] = true
    · rw [if_pos hok] at hr; cases hr
    rw [if_neg hok] at hr; cases hr
    simp only [okRange, decide_eq_true_eq] at hok
    refine Ev.succ ?_
    simp only [impl_RangesFault.l0, rd_Range_get x i hi, within_eq, Option.bind_some]
    refine Ev.pos (by omega) (Ev.pos (by omega) (Ev.pos (by omega) ?_))
    by_cases ha : 0 ≤ x[i].f0 ∧ x[i].f0 ≤ 999
    · refine Ev.pos (decide_eq_true ha) (Ev.neg ?_ (Ev.now _))
      simp only [decide_eq_true_eq]; exact fun hb => hok ⟨ha, hb⟩
    · exact Ev.neg (by simpa using ha) (Ev.now _)
  · intro i hi hr r h
    by_cases hok : okRange x[i] = true
    case neg => rw [if_neg hok] at hr; cases hr
    simp only [okRange, decide_eq_true_eq] at hok
    refine Ev.succ ?_
    simp only [impl_RangesFault.l0, rd_Range_get x i hi, within_eq, Option.bind_some]
    refine Ev.pos (by omega) (Ev.pos (by omega) (Ev.pos (by omega) (Ev.pos (decide_eq_true hok.1) (Ev.pos (decide_eq_true hok.2) ?_))))
    simp only [wsucc hi (show x.length ≤ 281474976710656 by omega)]
    exact h
def endOf (m x : Int) : Int := if x = 0 then m else x
def inRange (m n : Int) (r : S81) : Bool := decide ((endOf m r.f0 ≤ n ∨ endOf m r.f1 ≤ n) ∧ (n ≤ endOf m r.f0 ∨ n ≤ endOf m r.f1))
def inSet (x : List S81) (n m : Int) : Bool := x.any (inRange m n)
theorem find_any {α : Type} (p : α → Bool) (l : List α) : ((l.findSome? fun a => if p a = true then some true else none).getD false) = l.any p := by
  induction l with
  | nil => simp
  | cons a l ih => cases h : p a <;> simp [h, ih]
theorem ev_l11In (x : List S81) (n m : Int) (hx : x.length ≤ 1048576) : Ev (fun k => spec_l11In.f k x n m) (inSet x n m) := by
  unfold spec_l11In.f inSet
  have body : ∀ (i : Nat) (hi : i < x.length) (r : Bool), Ev (fun k => if n ≥ (if endOf m x[i].f0 < endOf m x[i].f1 then endOf m x[i].f0 else endOf m x[i].f1) then (if n ≤ (if endOf m x[i].f0 > endOf m x[i].f1 then endOf m x[i].f0 else endOf m x[i].f1) then some true else spec_l11In.l0 k x n m ((i + 1 : Nat) : Int)) else spec_l11In.l0 k x n m ((i + 1 : Nat) : Int)) r → Ev (fun k => spec_l11In.l0 k x n m (i : Int)) r := by
    intro i hi r h
    refine Ev.succ ?_
    simp only [spec_l11In.l0, rd_Range_get x i hi]
    refine Ev.pos (by omega) (Ev.pos (by omega) ?_)
    have j2 : ∀ a b : Int, a = endOf m x[i].f0 → b = endOf m x[i].f1 → Ev (fun k => spec_l11In.j2 k x n m (i : Int) a b) r := by
      intro a b ha hb
      subst ha; subst hb
      refine Ev.succ ?_
      simp only [spec_l11In.j2, spec_l1Min.f, spec_l1Max.f, wsucc hi (show x.length ≤ 281474976710656 by omega)]
      refine Ev.congr (fun k => ?_) h
      by_cases c1 : endOf m x[i].f0 < endOf m x[i].f1 <;> by_cases c2 : endOf m x[i].f0 > endOf m x[i].f1 <;> simp [c1, c2]
    have j1 : ∀ a : Int, a = endOf m x[i].f0 → Ev (fun k => spec_l11In.j1 k x n m (i : Int) a x[i].f1) r := by
      intro a ha
      refine Ev.succ ?_
      simp only [spec_l11In.j1]
      by_cases hc : x[i].f1 = 0
      · exact Ev.pos hc (j2 _ _ ha (by simp [endOf, hc]))
      · exact Ev.neg hc (j2 _ _ ha (by simp [endOf, hc]))
    by_cases hc : x[i].f0 = 0
    · exact Ev.pos hc (j1 _ (by simp [endOf, hc]))
    · exact Ev.neg hc (j1 _ (by simp [endOf, hc]))
  have h := ev_find (fun k i => spec_l11In.l0 k x n m i) x (fun r => if inRange m n r = true then some true else none) false ?_ ?_ ?_
  · rw [find_any] at h; exact h
  · refine Ev.succ ?_
    simp only [spec_l11In.l0, Int.lt_irrefl, if_false]
    exact Ev.now _
  · intro i hi r hr
    by_cases hin : inRange m n x[i] = true
    case neg => rw [if_neg hin] at hr; cases hr
    rw [if_pos hin] at hr; cases hr
    refine body i hi _ ?_
    simp only [inRange, decide_eq_true_eq] at hin
    refine Ev.pos ?_ (Ev.pos ?_ (Ev.now _))
    · split <;> omega
    · split <;> omega
  · intro i hi hr r h
    by_cases hin : inRange m n x[i] = true
    · rw [if_pos hin] at hr; cases hr
    refine body i hi _ ?_
    simp only [inRange, decide_eq_true_eq] at hin
    by_cases h1 : n ≥ (if endOf m x[i].f0 < endOf m x[i].f1 then endOf m x[i].f0 else endOf m x[i].f1)
    · refine Ev.pos h1 (Ev.neg ?_ h)
      intro h2
      apply hin
      constructor
      · split at h1 <;> omega
      · split at h2 <;> omega
    · exact Ev.neg h1 h
theorem ev_implinSet (x : List S81) (n m : Int) (hx : x.length ≤ 1048576) : Ev (fun k => impl_inSet.f k x n m) (inSet x n m) := by
  unfold impl_inSet.f inSet
  have hend : ∀ a : Int, impl_inSet_1_v0.f a [m] = some (endOf m a) := by
    intro a
    unfold impl_inSet_1_v0.f endOf
    by_cases ha : a = 0 <;> simp [ha, rd]
  have h := ev_find (fun k i => impl_inSet.l0 k n x (x.length : Int) i m) x (fun r => if inRange m n r = true then some true else none) false ?_ ?_ ?_
  · rw [find_any] at h; exact h
  · refine Ev.succ ?_
    simp only [impl_inSet.l0, Int.lt_irrefl, if_false]
    exact Ev.now _
  · intro i hi r hr
    by_cases hin : inRange m n x[i] = true
    case neg => rw [if_neg hin] at hr; cases hr
    rw [if_pos hin] at hr; cases hr
    refine Ev.succ ?_
    simp only [impl_inSet.l0, rd_Range_get x i hi, hend, within_eq, Option.bind_some]
    refine Ev.pos (by omega) (Ev.pos (by omega) (Ev.pos (by omega) (Ev.pos (decide_eq_true ?_) (Ev.now _))))
    simp only [inRange, decide_eq_true_eq] at hin
    unfold mn mx
    constructor <;> split <;> omega
  · intro i hi hr r h
    by_cases hin : inRange m n x[i] = true
    · rw [if_pos hin] at hr; cases hr
    refine Ev.succ ?_
    simp only [impl_inSet.l0, rd_Range_get x i hi, hend, within_eq, Option.bind_some]
    refine Ev.pos (by omega) (Ev.pos (by omega) (Ev.pos (by omega) (Ev.neg ?_ ?_)))
    · simp only [inRange, decide_eq_true_eq] at hin ⊢
      intro h2
      apply hin
      unfold mn mx at h2
      constructor
      · have := h2.1; split at this <;> omega
      · have := h2.2; split at this <;> omega
    · simp only [wsucc hi (show x.length ≤ 281474976710656 by omega)]
      exact h
def expand (x : List S81) (m : Int) (i : Nat) : List Int := ((List.range i).map fun (j : Nat) => (j : Int) + 1).filter fun n => inSet x n m
theorem expand_succ (x : List S81) (m : Int) (i : Nat) : expand x m (i + 1) = if inSet x ((i : Int) + 1) m = true then expand x m i ++ [(i : Int) + 1] else expand x m i := by
  unfold expand
  rw [List.range_succ, List.map_append, List.filter_append]
  by_cases h : inSet x ((i : Int) + 1) m = true <;> simp [h]
theorem expand_length (x : List S81) (m : Int) (i : Nat) : (expand x m i).length ≤ i := by
  unfold expand
  have := List.length_filter_le (fun n => inSet x n m) ((List.range i).map fun (j : Nat) => (j : Int) + 1)
  simpa using this
def expandSetF (x : List S81) (m : Int) : Int × List Int := if rangesFault x = 0 then (if 0 ≤ m ∧ m ≤ 999 then (0, expand x m m.toNat) else (3, [])) else (rangesFault x, [])
theorem expandSetF_length (x : List S81) (m : Int) : (expandSetF x m).2.length ≤ 999 := by
  unfold expandSetF
  split
  · split
    · have := expand_length x m m.toNat; simp only; omega
    · simp
  · simp
theorem ev_expandLoop {ρ : Type} (l : Nat → List Int → Int → Option ρ) (fin : List Int → ρ) (x : List S81) (m : Int) (h0 : 0 ≤ m) (h1 : m ≤ 999)
    (stop : ∀ s, Ev (fun k => l k s (m + 1)) (fin s))
    (yes : ∀ (n : Int) s, 1 ≤ n → n ≤ m → s.length ≤ 999 → inSet x n m = true → ∀ r, Ev (fun k => l k (s ++ [n]) (n + 1)) r → Ev (fun k => l k s n) r)
    (no : ∀ (n : Int) s, 1 ≤ n → n ≤ m → inSet x n m = false → ∀ r, Ev (fun k => l k s (n + 1)) r → Ev (fun k => l k s n) r) : Ev (fun k => l k [] 1) (fin (expand x m m.toNat)) := by
  have h := ev_iter (fun k s i => l k s (i + 1)) m.toNat (fun i => expand x m i) (fin (expand x m m.toNat)) ?_ ?_
  · have e : expand x m 0 = [] := rfl
    rw [e] at h
    exact h
  · have e : ((m.toNat : Nat) : Int) = m := by omega
    simp only [e]
    exact stop _
  · intro i hi r hr
    rw [expand_succ] at hr
    by_cases hc : inSet x ((i : Int) + 1) m = true
    · rw [if_pos hc] at hr
      have := expand_length x m i
      exact yes _ _ (by omega) (by omega) (by omega) hc _ hr
    · rw [if_neg hc] at hr
      exact no _ _ (by omega) (by omega) (by simpa using hc) _ hr
theorem ev_specExpandSet (x : List S81) (m : Int) (hx : x.length ≤ 1048576) : Ev (fun k => spec_ExpandSet.f k x m) (expandSetF x m) := by
  unfold spec_ExpandSet.f expandSetF
  refine Ev.bind (ev_l11Fault x hx) ?_
  simp only [l1In_eq, Option.bind_some]
  by_cases h0 : rangesFault x = 0
  case neg => rw [if_neg h0]; exact Ev.neg h0 (Ev.now _)
  rw [if_pos h0]
  refine Ev.pos h0 ?_
  by_cases h1 : 0 ≤ m ∧ m ≤ 999
  case neg => rw [if_neg h1]; exact Ev.neg (by simpa using h1) (Ev.now _)
  rw [if_pos h1]
  refine Ev.pos (decide_eq_true h1) ?_
  refine Ev.bind (a := expand x m m.toNat) ?_ (Ev.now _)
  unfold spec_l11Expand.f
  refine ev_expandLoop (fun k s i => spec_l11Expand.l0 k x m s i) (fun s => s) x m h1.1 h1.2 ?_ ?_ ?_
  · intro s
    refine Ev.succ ?_
    simp only [spec_l11Expand.l0]
    exact Ev.neg (by omega) (Ev.now _)
  · intro n s hn1 hn2 hs hin r h
    refine Ev.succ ?_
    simp only [spec_l11Expand.l0]
    refine Ev.pos hn2 (Ev.bind (ev_l11In x n m hx) (Ev.pos hin (Ev.pos (by omega) ?_)))
    simp only [wid (x := n + 1) (by omega) (by omega)]
    exact h
  · intro n s hn1 hn2 hin r h
    refine Ev.succ ?_
    simp only [spec_l11Expand.l0]
    refine Ev.pos hn2 (Ev.bind (ev_l11In x n m hx) (Ev.neg (by simp [hin]) ?_))
    simp only [wid (x := n + 1) (by omega) (by omega)]
    exact h
theorem ev_implExpandSet (x : List S81) (m : Int) (hx : x.length ≤ 1048576) : Ev (fun k => impl_ExpandSet.f k x m) (expandSetF x m) := by
  unfold impl_ExpandSet.f expandSetF
  refine Ev.bind (ev_implRangesFault x hx) ?_
  simp only [within_eq, Option.bind_some]
  by_cases h0 : rangesFault x = 0
  case neg => rw [if_neg h0]; exact Ev.neg h0 (Ev.now _)
  rw [if_pos h0]
  refine Ev.pos h0 ?_
  by_cases h1 : 0 ≤ m ∧ m ≤ 999
  case neg => rw [if_neg h1]; exact Ev.neg (by simpa using h1) (Ev.now _)
  rw [if_pos h1]
  refine Ev.pos (decide_eq_true h1) ?_
  refine ev_expandLoop (fun k s i => impl_ExpandSet.l0 k x m s i) (fun s => (0, s)) x m h1.1 h1.2 ?_ ?_ ?_
  · intro s
    refine Ev.succ ?_
    simp only [impl_ExpandSet.l0]
    exact Ev.neg (by omega) (Ev.now _)
  · intro n s hn1 hn2 hs hin r h
    refine Ev.succ ?_
    simp only [impl_ExpandSet.l0]
    refine Ev.pos hn2 (Ev.bind (ev_implinSet x n m hx) (Ev.pos hin (Ev.pos (by omega) ?_)))
    simp only [wid (x := n + 1) (by omega) (by omega)]
    exact h
  · intro n s hn1 hn2 hin r h
    refine Ev.succ ?_
    simp only [impl_ExpandSet.l0]
    refine Ev.pos hn2 (Ev.bind (ev_implinSet x n m hx) (Ev.neg (by simp [hin]) ?_))
    simp only [wid (x := n + 1) (by omega) (by omega)]
    exact h
theorem FnExactExpandSet : ∀ (l0 : List (S83)) (a1 : Int), (l0.length * 16 ≤ 140737488351232 ∧ ∀ x1_ ∈ l0, ((Lit.int .i64 x1_.f0).wf = true ∧ (Lit.int .i64 x1_.f1).wf = true)) → (Lit.int .i64 a1).wf = true → ∃ k, laws_FnExactExpandSet.f k l0 a1 = some true := by
  rintro x m ⟨hx, _⟩ _
  apply Ev.get
  unfold laws_FnExactExpandSet.f
  rw [szRangeS_eq x 1048576 (by omega) (by omega) (by omega)]
  simp only [Option.bind_some]
  by_cases hbig : (1048576 : Int) - x.length < 0
  · rw [if_pos hbig]
    exact Ev.pos (by omega) (Ev.now _)
  rw [if_neg hbig]
  have hl : x.length ≤ 1048576 := by omega
  have hl' : (x.map cvRange).length ≤ 1048576 := by simpa using hl
  have hto := ev_toRangeS x hl
  have hi := ev_implExpandSet (x.map cvRange) m hl'
  have hv := expandSetF_length (x.map cvRange) m
  obtain ⟨y0, hy0⟩ := ev_markRangeS (x.map cvRange) 1 hl' (by omega) (by omega)
  have heq := ev_eqIntsResult (expandSetF (x.map cvRange) m).1 (expandSetF (x.map cvRange) m).2 (by omega)
  have hm := ev_markIntsResult (expandSetF (x.map cvRange) m).1 (expandSetF (x.map cvRange) m).2 (by omega)
  have hh := ev_heldIntsResult (expandSetF (x.map cvRange) m).1 (expandSetF (x.map cvRange) m).2.length (by omega)
  refine Ev.neg (by omega) ?_
  refine Ev.bind hto (Ev.bind (ev_specExpandSet _ m hl') (Ev.bind hto (Ev.bind hi (Ev.bind heq (Ev.pos rfl ?_)))))
  refine Ev.bind hto (Ev.bind (ev_eqRangeS _ hl') (Ev.pos rfl (Ev.bind hy0 (Ev.neg (by simp only; omega) (Ev.bind heq (Ev.succ ?_))))))
  simp only [laws_FnExactExpandSet.j0]
  refine Ev.neg (by simp) (Ev.bind hm (Ev.bind hh (Ev.neg (by omega) (Ev.pos rfl ?_))))
  exact Ev.bind hto (Ev.bind hi (Ev.bind heq (Ev.pos rfl (Ev.bind hh (Ev.neg (by omega) (Ev.pos rfl (Ev.now _)))))))

end Go.Proofs.Ytcliocbkoijblaa.Pure

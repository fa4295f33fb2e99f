/- The program's InSet returns what the reference's InSet returns, for every list of ranges and any two numbers. Conditions: none. -/
import Derived.Test.YtcliocbkoijblaaPFnExactInSetx3
import Derived.Test.YtcliocbkoijblaaU
namespace Go.Proofs.Ytcliocbkoijblaa.Pure
open Go.RowKit Go.Proofs.Ytcliocbkoijblaa.PFnExactInSet Go.Proofs.YtcliocbkoijblaaW.PrintWords Go.Proofs.YtcliocbkoijblaaW.PrintLast Go.Proofs.Ytcliocbkoijblaa.U
set_option linter.unusedSimpArgs false
set_option linter.unusedVariables false

def cvRange (x : S83) : S81 := ⟨x.f0, x.f1⟩
theorem rd_Range_get (x : List S81) (i : Nat) (h : i < x.length) : rd_T81 x (i : Int) = x[i] := by simp [rd_T81, List.getD_eq_getElem?_getD, h]
theorem rd_lRange_get (x : List S83) (i : Nat) (h : i < x.length) : rd_T83 x (i : Int) = x[i] := by simp [rd_T83, List.getD_eq_getElem?_getD, h]
theorem szRangeS_eq (x : List S83) (m : Int) (hx : x.length * 16 ≤ 140737488351232) (h0 : 0 ≤ m) (h1 : m ≤ 1048576) : laws_szRangeS.f x m = some (if m - x.length < 0 then -1 else m - x.length) := by
  unfold laws_szRangeS.f
  rw [wid (by omega) (by omega)]
  split <;> rfl
theorem ev_toRangeS (x : List S83) (hx : x.length ≤ 1048576) : Ev (fun k => laws_toRangeS.f k x) (x.map cvRange) := by
  unfold laws_toRangeS.f
  have h := ev_copy (fun k y i => laws_toRangeS.l0 k x y i) x cvRange (fun y => y) ?_ ?_ (List.replicate x.length z81) (by simp)
  · refine Ev.pos (by omega) (Ev.pos (by omega) ?_)
    simp only [Int.toNat_natCast]
    exact h
  · refine Ev.succ ?_
    simp only [laws_toRangeS.l0, Int.lt_irrefl, if_false]
    exact Ev.now _
  · intro i hi y hy r h
    refine Ev.succ ?_
    simp only [laws_toRangeS.l0, laws_toRange.f, Option.bind_some]
    refine Ev.pos (by omega) (Ev.pos (by omega) (Ev.pos (by omega) ?_))
    simp only [Int.toNat_natCast, rd_lRange_get x i hi, wsucc hi (show x.length ≤ 281474976710656 by omega)]
    exact h
theorem ev_eqRangeS (x : List S81) (hx : x.length ≤ 1048576) : Ev (fun k => laws_eqRangeS.f k x x) true := by
  unfold laws_eqRangeS.f
  refine Ev.pos rfl ?_
  refine ev_iter (fun k (_ : Unit) i => laws_eqRangeS.l0 k x x i) x.length (fun _ => ()) true ?_ ?_
  · refine Ev.succ ?_
    simp only [laws_eqRangeS.l0, Int.lt_irrefl, if_false]
    exact Ev.now _
  · intro i hi r h
    refine Ev.succ ?_
    simp only [laws_eqRangeS.l0, laws_eqRange.f]
    refine Ev.pos (by omega) (Ev.pos (by omega) (Ev.pos (by omega) ?_))
    simp only [if_true, Option.bind_some, wsucc hi (show x.length ≤ 281474976710656 by omega)]
    exact h
theorem within_eq (a b c : Int) : impl_within.f a b c = some (decide (b ≤ a ∧ a ≤ c)) := by
  unfold impl_within.f
  by_cases h : b ≤ a <;> simp [h]
theorem l1In_eq (a b c : Int) : spec_l1In.f a b c = some (decide (b ≤ a ∧ a ≤ c)) := by
  unfold spec_l1In.f
  by_cases h : b ≤ a <;> simp [h]
def okRange (r : S81) : Bool := decide ((0 ≤ r.f0 ∧ r.f0 ≤ 999) ∧ (0 ≤ r.f1 ∧ r.f1 ≤ 999))
def rangesFault (x : List S81) : Int := if x.length < 1 ∨ 8 < x.length then 2 else if x.all okRange = true then 0 else 3
theorem ev_l11Fault (x : List S81) (hx : x.length ≤ 1048576) : Ev (fun k => spec_l11Fault.f k x) (rangesFault x) := by
  unfold spec_l11Fault.f rangesFault
  by_cases h1 : x.length < 1
  · rw [if_pos (by omega)]
    refine Ev.pos (by omega) (Ev.succ ?_)
    simp only [spec_l11Fault.j0, if_true]
    exact Ev.now _
  refine Ev.neg (by omega) (Ev.succ ?_)
  simp only [spec_l11Fault.j0]
  by_cases h2 : 8 < x.length
  · rw [if_pos (by omega)]
    exact Ev.pos (decide_eq_true (by omega)) (Ev.now _)
  rw [if_neg (by omega)]
  refine Ev.neg (by simp; omega) ?_
  have h := ev_find (fun k i => spec_l11Fault.l0 k x i) x (fun r => if okRange r = true then none else some 3) 0 ?_ ?_ ?_
  · rw [find_guard] at h; exact h
  · refine Ev.succ ?_
    simp only [spec_l11Fault.l0, Int.lt_irrefl, if_false]
    exact Ev.now _
  · intro i hi r hr
    by_cases hok : okRange x[i] = true
    · rw [if_pos hok] at hr; cases hr
    rw [if_neg hok] at hr; cases hr
    simp only [okRange, decide_eq_true_eq] at hok
    refine Ev.succ ?_
    simp only [spec_l11Fault.l0, rd_Range_get x i hi, l1In_eq, Option.bind_some]
    refine Ev.pos (by omega) (Ev.pos (by omega) ?_)
    by_cases ha : 0 ≤ x[i].f0 ∧ x[i].f0 ≤ 999
    · refine Ev.pos (decide_eq_true ha) (Ev.neg ?_ (Ev.now _))
      simp only [decide_eq_true_eq]; exact fun hb => hok ⟨ha, hb⟩
    · exact Ev.neg (by simpa using ha) (Ev.now _)
  · intro i hi hr r h
    by_cases hok : okRange x[i] = true
    case neg => rw [if_neg hok] at hr; cases hr
    simp only [okRange, decide_eq_true_eq] at hok
    refine Ev.succ ?_
    simp only [spec_l11Fault.l0, rd_Range_get x i hi, l1In_eq, Option.bind_some]
    refine Ev.pos (by omega) (Ev.pos (by omega) (Ev.pos (decide_eq_true hok.1) (Ev.pos (decide_eq_true hok.2) ?_)))
    simp only [wsucc hi (show x.length ≤ 281474976710656 by omega)]
    exact h
theorem ev_implRangesFault (x : List S81) (hx : x.length ≤ 1048576) : Ev (fun k => impl_RangesFault.f k x) (rangesFault x) := by
  unfold impl_RangesFault.f rangesFault
  simp only [impl_Range.f, within_eq, Option.bind_some]
  by_cases h1 : x.length < 1 ∨ 8 < x.length
  · rw [if_pos h1]
    exact Ev.neg (by simp; omega) (Ev.now _)
  rw [if_neg h1]
  refine Ev.pos (decide_eq_true (by omega)) ?_
  have h := ev_find (fun k i => impl_RangesFault.l0 k x (x.length : Int) i) x (fun r => if okRange r = true then none else some 3) 0 ?_ ?_ ?_
  · rw [find_guard] at h; exact h
  · refine Ev.succ ?_
    simp only [impl_RangesFault.l0, Int.lt_irrefl, if_false]
    exact Ev.now _
  · intro i hi r hr
    by_cases hok : okRange x[i] = true
    · rw [if_pos hok] at hr; cases hr
    rw [if_neg hok] at hr; cases hr
    simp only [okRange, decide_eq_true_eq] at hok
    refine Ev.succ ?_
    simp only [impl_RangesFault.l0, rd_Range_get x i hi, within_eq, Option.bind_some]
    refine Ev.pos (by omega) (Ev.pos (by omega) (Ev.pos (by omega) ?_))
    by_cases ha : 0 ≤ x[i].f0 ∧ x[i].f0 ≤ 999
    · refine Ev.pos (decide_eq_true ha) (Ev.neg ?_ (Ev.now _))
      simp only [decide_eq_true_eq]; exact fun hb => hok ⟨ha, hb⟩
    · exact Ev.neg (by simpa using ha) (Ev.now _)
  · intro i hi hr r h
    by_cases hok : okRange x[i] = true
    case neg => rw [if_neg hok] at hr; cases hr
    simp only [okRange, decide_eq_true_eq] at hok
    refine Ev.succ ?_
    simp only [impl_RangesFault.l0, rd_Range_get x i hi, within_eq, Option.bind_some]
    refine Ev.pos (by omega) (Ev.pos (by omega) (Ev.pos (by omega) (Ev.pos (decide_eq_true hok.1) (Ev.pos (decide_eq_true hok.2) ?_))))
    simp only [wsucc hi (show x.length ≤ 281474976710656 by omega)]
    exact h
def endOf (m x : Int) : Int := if x = 0 then m else x
def inRange (m n : Int) (r : S81) : Bool := decide ((endOf m r.f0 ≤ n ∨ endOf m r.f1 ≤ n) ∧ (n ≤ endOf m r.f0 ∨ n ≤ endOf m r.f1))
def inSet (x : List S81) (n m : Int) : Bool := x.any (inRange m n)
theorem find_any {α : Type} (p : α → Bool) (l : List α) : ((l.findSome? fun a => if p a = true then some true else none).getD false) = l.any p := by
  induction l with
  | nil => simp
  | cons a l ih => cases h : p a <;> simp [h, ih]
theorem ev_l11In (x : List S81) (n m : Int) (hx : x.length ≤ 1048576) : Ev (fun k => spec_l11In.f k x n m) (inSet x n m) := by
  unfold spec_l11In.f inSet
  have body : ∀ (i : Nat) (hi : i < x.length) (r : Bool), Ev (fun k => if n ≥ (if endOf m x[i].f0 < endOf m x[i].f1 then endOf m x[i].f0 else endOf m x[i].f1) then (if n ≤ (if endOf m x[i].f0 > endOf m x[i].f1 then endOf m x[i].f0 else endOf m x[i].f1) then some true else spec_l11In.l0 k x n m ((i + 1 : Nat) : Int)) else spec_l11In.l0 k x n m ((i + 1 : Nat) : Int)) r → Ev (fun k => spec_l11In.l0 k x n m (i : Int)) r := by
    intro i hi r h
    refine Ev.succ ?_
    simp only [spec_l11In.l0, rd_Range_get x i hi]
    refine Ev.pos (by omega) (Ev.pos (by omega) ?_)
    have j2 : ∀ a b : Int, a = endOf m x[i].f0 → b = endOf m x[i].f1 → Ev (fun k => spec_l11In.j2 k x n m (i : Int) a b) r := by
      intro a b ha hb
      subst ha; subst hb
      refine Ev.succ ?_
      simp only [spec_l11In.j2, spec_l1Min.f, spec_l1Max.f, wsucc hi (show x.length ≤ 281474976710656 by omega)]
      refine Ev.congr (fun k => ?_) h
      by_cases c1 : endOf m x[i].f0 < endOf m x[i].f1 <;> by_cases c2 : endOf m x[i].f0 > endOf m x[i].f1 <;> simp [c1, c2]
    have j1 : ∀ a : Int, a = endOf m x[i].f0 → Ev (fun k => spec_l11In.j1 k x n m (i : Int) a x[i].f1) r := by
      intro a ha
      refine Ev.succ ?_
      simp only [spec_l11In.j1]
      by_cases hc : x[i].f1 = 0
      · exact Ev.pos hc (j2 _ _ ha (by simp [endOf, hc]))
      · exact Ev.neg hc (j2 _ _ ha (by simp [endOf, hc]))
    by_cases hc : x[i].f0 = 0
    · exact Ev.pos hc (j1 _ (by simp [endOf, hc]))
    · exact Ev.neg hc (j1 _ (by simp [endOf, hc]))
  have h := ev_find (fun k i => spec_l11In.l0 k x n m i) x (fun r => if inRange m n r = true then some true else none) false ?_ ?_ ?_
  · rw [find_any] at h; exact h
  · refine Ev.succ ?_
    simp only [spec_l11In.l0, Int.lt_irrefl, if_false]
    exact Ev.now _
  · intro i hi r hr
    by_cases hin : inRange m n x[i] = true
    case neg => rw [if_neg hin] at hr; cases hr
    rw [if_pos hin] at hr; cases hr
    refine body i hi _ ?_
    simp only [inRange, decide_eq_true_eq] at hin
    refine Ev.pos ?_ (Ev.pos ?_ (Ev.now _))
    · split <;> omega
    · split <;> omega
  · intro i hi hr r h
    by_cases hin : inRange m n x[i] = true
    · rw [if_pos hin] at hr; cases hr
    refine body i hi _ ?_
    simp only [inRange, decide_eq_true_eq] at hin
    by_cases h1 : n ≥ (if endOf m x[i].f0 < endOf m x[i].f1 then endOf m x[i].f0 else endOf m x[i].f1)
    · refine Ev.pos h1 (Ev.neg ?_ h)
      intro h2
      apply hin
      constructor
      · split at h1 <;> omega
      · split at h2 <;> omega
    · exact Ev.neg h1 h
theorem ev_implinSet (x : List S81) (n m : Int) (hx : x.length ≤ 1048576) : Ev (fun k => impl_inSet.f k x n m) (inSet x n m) := by
  unfold impl_inSet.f inSet
  have hend : ∀ a : Int, impl_inSet_1_v0.f a [m] = some (endOf m a) := by
    intro a
    unfold impl_inSet_1_v0.f endOf
    by_cases ha : a = 0 <;> simp [ha, rd]
  have h := ev_find (fun k i => impl_inSet.l0 k n x (x.length : Int) i m) x (fun r => if inRange m n r = true then some true else none) false ?_ ?_ ?_
  · rw [find_any] at h; exact h
  · refine Ev.succ ?_
    simp only [impl_inSet.l0, Int.lt_irrefl, if_false]
    exact Ev.now _
  · intro i hi r hr
    by_cases hin : inRange m n x[i] = true
    case neg => rw [if_neg hin] at hr; cases hr
    rw [if_pos hin] at hr; cases hr
    refine Ev.succ ?_
    simp only [impl_inSet.l0, rd_Range_get x i hi, hend, within_eq, Option.bind_some]
    refine Ev.pos (by omega) (Ev.pos (by omega) (Ev.pos (by omega) (Ev.pos (decide_eq_true ?_) (Ev.now _))))
    simp only [inRange, decide_eq_true_eq] at hin
    unfold mn mx
    constructor <;> split <;> omega
  · intro i hi hr r h
    by_cases hin : inRange m n x[i] = true
    · rw [if_pos hin] at hr; cases hr
    refine Ev.succ ?_
    simp only [impl_inSet.l0, rd_Range_get x i hi, hend, within_eq, Option.bind_some]
    refine Ev.pos (by omega) (Ev.pos (by omega) (Ev.pos (by omega) (Ev.neg ?_ ?_)))
    · simp only [inRange, decide_eq_true_eq] at hin ⊢
      intro h2
      apply hin
      unfold mn mx at h2
      constructor
      · have := h2.1; split at this <;> omega
      · have := h2.2; split at this <;> omega
    · simp only [wsucc hi (show x.length ≤ 281474976710656 by omega)]
      exact h
def inSetF (x : List S81) (n m : Int) : Bool := decide (rangesFault x = 0) && (decide (1 ≤ m ∧ m ≤ 999) && (decide (1 ≤ n ∧ n ≤ m) && inSet x n m))
theorem ev_specInSet (x : List S81) (n m : Int) (hx : x.length ≤ 1048576) : Ev (fun k => spec_InSet.f k x n m) (inSetF x n m) := by
  unfold spec_InSet.f inSetF
  refine Ev.bind (ev_l11Fault x hx) ?_
  simp only [l1In_eq, Option.bind_some]
  by_cases h0 : rangesFault x = 0
  case neg => refine Ev.neg h0 ?_; simp only [h0, decide_false, Bool.false_and]; exact Ev.now _
  refine Ev.pos h0 ?_
  by_cases h1 : 1 ≤ m ∧ m ≤ 999
  case neg => refine Ev.neg (by simpa using h1) ?_; simp only [h0, h1, decide_false, decide_true, Bool.false_and, Bool.true_and]; exact Ev.now _
  refine Ev.pos (decide_eq_true h1) ?_
  by_cases h2 : 1 ≤ n ∧ n ≤ m
  case neg => refine Ev.neg (by simpa using h2) ?_; simp only [h0, h1, h2, decide_false, decide_true, Bool.false_and, Bool.true_and]; exact Ev.now _
  refine Ev.pos (decide_eq_true h2) ?_
  simp only [h0, h1, h2, decide_true, Bool.true_and, and_self]
  exact Ev.bind (ev_l11In x n m hx) (Ev.now _)
theorem ev_implInSet (x : List S81) (n m : Int) (hx : x.length ≤ 1048576) : Ev (fun k => impl_InSet.f k x n m) (inSetF x n m) := by
  unfold impl_InSet.f inSetF
  refine Ev.bind (ev_implRangesFault x hx) ?_
  simp only [within_eq, Option.bind_some]
  by_cases h0 : rangesFault x = 0
  case neg => refine Ev.neg h0 ?_; simp only [h0, decide_false, Bool.false_and]; exact Ev.now _
  refine Ev.pos h0 ?_
  by_cases h1 : 1 ≤ m ∧ m ≤ 999
  case neg => refine Ev.neg (by simpa using h1) ?_; simp only [h0, h1, decide_false, decide_true, Bool.false_and, Bool.true_and]; exact Ev.now _
  refine Ev.pos (decide_eq_true h1) ?_
  by_cases h2 : 1 ≤ n ∧ n ≤ m
  case neg => refine Ev.neg (by simpa using h2) ?_; simp only [h0, h1, h2, decide_false, decide_true, Bool.false_and, Bool.true_and]; exact Ev.now _
  refine Ev.pos (decide_eq_true h2) ?_
  simp only [h0, h1, h2, decide_true, Bool.true_and, and_self]
  exact Ev.bind (ev_implinSet x n m hx) (Ev.now _)
theorem FnExactInSet : ∀ (l0 : List (S83)) (a1 : Int) (a2 : Int), (l0.length * 16 ≤ 140737488351232 ∧ ∀ x1_ ∈ l0, ((Lit.int .i64 x1_.f0).wf = true ∧ (Lit.int .i64 x1_.f1).wf = true)) → (Lit.int .i64 a1).wf = true → (Lit.int .i64 a2).wf = true → ∃ k, laws_FnExactInSet.f k l0 a1 a2 = some true := by
  rintro x n m ⟨hx, _⟩ _ _
  apply Ev.get
  unfold laws_FnExactInSet.f
  rw [szRangeS_eq x 1048576 (by omega) (by omega) (by omega)]
  simp only [Option.bind_some]
  by_cases hbig : (1048576 : Int) - x.length < 0
  · rw [if_pos hbig]
    exact Ev.pos (by omega) (Ev.now _)
  rw [if_neg hbig]
  have hl : x.length ≤ 1048576 := by omega
  have hl' : (x.map cvRange).length ≤ 1048576 := by simpa using hl
  refine Ev.neg (by omega) ?_
  refine Ev.bind (ev_toRangeS x hl) (Ev.bind (ev_specInSet _ n m hl') (Ev.bind (ev_toRangeS x hl) (Ev.bind (ev_implInSet _ n m hl') (Ev.neg (by simp) ?_))))
  exact Ev.bind (ev_toRangeS x hl) (Ev.bind (ev_eqRangeS _ hl') (Ev.pos rfl (Ev.now _)))

end Go.Proofs.Ytcliocbkoijblaa.Pure

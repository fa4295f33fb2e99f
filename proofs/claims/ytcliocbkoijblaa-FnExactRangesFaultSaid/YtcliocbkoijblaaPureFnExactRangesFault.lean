/- The program's RangesFault returns what the reference's RangesFault returns, for every list of ranges. Conditions: none. -/
import Derived.Test.YtcliocbkoijblaaPFnExactRangesFaultx2
import Derived.Test.YtcliocbkoijblaaU
namespace Go.Proofs.Ytcliocbkoijblaa.Pure
open Go.RowKit Go.Proofs.Ytcliocbkoijblaa.PFnExactRangesFault Go.Proofs.YtcliocbkoijblaaW.PrintWords Go.Proofs.YtcliocbkoijblaaW.PrintLast Go.Proofs.Ytcliocbkoijblaa.U
set_option linter.unusedSimpArgs false
set_option linter.unusedVariables false

def cvRange (x : S83) : S81 := ⟨x.f0, x.f1⟩
theorem rd_Range_get (x : List S81) (i : Nat) (h : i < x.length) : rd_T81 x (i : Int) = x[i] := by simp [rd_T81, List.getD_eq_getElem?_getD, h]
theorem rd_lRange_get (x : List S83) (i : Nat) (h : i < x.length) : rd_T83 x (i : Int) = x[i] := by simp [rd_T83, List.getD_eq_getElem?_getD, h]
theorem szRangeS_eq (x : List S83) (m : Int) (hx : x.length * 16 ≤ 140737488351232) (h0 : 0 ≤ m) (h1 : m ≤ 1048576) : laws_szRangeS.f x m = some (if m - x.length < 0 then -1 else m - x.length) := by
  unfold laws_szRangeS.f
  rw [wid (by omega) (by omega)]
  split <;> rfl
theorem ev_toRangeS (x : List S83) (hx : x.length ≤ 1048576) : Ev (fun k => laws_toRangeS.f k x) (x.map cvRange) := by
  unfold laws_toRangeS.f
  have h := ev_copy (fun k y i => laws_toRangeS.l0 k x y i) x cvRange (fun y => y) ?_ ?_ (List.replicate x.length z81) (by simp)
  · refine Ev.pos (by omega) (Ev.pos (by omega) ?_)
    simp only [Int.toNat_natCast]
    exact h
  · refine Ev.succ ?_
    simp only [laws_toRangeS.l0, Int.lt_irrefl, if_false]
    exact Ev.now _
  · intro i hi y hy r h
    refine Ev.succ ?_
    simp only [laws_toRangeS.l0, laws_toRange.f, Option.bind_some]
    refine Ev.pos (by omega) (Ev.pos (by omega) (Ev.pos (by omega) ?_))
    simp only [Int.toNat_natCast, rd_lRange_get x i hi, wsucc hi (show x.length ≤ 281474976710656 by omega)]
    exact h
theorem ev_eqRangeS (x : List S81) (hx : x.length ≤ 1048576) : Ev (fun k => laws_eqRangeS.f k x x) true := by
  unfold laws_eqRangeS.f
  refine Ev.pos rfl ?_
  refine ev_iter (fun k (_ : Unit) i => laws_eqRangeS.l0 k x x i) x.length (fun _ => ()) true ?_ ?_
  · refine Ev.succ ?_
    simp only [laws_eqRangeS.l0, Int.lt_irrefl, if_false]
    exact Ev.now _
  · intro i hi r h
    refine Ev.succ ?_
    simp only [laws_eqRangeS.l0, laws_eqRange.f]
    refine Ev.pos (by omega) (Ev.pos (by omega) (Ev.pos (by omega) ?_))
    simp only [if_true, Option.bind_some, wsucc hi (show x.length ≤ 281474976710656 by omega)]
    exact h
theorem within_eq (a b c : Int) : impl_within.f a b c = some (decide (b ≤ a ∧ a ≤ c)) := by
  unfold impl_within.f
  by_cases h : b ≤ a <;> simp [h]
theorem l1In_eq (a b c : Int) : spec_l1In.f a b c = some (decide (b ≤ a ∧ a ≤ c)) := by
  unfold spec_l1In.f
  by_cases h : b ≤ a <;> simp [h]
def okRange (r : S81) : Bool := decide ((0 ≤ r.f0 ∧ r.f0 ≤ 999) ∧ (0 ≤ r.f1 ∧ r.f1 ≤ 999))
def rangesFault (x : List S81) : Int := if x.length < 1 ∨ 8 < x.length then 2 else if x.all okRange = true then 0 else 3
theorem ev_l11Fault (x : List S81) (hx : x.length ≤ 1048576) : Ev (fun k => spec_l11Fault.f k x) (rangesFault x) := by
  unfold spec_l11Fault.f rangesFault
  by_cases h1 : x.length < 1
  · rw [if_pos (by omega)]
    refine Ev.pos (by omega) (Ev.succ ?_)
    simp only [spec_l11Fault.j0, if_true]
    exact Ev.now _
  refine Ev.neg (by omega) (Ev.succ ?_)
  simp only [spec_l11Fault.j0]
  by_cases h2 : 8 < x.length
  · rw [if_pos (by omega)]
    exact Ev.pos (decide_eq_true (by omega)) (Ev.now _)
  rw [if_neg (by omega)]
  refine Ev.neg (by simp; omega) ?_
  have h := ev_find (fun k i => spec_l11Fault.l0 k x i) x (fun r => if okRange r = true then none else some 3) 0 ?_ ?_ ?_
  · rw [find_guard] at h; exact h
  · refine Ev.succ ?_
    simp only [spec_l11Fault.l0, Int.lt_irrefl, if_false]
    exact Ev.now _
  · intro i hi r hr
    by_cases hok : okRange x[i] = true
    · rw [if_pos hok] at hr; cases hr
    rw [if_neg hok] at hr; cases hr
    simp only [okRange, decide_eq_true_eq] at hok
    refine Ev.succ ?_
    simp only [spec_l11Fault.l0, rd_Range_get x i hi, l1In_eq, Option.bind_some]
    refine Ev.pos (by omega) (Ev.pos (by omega) ?_)
    by_cases ha : 0 ≤ x[i].f0 ∧ x[i].f0 ≤ 999
    · refine Ev.pos (decide_eq_true ha) (Ev.neg ?_ (Ev.now _))
      simp only [decide_eq_true_eq]; exact fun hb => hok ⟨ha, hb⟩
    · exact Ev.neg (by simpa using ha) (Ev.now _)
  · intro i hi hr r h
    by_cases hok : okRange x[i] = true
    case neg => rw [if_neg hok] at hr; cases hr
    simp only [okRange, decide_eq_true_eq] at hok
    refine Ev.succ ?_
    simp only [spec_l11Fault.l0, rd_Range_get x i hi, l1In_eq, Option.bind_some]
    refine Ev.pos (by omega) (Ev.pos (by omega) (Ev.pos (decide_eq_true hok.1) (Ev.pos (decide_eq_true hok.2) ?_)))
    simp only [wsucc hi (show x.length ≤ 281474976710656 by omega)]
    exact h
theorem ev_implRangesFault (x : List S81) (hx : x.length ≤ 1048576) : Ev (fun k => impl_RangesFault.f k x) (rangesFault x) := by
  unfold impl_RangesFault.f rangesFault
  simp only [impl_Range.f, within_eq, Option.bind_some]
  by_cases h1 : x.length < 1 ∨ 8 < x.length
  · rw [if_pos h1]
    exact Ev.neg (by simp; omega) (Ev.now _)
  rw [if_neg h1]
  refine Ev.pos (decide_eq_true (by omega)) ?_
  have h := ev_find (fun k i => impl_RangesFault.l0 k x (x.length : Int) i) x (fun r => if okRange r = true then none else some 3) 0 ?_ ?_ ?_
  · rw [find_guard] at h; exact h
  · refine Ev.succ ?_
    simp only [impl_RangesFault.l0, Int.lt_irrefl, if_false]
    exact Ev.now _
  · intro i hi r hr
    by_cases hok : okRange x[i] = true
    · rw [if_pos hok] at hr; cases hr
    rw [if_neg hok] at hr; cases hr
    simp only [okRange, decide_eq_true_eq] at hok
    refine Ev.succ ?_
    simp only [impl_RangesFault.l0, rd_Range_get x i hi, within_eq, Option.bind_some]
    refine Ev.pos (by omega) (Ev.pos (by omega) (Ev.pos (by omega) ?_))
    by_cases ha : 0 ≤ x[i].f0 ∧ x[i].f0 ≤ 999
    · refine Ev.pos (decide_eq_true ha) (Ev.neg ?_ (Ev.now _))
      simp only [decide_eq_true_eq]; exact fun hb => hok ⟨ha, hb⟩
    · exact Ev.neg (by simpa using ha) (Ev.now _)
  · intro i hi hr r h
    by_cases hok : okRange x[i] = true
    case neg => rw [if_neg hok] at hr; cases hr
    simp only [okRange, decide_eq_true_eq] at hok
    refine Ev.succ ?_
    simp only [impl_RangesFault.l0, rd_Range_get x i hi, within_eq, Option.bind_some]
    refine Ev.pos (by omega) (Ev.pos (by omega) (Ev.pos (by omega) (Ev.pos (decide_eq_true hok.1) (Ev.pos (decide_eq_true hok.2) ?_))))
    simp only [wsucc hi (show x.length ≤ 281474976710656 by omega)]
    exact h
theorem FnExactRangesFault : ∀ (l0 : List (S83)), (l0.length * 16 ≤ 140737488351232 ∧ ∀ x1_ ∈ l0, ((Lit.int .i64 x1_.f0).wf = true ∧ (Lit.int .i64 x1_.f1).wf = true)) → ∃ k, laws_FnExactRangesFault.f k l0 = some true := by
  rintro x ⟨hx, _⟩
  apply Ev.get
  unfold laws_FnExactRangesFault.f
  rw [szRangeS_eq x 1048576 (by omega) (by omega) (by omega)]
  by_cases hbig : (1048576 : Int) - x.length < 0
  · rw [if_pos hbig]
    simp only [Option.bind_some]
    exact Ev.pos (by omega) (Ev.now _)
  rw [if_neg hbig]
  simp only [Option.bind_some, spec_RangesFault.f]
  have hl : x.length ≤ 1048576 := by omega
  have hl' : (x.map cvRange).length ≤ 1048576 := by simpa using hl
  refine Ev.neg (by omega) ?_
  refine Ev.bind (ev_toRangeS x hl) (Ev.bind (Ev.bind (ev_l11Fault _ hl') (Ev.now _)) (Ev.bind (ev_toRangeS x hl) (Ev.bind (ev_implRangesFault _ hl') (Ev.pos rfl ?_))))
  exact Ev.bind (ev_toRangeS x hl) (Ev.bind (ev_eqRangeS _ hl') (Ev.pos rfl (Ev.now _)))

end Go.Proofs.Ytcliocbkoijblaa.Pure

/- The law of Expands, told of the printed functions. -/
import Derived.Test.YtcliocbkoijblaaPFnExpandsx5
import Derived.Test.YtcliocbkoijblaaU
namespace Go.Proofs.Ytcliocbkoijblaa.Pure
open Go.RowKit Go.Proofs.Ytcliocbkoijblaa.PFnExpands Go.Proofs.YtcliocbkoijblaaW.PrintWords Go.Proofs.YtcliocbkoijblaaW.PrintLast Go.Proofs.Ytcliocbkoijblaa.U
set_option linter.unusedSimpArgs false
set_option linter.unusedVariables false

theorem rd_Range_get (x : List S81) (i : Nat) (h : i < x.length) : rd_T81 x (i : Int) = x[i] := by simp [rd_T81, List.getD_eq_getElem?_getD, h]
theorem rd_byte (b : List Int) (hb : ∀ x ∈ b, 0 ≤ x ∧ x ≤ 255) (q : Int) (h0 : 0 ≤ q) (h1 : q < b.length) : 0 ≤ rd b q ∧ rd b q ≤ 255 := by
  obtain ⟨i, rfl⟩ : ∃ i : Nat, q = i := ⟨q.toNat, by omega⟩
  rw [rd_get b i (by omega)]
  exact hb _ (List.getElem_mem _)
theorem tmod_bd (a n : Int) (h0 : 0 ≤ a) (hn : 0 < n) : 0 ≤ Int.tmod a n ∧ Int.tmod a n < n := ⟨Int.tmod_nonneg _ h0, Int.tmod_lt_of_pos _ hn⟩
theorem next_ok (b : List Int) (hb : ∀ x ∈ b, 0 ≤ x ∧ x ≤ 255) (hl : b.length ≤ 1048576) (p n : Int) (hp0 : 0 ≤ p) (hp1 : p ≤ 100000) (hn0 : 1 ≤ n) (hn1 : n ≤ 100000) : ∃ v, spec_l1Next.f b p n = some (v, p + 1) ∧ 0 ≤ v ∧ v < n := by
  have e1 : wrap64 (p + 1) = p + 1 := wid (by omega) (by omega)
  have e2 : wrap64 (p + 1 - 1) = p := by rw [wid (by omega) (by omega)]; omega
  have fin : ∀ W : Int, 0 ≤ W → ∃ v, some (Int.tmod W n, p + 1) = some (v, p + 1) ∧ 0 ≤ v ∧ v < n := fun W hW => ⟨_, rfl, tmod_bd W n hW (by omega)⟩
  unfold spec_l1Next.f
  rw [if_neg (by omega)]
  simp only [e1, e2]
  by_cases hb0 : (b.length : Int) = 0
  · rw [if_pos hb0, if_neg (by omega)]
    exact fin _ (by rw [wid (by omega) (by omega)]; omega)
  rw [if_neg hb0]
  have hq := tmod_bd p b.length hp0 (by omega)
  rw [if_pos hq.1, if_pos hq.2]
  have hr := rd_byte b hb _ hq.1 hq.2
  have hd0 : 0 ≤ Int.tdiv p (b.length : Int) := Int.tdiv_nonneg hp0 (by omega)
  have hd1 : Int.tdiv p (b.length : Int) ≤ p := Int.tdiv_le_self _ hp0
  by_cases hn : n > 200
  · have e3 : wrap64 (p + 1) = p + 1 := e1
    have hq' := tmod_bd (p + 1) b.length (by omega) (by omega)
    have hr' := rd_byte b hb _ hq'.1 hq'.2
    rw [if_pos hn, if_pos hq'.1, if_pos hq'.2, if_neg (by omega)]
    apply fin
    generalize rd b (Int.tmod p b.length) = r at hr ⊢
    generalize rd b (Int.tmod (p + 1) b.length) = r' at hr' ⊢
    generalize Int.tdiv p (b.length : Int) = d at hd0 hd1 ⊢
    rw [wid (x := r) (by omega) (by omega), wid (x := r') (by omega) (by omega), wid (x := d) (by omega) (by omega), wid (x := d * 37) (by omega) (by omega), wid (x := r + d * 37) (by omega) (by omega), wid (x := (r + d * 37) * 251) (by omega) (by omega), wid (x := r' * 13) (by omega) (by omega), wid (x := (r + d * 37) * 251 + r' * 13) (by omega) (by omega), wid (by omega) (by omega)]
    omega
  · rw [if_neg hn, if_neg (by omega)]
    apply fin
    generalize rd b (Int.tmod p b.length) = r at hr ⊢
    generalize Int.tdiv p (b.length : Int) = d at hd0 hd1 ⊢
    rw [wid (x := r) (by omega) (by omega), wid (x := d) (by omega) (by omega), wid (x := d * 37) (by omega) (by omega), wid (by omega) (by omega)]
    omega
theorem pick_ok (b : List Int) (hb : ∀ x ∈ b, 0 ≤ x ∧ x ≤ 255) (hl : b.length ≤ 1048576) (p : Int) (hp0 : 0 ≤ p) (hp1 : p ≤ 100000) (l : List Int) (hn0 : 1 ≤ l.length) (hn1 : l.length ≤ 100000) : ∃ v, spec_l1Pick.f b p l = some (v, p + 1) ∧ v ∈ l := by
  obtain ⟨v, hv, h0, h1⟩ := next_ok b hb hl p l.length hp0 hp1 (by omega) (by omega)
  unfold spec_l1Pick.f
  rw [hv]
  obtain ⟨i, rfl⟩ : ∃ i : Nat, v = i := ⟨v.toNat, by omega⟩
  refine ⟨l[i]'(by omega), ?_, List.getElem_mem _⟩
  simp only [Option.bind_some]
  rw [if_pos h0, if_pos h1, rd_get l i (by omega)]
theorem src_eq (b : List Int) : spec_l1Source.f b = some (b, 0) := rfl
theorem ev_l11DrawL (b : List Int) (hb : ∀ x ∈ b, 0 ≤ x ∧ x ≤ 255) (hl : b.length ≤ 1048576) (c : Nat) : ∀ (x : List S81) (p : Int), x.length + c ≤ 100 → c ≤ 10 → 0 ≤ p → p + 5 * c ≤ 1000 → ∃ y q, Ev (fun k => spec_l11Draw.l0 k x (c : Int) b p) (y, q) ∧ y.length = x.length + c ∧ 0 ≤ q ∧ q ≤ p + 5 * c := by
  induction c with
  | zero =>
    intro x p _ _ h0 _
    refine ⟨x, p, Ev.succ ?_, rfl, h0, by omega⟩
    simp only [spec_l11Draw.l0]
    exact Ev.neg (by omega) (Ev.now _)
  | succ c ih =>
    intro x p hx hc h0 h1
    obtain ⟨v1, e1, _⟩ := next_ok b hb hl p 6 (by omega) (by omega) (by omega) (by omega)
    obtain ⟨v2, e2, _⟩ := next_ok b hb hl (p + 1) 6 (by omega) (by omega) (by omega) (by omega)
    obtain ⟨v3, e3, _⟩ := pick_ok b hb hl (p + 1 + 1) (by omega) (by omega) [wrap64 (1 + v1), wrap64 (1 + v2), 0, 999] (by simp) (by simp)
    obtain ⟨v4, e4, _⟩ := next_ok b hb hl (p + 1 + 1 + 1) 6 (by omega) (by omega) (by omega) (by omega)
    obtain ⟨v5, e5, _⟩ := pick_ok b hb hl (p + 1 + 1 + 1 + 1) (by omega) (by omega) [v3, wrap64 (1 + v4), 0] (by simp) (by simp)
    obtain ⟨y, q, h, hy, hq0, hq1⟩ := ih (x ++ [⟨v3, v5⟩]) (p + 1 + 1 + 1 + 1 + 1) (by simp only [List.length_append, List.length_cons, List.length_nil]; omega) (by omega) (by omega) (by omega)
    refine ⟨y, q, Ev.succ ?_, by simp only [List.length_append, List.length_cons, List.length_nil] at hy; omega, hq0, by omega⟩
    simp only [spec_l11Draw.l0, e1, e2, e3, e4, e5, Option.bind_some]
    refine Ev.pos (by omega) (Ev.pos (by omega) ?_)
    rw [show wrap64 (((c + 1 : Nat) : Int) - 1) = (c : Int) by rw [wid (by omega) (by omega)]; omega]
    exact h
theorem ev_l11Bent (b : List Int) (hb : ∀ x ∈ b, 0 ≤ x ∧ x ≤ 255) (hl : b.length ≤ 1048576) (p : Int) (h0 : 0 ≤ p) (h1 : p ≤ 500) : ∃ y q, Ev (fun k => spec_l11Bent.f k b p) (y, q) ∧ y.length ≤ 100 ∧ 0 ≤ q ∧ q ≤ p + 100 := by
  obtain ⟨v, e, hv0, hv1⟩ := next_ok b hb hl p 3 (by omega) (by omega) (by omega) (by omega)
  obtain ⟨c, rfl⟩ : ∃ c : Nat, v = c := ⟨v.toNat, by omega⟩
  obtain ⟨y, q, h, hy, hq0, hq1⟩ := ev_l11DrawL b hb hl (1 + c) [] (p + 1) (by simp only [List.length_nil]; omega) (by omega) (by omega) (by omega)
  simp only [List.length_nil] at hy
  have hd : Ev (fun k => spec_l11Draw.f k b p) (y, q) := by
    unfold spec_l11Draw.f
    simp only [e, Option.bind_some]
    rw [show wrap64 (1 + (c : Int)) = ((1 + c : Nat) : Int) by rw [wid (by omega) (by omega)]; omega]
    exact h
  obtain ⟨w, e2, _⟩ := next_ok b hb hl q 10 (by omega) (by omega) (by omega) (by omega)
  obtain ⟨w3, e3, _⟩ := pick_ok b hb hl (q + 1) (by omega) (by omega) [-1, 1000] (by simp) (by simp)
  obtain ⟨w4, e4, h4⟩ := pick_ok b hb hl (q + 1) (by omega) (by omega) [0, 9] (by simp) (by simp)
  unfold spec_l11Bent.f
  by_cases c0 : w = 0
  · refine ⟨y.set 0 ⟨w3, (rd_T81 y 0).f1⟩, q + 1 + 1, Ev.bind hd ?_, by simp; omega, by omega, by omega⟩
    simp only [e2, e3, Option.bind_some]
    exact Ev.pos c0 (Ev.pos (by omega) (Ev.now _))
  by_cases c1 : w = 1
  · have h4' : w4 = 0 ∨ w4 = 9 := by simpa using h4
    refine ⟨List.replicate w4.toNat z81, q + 1 + 1, Ev.bind hd ?_, by simp; omega, by omega, by omega⟩
    simp only [e2, e4, Option.bind_some]
    exact Ev.neg c0 (Ev.pos c1 (Ev.pos (by omega) (Ev.pos (by omega) (Ev.now _))))
  · refine ⟨y, q + 1, Ev.bind hd ?_, by omega, by omega, by omega⟩
    simp only [e2, Option.bind_some]
    exact Ev.neg c0 (Ev.neg c1 (Ev.now _))
theorem ev_DrawExpandSet (b : List Int) (hb : ∀ x ∈ b, 0 ≤ x ∧ x ≤ 255) (hl : b.length ≤ 1048576) : ∃ y m, Ev (fun k => spec_DrawExpandSet.f k b) (y, m) ∧ y.length ≤ 100 := by
  obtain ⟨y, q, h, hy, h0, h1⟩ := ev_l11Bent b hb hl 0 (by omega) (by omega)
  obtain ⟨v1, e1, _⟩ := next_ok b hb hl q 9 (by omega) (by omega) (by omega) (by omega)
  obtain ⟨v2, e2, _⟩ := next_ok b hb hl (q + 1) 9 (by omega) (by omega) (by omega) (by omega)
  obtain ⟨v3, e3, _⟩ := pick_ok b hb hl (q + 1 + 1) (by omega) (by omega) [v1, v2, 999, 1000, -1] (by simp) (by simp)
  refine ⟨y, v3, ?_, hy⟩
  unfold spec_DrawExpandSet.f
  simp only [src_eq, Option.bind_some]
  refine Ev.bind h ?_
  simp only [e1, e2, e3, Option.bind_some]
  exact Ev.now _
theorem ev_DrawInSet (b : List Int) (hb : ∀ x ∈ b, 0 ≤ x ∧ x ≤ 255) (hl : b.length ≤ 1048576) : ∃ y n m, Ev (fun k => spec_DrawInSet.f k b) (y, n, m) ∧ y.length ≤ 100 := by
  obtain ⟨y, q, h, hy, h0, h1⟩ := ev_l11Bent b hb hl 0 (by omega) (by omega)
  obtain ⟨v1, e1, _⟩ := next_ok b hb hl q 8 (by omega) (by omega) (by omega) (by omega)
  obtain ⟨v2, e2, _⟩ := next_ok b hb hl (q + 1) 9 (by omega) (by omega) (by omega) (by omega)
  obtain ⟨v3, e3, _⟩ := pick_ok b hb hl (q + 1 + 1) (by omega) (by omega) [v2, 999, 1000] (by simp) (by simp)
  refine ⟨y, v1, v3, ?_, hy⟩
  unfold spec_DrawInSet.f
  simp only [src_eq, Option.bind_some]
  refine Ev.bind h ?_
  simp only [e1, e2, e3, Option.bind_some]
  exact Ev.now _
theorem within_eq (a b c : Int) : impl_within.f a b c = some (decide (b ≤ a ∧ a ≤ c)) := by
  unfold impl_within.f
  by_cases h : b ≤ a <;> simp [h]
theorem l1In_eq (a b c : Int) : spec_l1In.f a b c = some (decide (b ≤ a ∧ a ≤ c)) := by
  unfold spec_l1In.f
  by_cases h : b ≤ a <;> simp [h]
def okRange (r : S81) : Bool := decide ((0 ≤ r.f0 ∧ r.f0 ≤ 999) ∧ (0 ≤ r.f1 ∧ r.f1 ≤ 999))
def rangesFault (x : List S81) : Int := if x.length < 1 ∨ 8 < x.length then 2 else if x.all okRange = true then 0 else 3
theorem ev_l11Fault (x : List S81) (hx : x.length ≤ 1048576) : Ev (fun k => spec_l11Fault.f k x) (rangesFault x) := by
  unfold spec_l11Fault.f rangesFault
  by_cases h1 : x.length < 1
  · rw [if_pos (by omega)]
    refine Ev.pos (by omega) (Ev.succ ?_)
    simp only [spec_l11Fault.j0, if_true]
    exact Ev.now _
  refine Ev.neg (by omega) (Ev.succ ?_)
  simp only [spec_l11Fault.j0]
  by_cases h2 : 8 < x.length
  · rw [if_pos (by omega)]
    exact Ev.pos (decide_eq_true (by omega)) (Ev.now _)
  rw [if_neg (by omega)]
  refine Ev.neg (by simp; omega) ?_
  have h := ev_find (fun k i => spec_l11Fault.l0 k x i) x (fun r => if okRange r = true then none else some 3) 0 ?_ ?_ ?_
  · rw [find_guard] at h; exact h
  · refine Ev.succ ?_
    simp only [spec_l11Fault.l0, Int.lt_irrefl, if_false]
    exact Ev.now _
  · intro i hi r hr
    by_cases hok : okRange x[i] = true
    · rw [if_pos hok] at hr; cases hr
    rw [if_neg hok] at hr; cases hr
    simp only [okRange, decide_eq_true_eq] at hok
    refine Ev.succ ?_
    simp only [spec_l11Fault.l0, rd_Range_get x i hi, l1In_eq, Option.bind_some]
    refine Ev.pos (by omega) (Ev.pos (by omega) ?_)
    by_cases ha : 0 ≤ x[i].f0 ∧ x[i].f0 ≤ 999
    · refine Ev.pos (decide_eq_true ha) (Ev.neg ?_ (Ev.now _))
      simp only [decide_eq_true_eq]; exact fun hb => hok ⟨ha, hb⟩
    · exact Ev.neg (by simpa using ha) (Ev.now _)
  · intro i hi hr r h
    by_cases hok : okRange x[i] = true
    case neg => rw [if_neg hok] at hr; cases hr
    simp only [okRange, decide_eq_true_eq] at hok
    refine Ev.succ ?_
    simp only [spec_l11Fault.l0, rd_Range_get x i hi, l1In_eq, Option.bind_some]
    refine Ev.pos (by omega) (Ev.pos (by omega) (Ev.pos (decide_eq_true hok.1) (Ev.pos (decide_eq_true hok.2) ?_)))
    simp only [wsucc hi (show x.length ≤ 281474976710656 by omega)]
    exact h
theorem ev_implRangesFault (x : List S81) (hx : x.length ≤ 1048576) : Ev (fun k => impl_RangesFault.f k x) (rangesFault x) := by
  unfold impl_RangesFault.f rangesFault
  simp only [impl_Range.f, within_eq, Option.bind_some]
  by_cases h1 : x.length < 1 ∨ 8 < x.length
  · rw [if_pos h1]
    exact Ev.neg (by simp; omega) (Ev.now _)
  rw [if_neg h1]
  refine Ev.pos (decide_eq_true (by omega)) ?_
  have h := ev_find (fun k i => impl_RangesFault.l0 k x (x.length : Int) i) x (fun r => if okRange r = true then none else some 3) 0 ?_ ?_ ?_
  · rw [find_guard] at h; exact h
  · refine Ev.succ ?_
    simp only [impl_RangesFault.l0, Int.lt_irrefl, if_false]
    exact Ev.now _
  · intro i hi r hr
    by_cases hok : okRange x[i] = true
    · rw [if_pos hok] at hr; cases hr
    rw [if_neg hok] at hr; cases hr
    simp only [okRange, decide_eq_true_eq] at hok
    refine Ev.succ ?_
    simp only [impl_RangesFault.l0, rd_Range_get x i hi, within_eq, Option.bind_some]
    refine Ev.pos (by omega) (Ev.pos (by omega) (Ev.pos (by omega) ?_))
    by_cases ha : 0 ≤ x[i].f0 ∧ x[i].f0 ≤ 999
    · refine Ev.pos (decide_eq_true ha) (Ev.neg ?_ (Ev.now _))
      simp only [decide_eq_true_eq]; exact fun hb => hok ⟨ha, hb⟩
    · exact Ev.neg (by simpa using ha) (Ev.now _)
  · intro i hi hr r h
    by_cases hok : okRange x[i] = true
    case neg => rw [if_neg hok] at hr; cases hr
    simp only [okRange, decide_eq_true_eq] at hok
    refine Ev.succ ?_
    simp only [impl_RangesFault.l0, rd_Range_get x i hi, within_eq, Option.bind_some]
    refine Ev.pos (by omega) (Ev.pos (by omega) (Ev.pos (by omega) (Ev.pos (decide_eq_true hok.1) (Ev.pos (decide_eq_true hok.2) ?_))))
    simp only [wsucc hi (show x.length ≤ 281474976710656 by omega)]
    exact h
def endOf (m x : Int) : Int := if x = 0 then m else x
def inRange (m n : Int) (r : S81) : Bool := decide ((endOf m r.f0 ≤ n ∨ endOf m r.f1 ≤ n) ∧ (n ≤ endOf m r.f0 ∨ n ≤ endOf m r.f1))
def inSet (x : List S81) (n m : Int) : Bool := x.any (inRange m n)
theorem find_any {α : Type} (p : α → Bool) (l : List α) : ((l.findSome? fun a => if p a = true then some true else none).getD false) = l.any p := by
  induction l with
  | nil => simp
  | cons a l ih => cases h : p a <;> simp [h, ih]
theorem ev_l11In (x : List S81) (n m : Int) (hx : x.length ≤ 1048576) : Ev (fun k => spec_l11In.f k x n m) (inSet x n m) := by
  unfold spec_l11In.f inSet
  have body : ∀ (i : Nat) (hi : i < x.length) (r : Bool), Ev (fun k => if n ≥ (if endOf m x[i].f0 < endOf m x[i].f1 then endOf m x[i].f0 else endOf m x[i].f1) then (if n ≤ (if endOf m x[i].f0 > endOf m x[i].f1 then endOf m x[i].f0 else endOf m x[i].f1) then some true else spec_l11In.l0 k x n m ((i + 1 : Nat) : Int)) else spec_l11In.l0 k x n m ((i + 1 : Nat) : Int)) r → Ev (fun k => spec_l11In.l0 k x n m (i : Int)) r := by
    intro i hi r h
    refine Ev.succ ?_
    simp only [spec_l11In.l0, rd_Range_get x i hi]
    refine Ev.pos (by omega) (Ev.pos (by omega) ?_)
    have j2 : ∀ a b : Int, a = endOf m x[i].f0 → b = endOf m x[i].f1 → Ev (fun k => spec_l11In.j2 k x n m (i : Int) a b) r := by
      intro a b ha hb
      subst ha; subst hb
      refine Ev.succ ?_
      simp only [spec_l11In.j2, spec_l1Min.f, spec_l1Max.f, wsucc hi (show x.length ≤ 281474976710656 by omega)]
      refine Ev.congr (fun k => ?_) h
      by_cases c1 : endOf m x[i].f0 < endOf m x[i].f1 <;> by_cases c2 : endOf m x[i].f0 > endOf m x[i].f1 <;> simp [c1, c2]
    have j1 : ∀ a : Int, a = endOf m x[i].f0 → Ev (fun k => spec_l11In.j1 k x n m (i : Int) a x[i].f1) r := by
      intro a ha
      refine Ev.succ ?_
      simp only [spec_l11In.j1]
      by_cases hc : x[i].f1 = 0
      · exact Ev.pos hc (j2 _ _ ha (by simp [endOf, hc]))
      · exact Ev.neg hc (j2 _ _ ha (by simp [endOf, hc]))
    by_cases hc : x[i].f0 = 0
    · exact Ev.pos hc (j1 _ (by simp [endOf, hc]))
    · exact Ev.neg hc (j1 _ (by simp [endOf, hc]))
  have h := ev_find (fun k i => spec_l11In.l0 k x n m i) x (fun r => if inRange m n r = true then some true else none) false ?_ ?_ ?_
  · rw [find_any] at h; exact h
  · refine Ev.succ ?_
    simp only [spec_l11In.l0, Int.lt_irrefl, if_false]
    exact Ev.now _
  · intro i hi r hr
    by_cases hin : inRange m n x[i] = true
    case neg => rw [if_neg hin] at hr; cases hr
    rw [if_pos hin] at hr; cases hr
    refine body i hi _ ?_
    simp only [inRange, decide_eq_true_eq] at hin
    refine Ev.pos ?_ (Ev.pos ?_ (Ev.now _))
    · split <;> omega
    · split <;> omega
  · intro i hi hr r h
    by_cases hin : inRange m n x[i] = true
    · rw [if_pos hin] at hr; cases hr
    refine body i hi _ ?_
    simp only [inRange, decide_eq_true_eq] at hin
    by_cases h1 : n ≥ (if endOf m x[i].f0 < endOf m x[i].f1 then endOf m x[i].f0 else endOf m x[i].f1)
    · refine Ev.pos h1 (Ev.neg ?_ h)
      intro h2
      apply hin
      constructor
      · split at h1 <;> omega
      · split at h2 <;> omega
    · exact Ev.neg h1 h
theorem ev_implinSet (x : List S81) (n m : Int) (hx : x.length ≤ 1048576) : Ev (fun k => impl_inSet.f k x n m) (inSet x n m) := by
  unfold impl_inSet.f inSet
  have hend : ∀ a : Int, impl_inSet_1_v0.f a [m] = some (endOf m a) := by
    intro a
    unfold impl_inSet_1_v0.f endOf
    by_cases ha : a = 0 <;> simp [ha, rd]
  have h := ev_find (fun k i => impl_inSet.l0 k n x (x.length : Int) i m) x (fun r => if inRange m n r = true then some true else none) false ?_ ?_ ?_
  · rw [find_any] at h; exact h
  · refine Ev.succ ?_
    simp only [impl_inSet.l0, Int.lt_irrefl, if_false]
    exact Ev.now _
  · intro i hi r hr
    by_cases hin : inRange m n x[i] = true
    case neg => rw [if_neg hin] at hr; cases hr
    rw [if_pos hin] at hr; cases hr
    refine Ev.succ ?_
    simp only [impl_inSet.l0, rd_Range_get x i hi, hend, within_eq, Option.bind_some]
    refine Ev.pos (by omega) (Ev.pos (by omega) (Ev.pos (by omega) (Ev.pos (decide_eq_true ?_) (Ev.now _))))
    simp only [inRange, decide_eq_true_eq] at hin
    unfold mn mx
    constructor <;> split <;> omega
  · intro i hi hr r h
    by_cases hin : inRange m n x[i] = true
    · rw [if_pos hin] at hr; cases hr
    refine Ev.succ ?_
    simp only [impl_inSet.l0, rd_Range_get x i hi, hend, within_eq, Option.bind_some]
    refine Ev.pos (by omega) (Ev.pos (by omega) (Ev.pos (by omega) (Ev.neg ?_ ?_)))
    · simp only [inRange, decide_eq_true_eq] at hin ⊢
      intro h2
      apply hin
      unfold mn mx at h2
      constructor
      · have := h2.1; split at this <;> omega
      · have := h2.2; split at this <;> omega
    · simp only [wsucc hi (show x.length ≤ 281474976710656 by omega)]
      exact h
def expand (x : List S81) (m : Int) (i : Nat) : List Int := ((List.range i).map fun (j : Nat) => (j : Int) + 1).filter fun n => inSet x n m
theorem expand_succ (x : List S81) (m : Int) (i : Nat) : expand x m (i + 1) = if inSet x ((i : Int) + 1) m = true then expand x m i ++ [(i : Int) + 1] else expand x m i := by
  unfold expand
  rw [List.range_succ, List.map_append, List.filter_append]
  by_cases h : inSet x ((i : Int) + 1) m = true <;> simp [h]
theorem expand_length (x : List S81) (m : Int) (i : Nat) : (expand x m i).length ≤ i := by
  unfold expand
  have := List.length_filter_le (fun n => inSet x n m) ((List.range i).map fun (j : Nat) => (j : Int) + 1)
  simpa using this
def expandSetF (x : List S81) (m : Int) : Int × List Int := if rangesFault x = 0 then (if 0 ≤ m ∧ m ≤ 999 then (0, expand x m m.toNat) else (3, [])) else (rangesFault x, [])
theorem expandSetF_length (x : List S81) (m : Int) : (expandSetF x m).2.length ≤ 999 := by
  unfold expandSetF
  split
  · split
    · have := expand_length x m m.toNat; simp only; omega
    · simp
  · simp
theorem ev_expandLoop {ρ : Type} (l : Nat → List Int → Int → Option ρ) (fin : List Int → ρ) (x : List S81) (m : Int) (h0 : 0 ≤ m) (h1 : m ≤ 999)
    (stop : ∀ s, Ev (fun k => l k s (m + 1)) (fin s))
    (yes : ∀ (n : Int) s, 1 ≤ n → n ≤ m → s.length ≤ 999 → inSet x n m = true → ∀ r, Ev (fun k => l k (s ++ [n]) (n + 1)) r → Ev (fun k => l k s n) r)
    (no : ∀ (n : Int) s, 1 ≤ n → n ≤ m → inSet x n m = false → ∀ r, Ev (fun k => l k s (n + 1)) r → Ev (fun k => l k s n) r) : Ev (fun k => l k [] 1) (fin (expand x m m.toNat)) := by
  have h := ev_iter (fun k s i => l k s (i + 1)) m.toNat (fun i => expand x m i) (fin (expand x m m.toNat)) ?_ ?_
  · have e : expand x m 0 = [] := rfl
    rw [e] at h
    exact h
  · have e : ((m.toNat : Nat) : Int) = m := by omega
    simp only [e]
    exact stop _
  · intro i hi r hr
    rw [expand_succ] at hr
    by_cases hc : inSet x ((i : Int) + 1) m = true
    · rw [if_pos hc] at hr
      have := expand_length x m i
      exact yes _ _ (by omega) (by omega) (by omega) hc _ hr
    · rw [if_neg hc] at hr
      exact no _ _ (by omega) (by omega) (by simpa using hc) _ hr
theorem ev_specExpandSet (x : List S81) (m : Int) (hx : x.length ≤ 1048576) : Ev (fun k => spec_ExpandSet.f k x m) (expandSetF x m) := by
  unfold spec_ExpandSet.f expandSetF
  refine Ev.bind (ev_l11Fault x hx) ?_
  simp only [l1In_eq, Option.bind_some]
  by_cases h0 : rangesFault x = 0
  case neg => rw [if_neg h0]; exact Ev.neg h0 (Ev.now _)
  rw [if_pos h0]
  refine Ev.pos h0 ?_
  by_cases h1 : 0 ≤ m ∧ m ≤ 999
  case neg => rw [if_neg h1]; exact Ev.neg (by simpa using h1) (Ev.now _)
  rw [if_pos h1]
  refine Ev.pos (decide_eq_true h1) ?_
  refine Ev.bind (a := expand x m m.toNat) ?_ (Ev.now _)
  unfold spec_l11Expand.f
  refine ev_expandLoop (fun k s i => spec_l11Expand.l0 k x m s i) (fun s => s) x m h1.1 h1.2 ?_ ?_ ?_
  · intro s
    refine Ev.succ ?_
    simp only [spec_l11Expand.l0]
    exact Ev.neg (by omega) (Ev.now _)
  · intro n s hn1 hn2 hs hin r h
    refine Ev.succ ?_
    simp only [spec_l11Expand.l0]
    refine Ev.pos hn2 (Ev.bind (ev_l11In x n m hx) (Ev.pos hin (Ev.pos (by omega) ?_)))
    simp only [wid (x := n + 1) (by omega) (by omega)]
    exact h
  · intro n s hn1 hn2 hin r h
    refine Ev.succ ?_
    simp only [spec_l11Expand.l0]
    refine Ev.pos hn2 (Ev.bind (ev_l11In x n m hx) (Ev.neg (by simp [hin]) ?_))
    simp only [wid (x := n + 1) (by omega) (by omega)]
    exact h
theorem ev_implExpandSet (x : List S81) (m : Int) (hx : x.length ≤ 1048576) : Ev (fun k => impl_ExpandSet.f k x m) (expandSetF x m) := by
  unfold impl_ExpandSet.f expandSetF
  refine Ev.bind (ev_implRangesFault x hx) ?_
  simp only [within_eq, Option.bind_some]
  by_cases h0 : rangesFault x = 0
  case neg => rw [if_neg h0]; exact Ev.neg h0 (Ev.now _)
  rw [if_pos h0]
  refine Ev.pos h0 ?_
  by_cases h1 : 0 ≤ m ∧ m ≤ 999
  case neg => rw [if_neg h1]; exact Ev.neg (by simpa using h1) (Ev.now _)
  rw [if_pos h1]
  refine Ev.pos (decide_eq_true h1) ?_
  refine ev_expandLoop (fun k s i => impl_ExpandSet.l0 k x m s i) (fun s => (0, s)) x m h1.1 h1.2 ?_ ?_ ?_
  · intro s
    refine Ev.succ ?_
    simp only [impl_ExpandSet.l0]
    exact Ev.neg (by omega) (Ev.now _)
  · intro n s hn1 hn2 hs hin r h
    refine Ev.succ ?_
    simp only [impl_ExpandSet.l0]
    refine Ev.pos hn2 (Ev.bind (ev_implinSet x n m hx) (Ev.pos hin (Ev.pos (by omega) ?_)))
    simp only [wid (x := n + 1) (by omega) (by omega)]
    exact h
  · intro n s hn1 hn2 hin r h
    refine Ev.succ ?_
    simp only [impl_ExpandSet.l0]
    refine Ev.pos hn2 (Ev.bind (ev_implinSet x n m hx) (Ev.neg (by simp [hin]) ?_))
    simp only [wid (x := n + 1) (by omega) (by omega)]
    exact h
def inSetF (x : List S81) (n m : Int) : Bool := decide (rangesFault x = 0) && (decide (1 ≤ m ∧ m ≤ 999) && (decide (1 ≤ n ∧ n ≤ m) && inSet x n m))
theorem ev_specInSet (x : List S81) (n m : Int) (hx : x.length ≤ 1048576) : Ev (fun k => spec_InSet.f k x n m) (inSetF x n m) := by
  unfold spec_InSet.f inSetF
  refine Ev.bind (ev_l11Fault x hx) ?_
  simp only [l1In_eq, Option.bind_some]
  by_cases h0 : rangesFault x = 0
  case neg => refine Ev.neg h0 ?_; simp only [h0, decide_false, Bool.false_and]; exact Ev.now _
  refine Ev.pos h0 ?_
  by_cases h1 : 1 ≤ m ∧ m ≤ 999
  case neg => refine Ev.neg (by simpa using h1) ?_; simp only [h0, h1, decide_false, decide_true, Bool.false_and, Bool.true_and]; exact Ev.now _
  refine Ev.pos (decide_eq_true h1) ?_
  by_cases h2 : 1 ≤ n ∧ n ≤ m
  case neg => refine Ev.neg (by simpa using h2) ?_; simp only [h0, h1, h2, decide_false, decide_true, Bool.false_and, Bool.true_and]; exact Ev.now _
  refine Ev.pos (decide_eq_true h2) ?_
  simp only [h0, h1, h2, decide_true, Bool.true_and, and_self]
  exact Ev.bind (ev_l11In x n m hx) (Ev.now _)
theorem ev_implInSet (x : List S81) (n m : Int) (hx : x.length ≤ 1048576) : Ev (fun k => impl_InSet.f k x n m) (inSetF x n m) := by
  unfold impl_InSet.f inSetF
  refine Ev.bind (ev_implRangesFault x hx) ?_
  simp only [within_eq, Option.bind_some]
  by_cases h0 : rangesFault x = 0
  case neg => refine Ev.neg h0 ?_; simp only [h0, decide_false, Bool.false_and]; exact Ev.now _
  refine Ev.pos h0 ?_
  by_cases h1 : 1 ≤ m ∧ m ≤ 999
  case neg => refine Ev.neg (by simpa using h1) ?_; simp only [h0, h1, decide_false, decide_true, Bool.false_and, Bool.true_and]; exact Ev.now _
  refine Ev.pos (decide_eq_true h1) ?_
  by_cases h2 : 1 ≤ n ∧ n ≤ m
  case neg => refine Ev.neg (by simpa using h2) ?_; simp only [h0, h1, h2, decide_false, decide_true, Bool.false_and, Bool.true_and]; exact Ev.now _
  refine Ev.pos (decide_eq_true h2) ?_
  simp only [h0, h1, h2, decide_true, Bool.true_and, and_self]
  exact Ev.bind (ev_implinSet x n m hx) (Ev.now _)
theorem findSome_none {α β : Type} (l : List α) : (l.findSome? fun _ => (none : Option β)) = none := by simp
theorem ev_lwHas (x : List Int) (n : Int) (hx : x.length ≤ 1048576) : Ev (fun k => laws_lwHas.f k x n) (decide (n ∈ x)) := by
  unfold laws_lwHas.f
  have h := ev_find (fun k i => laws_lwHas.l0 k x n i) x (fun a => if decide (a = n) = true then some true else none) false ?_ ?_ ?_
  · rw [find_any] at h
    have e : x.any (fun a => decide (a = n)) = decide (n ∈ x) := by rw [Bool.eq_iff_iff]; simp
    rw [← e]; exact h
  · refine Ev.succ ?_
    simp only [laws_lwHas.l0, Int.lt_irrefl, if_false]
    exact Ev.now _
  · intro i hi r hr
    refine Ev.succ ?_
    simp only [laws_lwHas.l0, rd_get x i hi]
    by_cases hc : x[i] = n
    · rw [if_pos (by simpa using hc)] at hr; cases hr; exact Ev.pos (by omega) (Ev.pos (by omega) (Ev.pos hc (Ev.now _)))
    · rw [if_neg (by simpa using hc)] at hr; cases hr
  · intro i hi hr r h
    refine Ev.succ ?_
    simp only [laws_lwHas.l0, rd_get x i hi, wsucc hi (show x.length ≤ 281474976710656 by omega)]
    by_cases hc : x[i] = n
    · rw [if_pos (by simpa using hc)] at hr; cases hr
    · exact Ev.pos (by omega) (Ev.pos (by omega) (Ev.neg hc h))
theorem ev_lwNums (x : List Int) (hx : x.length ≤ 1048576) : Ev (fun k => laws_lwNums.f k x x) true := by
  unfold laws_lwNums.f
  refine Ev.pos rfl ?_
  have h := ev_find (fun k i => laws_lwNums.l0 k x x i) x (fun _ => none) true ?_ ?_ ?_
  · rw [findSome_none] at h; exact h
  · refine Ev.succ ?_
    simp only [laws_lwNums.l0, Int.lt_irrefl, if_false]
    exact Ev.now _
  · intro i hi r hr; cases hr
  · intro i hi hr r h
    refine Ev.succ ?_
    simp only [laws_lwNums.l0, wsucc hi (show x.length ≤ 281474976710656 by omega)]
    exact Ev.pos (by omega) (Ev.pos (by omega) (Ev.pos (by omega) (Ev.pos (by simp) h)))
theorem expand_mem (x : List S81) (m : Int) (i : Nat) (n : Int) : n ∈ expand x m i ↔ (1 ≤ n ∧ n ≤ i) ∧ inSet x n m = true := by
  unfold expand
  rw [List.mem_filter, List.mem_map]
  constructor
  · rintro ⟨⟨j, hj, rfl⟩, h⟩
    rw [List.mem_range] at hj
    exact ⟨⟨by omega, by omega⟩, h⟩
  · rintro ⟨⟨h1, h2⟩, h⟩
    exact ⟨⟨(n - 1).toNat, List.mem_range.2 (by omega), by omega⟩, h⟩
theorem expand_sorted (x : List S81) (m : Int) (i : Nat) : (expand x m i).Pairwise (· < ·) := by
  unfold expand
  refine List.Pairwise.filter _ (List.pairwise_map.2 ?_)
  exact List.Pairwise.imp (fun h => by omega) List.pairwise_lt_range
theorem expands_l1 (b : List Int) (x : List S81) (m c : Int) (e : List Int) (he : e.length ≤ 1048576) (hm : ∀ n ∈ e, 1 ≤ n ∧ n ≤ m) (hs : e.Pairwise (· < ·)) (fin : Bool)
    (stop : Ev (fun k => laws_FnExpands.l1 k b x m (e.length : Int) c e) fin) : Ev (fun k => laws_FnExpands.l1 k b x m 0 c e) fin := by
  have h := ev_findI (fun k i => laws_FnExpands.l1 k b x m i c e) e.length (fun _ => none) fin stop ?_ ?_
  · rw [findSome_none] at h; exact h
  · intro i hi r hr; cases hr
  · intro i hi hr r h
    have hi' := hm _ (List.getElem_mem hi)
    refine Ev.succ ?_
    simp only [laws_FnExpands.l1, rd_get e i hi, wsucc hi (show e.length ≤ 281474976710656 by omega)]
    refine Ev.pos (by omega) (Ev.pos (by omega) (Ev.neg (by omega) (Ev.neg (by omega) ?_)))
    by_cases h0 : 0 < i
    · have hlt : e[i - 1] < e[i] := List.pairwise_iff_getElem.1 hs _ _ _ _ (by omega)
      simp only [wpred h0 (show i ≤ 281474976710656 by omega), rd_get e (i - 1) (by omega)]
      exact Ev.pos (by omega) (Ev.pos (by omega) (Ev.pos (by omega) (Ev.neg (by omega) h)))
    · exact Ev.neg (by omega) h
theorem expands_l0 (b : List Int) (x : List S81) (m c : Int) (hx : x.length ≤ 1048576) (hf : rangesFault x = 0) (h0 : 0 ≤ m) (h1 : m ≤ 999) (r : Bool)
    (next : Ev (fun k => laws_FnExpands.l1 k b x m 0 c (expand x m m.toNat)) r) : Ev (fun k => laws_FnExpands.l0 k b x m 1 c (expand x m m.toNat)) r := by
  have hl := expand_length x m m.toNat
  have key : ∀ (d : Nat) (n : Int), 40 - n ≤ d → 1 ≤ n → Ev (fun k => laws_FnExpands.l0 k b x m n c (expand x m m.toNat)) r := by
    intro d
    induction d with
    | zero =>
      intro n hn _
      refine Ev.succ ?_
      simp only [laws_FnExpands.l0]
      by_cases hnm : n ≤ m
      · refine Ev.pos hnm (Ev.succ ?_)
        simp only [laws_FnExpands.j1]
        exact Ev.neg (by simp; omega) next
      · refine Ev.neg hnm (Ev.succ ?_)
        simp only [laws_FnExpands.j1]
        exact Ev.neg (by simp) next
    | succ d ih =>
      intro n hn hn1
      refine Ev.succ ?_
      simp only [laws_FnExpands.l0]
      by_cases hnm : n ≤ m
      case neg =>
        refine Ev.neg hnm (Ev.succ ?_)
        simp only [laws_FnExpands.j1]
        exact Ev.neg (by simp) next
      refine Ev.pos hnm (Ev.succ ?_)
      simp only [laws_FnExpands.j1]
      by_cases h40 : n < 40
      case neg => exact Ev.neg (by simpa using h40) next
      refine Ev.pos (decide_eq_true h40) (Ev.bind (ev_implInSet x n m hx) (Ev.bind (ev_lwHas _ n (by omega)) (Ev.neg ?_ ?_)))
      · have e : inSetF x n m = decide (n ∈ expand x m m.toNat) := by
          rw [Bool.eq_iff_iff]
          simp only [inSetF, hf, expand_mem, Bool.and_eq_true, decide_eq_true_eq, true_and, decide_true]
          constructor
          · rintro ⟨_, h, h'⟩; exact ⟨⟨h.1, by omega⟩, h'⟩
          · rintro ⟨h, h'⟩; exact ⟨⟨by omega, by omega⟩, ⟨h.1, by omega⟩, h'⟩
        rw [e]; simp
      · simp only [wid (x := n + 1) (by omega) (by omega)]
        exact ih (n + 1) (by omega) (by omega)
  exact key 40 1 (by omega) (by omega)
theorem FnExpands : ∀ (l0 : List Int), (l0.length * 1 ≤ 140737488351232 ∧ ∀ x1_ ∈ l0, (Lit.int .u8 x1_).wf = true) → ∃ k, laws_FnExpands.f k l0 = some true := by
  rintro b ⟨_, hb'⟩
  apply Ev.get
  unfold laws_FnExpands.f
  refine Ev.bindc (b := decide ((b.length : Int) > 1048576)) rfl ?_
  by_cases hbig : (b.length : Int) > 1048576
  · exact Ev.pos (decide_eq_true hbig) (Ev.now _)
  have hb : ∀ x ∈ b, 0 ≤ x ∧ x ≤ 255 := by
    intro x hx
    have := hb' x hx
    simp only [Lit.wf, Bool.and_eq_true, decide_eq_true_eq] at this
    exact this
  have hl : b.length ≤ 1048576 := by omega
  obtain ⟨x, m, hd, hx⟩ := ev_DrawExpandSet b hb hl
  obtain ⟨x', n', m', hd', hx'⟩ := ev_DrawInSet b hb hl
  refine Ev.neg (by simpa using hbig) (Ev.bind hd (Ev.bind (ev_implExpandSet x m (by omega)) ?_))
  by_cases hf : (expandSetF x m).1 = 0
  case neg =>
    refine Ev.neg hf (Ev.bind (ev_specExpandSet x m (by omega)) ?_)
    simp only [beq_self_eq_true]
    exact Ev.now _
  refine Ev.pos hf ?_
  have hfm : rangesFault x = 0 ∧ 0 ≤ m ∧ m ≤ 999 := by
    unfold expandSetF at hf
    split at hf
    · rename_i h
      split at hf
      · rename_i h'; exact ⟨h, h'⟩
      · simp at hf
    · rename_i h; exact absurd hf h
  have he : expandSetF x m = (0, expand x m m.toNat) := by unfold expandSetF; rw [if_pos hfm.1, if_pos hfm.2]
  have hle := expand_length x m m.toNat
  have hne : 0 < x.length := by
    have := hfm.1
    unfold rangesFault at this
    split at this
    · omega
    · omega
  have hse := ev_specExpandSet x m (by omega)
  rw [he] at hse ⊢
  refine expands_l0 b x m 0 (by omega) hfm.1 hfm.2.1 hfm.2.2 true ?_
  refine expands_l1 b x m 0 _ (by omega) (fun n hn => by have := ((expand_mem x m m.toNat n).1 hn).1; omega) (expand_sorted x m _) true ?_
  refine Ev.succ ?_
  simp only [laws_FnExpands.l1, Int.lt_irrefl, if_false]
  refine Ev.bind hd' (Ev.bind (ev_implInSet x' n' m' (by omega)) (Ev.bind (ev_specInSet x' n' m' (by omega)) (Ev.pos (by simp) (Ev.bind hse ?_))))
  refine Ev.bind (ev_lwNums _ (by omega)) (Ev.pos (by simp) (Ev.bind (ev_implRangesFault x (by omega)) (Ev.pos hfm.1 ?_)))
  have : (decide ((x.length : Int) > 0)) = true := decide_eq_true (by omega)
  rw [this]
  exact Ev.now _

end Go.Proofs.Ytcliocbkoijblaa.Pure

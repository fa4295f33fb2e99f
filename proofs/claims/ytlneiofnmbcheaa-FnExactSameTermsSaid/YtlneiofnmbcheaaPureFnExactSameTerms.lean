/- For every two lists of terms, the program says that they are the same just where the reference does. -/
import Derived.Test.YtlneiofnmbcheaaPFnExactSameTermsx6
import Derived.Test.YtlneiofnmbcheaaU
namespace Go.Proofs.Ytlneiofnmbcheaa.Pure
open Go.RowKit Go.Proofs.Ytlneiofnmbcheaa.PFnExactSameTerms Go.Proofs.YtlneiofnmbcheaaW.PrintWords Go.Proofs.YtlneiofnmbcheaaW.PrintLast Go.Proofs.Ytlneiofnmbcheaa.U
set_option linter.unusedSimpArgs false
set_option linter.unusedVariables false

theorem rd_Range_get (x : List S129) (i : Nat) (h : i < x.length) : rd_T129 x (i : Int) = x[i] := by simp [rd_T129, List.getD_eq_getElem?_getD, h]
def cvRange (x : S153) : S129 := ⟨x.f0, x.f1⟩
theorem rd_lRange_get (x : List S153) (i : Nat) (h : i < x.length) : rd_T153 x (i : Int) = x[i] := by simp [rd_T153, List.getD_eq_getElem?_getD, h]
def okITerm (x : S115) : Prop := x.f2.length ≤ 1048576 ∧ x.f3.length ≤ 1048576
theorem rd_Term_get (x : List S115) (i : Nat) (h : i < x.length) : rd_T115 x (i : Int) = x[i] := by simp [rd_T115, List.getD_eq_getElem?_getD, h]
def cvTerm (x : S111) : S115 := ⟨x.f0, x.f1, x.f2, x.f3.map cvRange, x.f4, x.f5⟩
def bigTerm (x : S111) : Prop := x.f2.length ≤ 140737488351232 ∧ x.f3.length * 16 ≤ 140737488351232
def okTerm (x : S111) : Prop := x.f2.length ≤ 1048576 ∧ x.f3.length ≤ 1048576
theorem okITerm_cv {x : List S111} (hin : ∀ y ∈ x, okTerm y) : ∀ y ∈ x.map cvTerm, okITerm y := by
  intro y hy
  obtain ⟨z, hz, rfl⟩ := List.mem_map.1 hy
  have := hin z hz
  exact ⟨this.1, by simpa [cvTerm] using this.2⟩
theorem rd_lTerm_get (x : List S111) (i : Nat) (h : i < x.length) : rd_T111 x (i : Int) = x[i] := by simp [rd_T111, List.getD_eq_getElem?_getD, h]
theorem szInt64S_eq (x : List Int) (m : Int) (hx : x.length ≤ 140737488351232) (h0 : 0 ≤ m) (h1 : m ≤ 1048576) : laws_szInt64S.f x m = some (if m - x.length < 0 then -1 else m - x.length) := by
  unfold laws_szInt64S.f
  rw [wid (by omega) (by omega)]
  split <;> rfl
theorem szRangeS_eq (x : List S153) (m : Int) (hx : x.length * 16 ≤ 140737488351232) (h0 : 0 ≤ m) (h1 : m ≤ 1048576) : laws_szRangeS.f x m = some (if m - x.length < 0 then -1 else m - x.length) := by
  unfold laws_szRangeS.f
  rw [wid (by omega) (by omega)]
  split <;> rfl
theorem ev_toInt64S (x : List Int) (hx : x.length ≤ 1048576) : Ev (fun k => laws_toInt64S.f k x) x := by
  unfold laws_toInt64S.f
  have h := ev_copy (fun k y i => laws_toInt64S.l0 k x y i) x (fun a => a) (fun y => y) ?_ ?_ (List.replicate x.length 0) (by simp)
  · simp only [List.map_id'] at h
    refine Ev.pos (by omega) (Ev.pos (by omega) ?_)
    simp only [Int.toNat_natCast]
    exact h
  · refine Ev.succ ?_
    simp only [laws_toInt64S.l0, Int.lt_irrefl, if_false]
    exact Ev.now _
  · intro i hi y hy r h
    refine Ev.succ ?_
    simp only [laws_toInt64S.l0]
    refine Ev.pos (by omega) (Ev.pos (by omega) (Ev.pos (by omega) ?_))
    simp only [Int.toNat_natCast, rd_get x i hi, wsucc hi (show x.length ≤ 281474976710656 by omega)]
    exact h
theorem ev_toRangeS (x : List S153) (hx : x.length ≤ 1048576) : Ev (fun k => laws_toRangeS.f k x) (x.map cvRange) := by
  unfold laws_toRangeS.f
  have h := ev_copy (fun k y i => laws_toRangeS.l0 k x y i) x cvRange (fun y => y) ?_ ?_ (List.replicate x.length z129) (by simp)
  · refine Ev.pos (by omega) (Ev.pos (by omega) ?_)
    simp only [Int.toNat_natCast]
    exact h
  · refine Ev.succ ?_
    simp only [laws_toRangeS.l0, Int.lt_irrefl, if_false]
    exact Ev.now _
  · intro i hi y hy r h
    refine Ev.succ ?_
    simp only [laws_toRangeS.l0, laws_toRange.f, Option.bind_some]
    refine Ev.pos (by omega) (Ev.pos (by omega) (Ev.pos (by omega) ?_))
    simp only [Int.toNat_natCast, rd_lRange_get x i hi, wsucc hi (show x.length ≤ 281474976710656 by omega)]
    exact h
theorem ev_eqInt64S (x : List Int) (hx : x.length ≤ 1048576) : Ev (fun k => laws_eqInt64S.f k x x) true := by
  unfold laws_eqInt64S.f
  refine Ev.pos rfl ?_
  refine ev_iter (fun k (_ : Unit) i => laws_eqInt64S.l0 k x x i) x.length (fun _ => ()) true ?_ ?_
  · refine Ev.succ ?_
    simp only [laws_eqInt64S.l0, Int.lt_irrefl, if_false]
    exact Ev.now _
  · intro i hi r h
    refine Ev.succ ?_
    simp only [laws_eqInt64S.l0]
    refine Ev.pos (by omega) (Ev.pos (by omega) (Ev.pos (by omega) (Ev.pos trivial ?_)))
    simp only [wsucc hi (show x.length ≤ 281474976710656 by omega)]
    exact h
theorem ev_eqRangeS (x : List S129) (hx : x.length ≤ 1048576) : Ev (fun k => laws_eqRangeS.f k x x) true := by
  unfold laws_eqRangeS.f
  refine Ev.pos rfl ?_
  refine ev_iter (fun k (_ : Unit) i => laws_eqRangeS.l0 k x x i) x.length (fun _ => ()) true ?_ ?_
  · refine Ev.succ ?_
    simp only [laws_eqRangeS.l0, Int.lt_irrefl, if_false]
    exact Ev.now _
  · intro i hi r h
    refine Ev.succ ?_
    simp only [laws_eqRangeS.l0, laws_eqRange.f]
    refine Ev.pos (by omega) (Ev.pos (by omega) (Ev.pos (by omega) ?_))
    simp only [if_true, Option.bind_some, wsucc hi (show x.length ≤ 281474976710656 by omega)]
    exact h
theorem ev_szTerm (y : S111) (hy : bigTerm y) (m : Int) (h0 : 0 ≤ m) (h1 : m ≤ 1048576) : ∃ r, Ev (fun _ => laws_szTerm.f y.f0 y.f1 y.f2 y.f3 y.f4 y.f5 m) r ∧ (r < 0 ∨ (0 ≤ r ∧ r ≤ m ∧ okTerm y)) := by
  obtain ⟨b2, b3⟩ := hy
  unfold laws_szTerm.f okTerm
  rw [szInt64S_eq y.f2 m b2 (by omega) (by omega)]
  simp only [Option.bind_some]
  by_cases c2 : m - (y.f2.length : Int) < 0
  · rw [if_pos c2]
    exact ⟨-1, Ev.pos (by omega) (Ev.now _), .inl (by omega)⟩
  rw [if_neg c2, szRangeS_eq y.f3 (m - y.f2.length) b3 (by omega) (by omega)]
  simp only [Option.bind_some]
  by_cases c3 : m - (y.f2.length : Int) - (y.f3.length : Int) < 0
  · rw [if_pos c3]
    exact ⟨-1, Ev.neg (by omega) (Ev.pos (by omega) (Ev.now _)), .inl (by omega)⟩
  · rw [if_neg c3]
    exact ⟨_, Ev.neg (by omega) (Ev.neg (by omega) (Ev.now _)), .inr ⟨by omega, by omega, by omega, by omega⟩⟩
theorem ev_toTerm (y : S111) (hy : okTerm y) : Ev (fun k => laws_toTerm.f k y.f0 y.f1 y.f2 y.f3 y.f4 y.f5) (y.f0, y.f1, y.f2, y.f3.map cvRange, y.f4, y.f5) := by
  unfold laws_toTerm.f
  exact Ev.bind (ev_toInt64S _ hy.1) (Ev.bind (ev_toRangeS _ hy.2) (Ev.now _))
theorem ev_eqTerm (y : S115) (hy : okITerm y) : Ev (fun k => laws_eqTerm.f k y.f0 y.f1 y.f2 y.f3 y.f4 y.f5 y.f0 y.f1 y.f2 y.f3 y.f4 y.f5) true := by
  unfold laws_eqTerm.f
  refine Ev.pos rfl (Ev.pos rfl (Ev.bind (ev_eqInt64S _ hy.1) (Ev.pos rfl (Ev.bind (ev_eqRangeS _ hy.2) (Ev.pos rfl (Ev.pos rfl (Ev.pos rfl (Ev.now _))))))))
theorem ev_szTermS (x : List S111) (hx : x.length ≤ 140737488351232) (hin : ∀ y ∈ x, bigTerm y) (m : Int) (h0 : 0 ≤ m) (h1 : m ≤ 1048576) :
    ∃ r, Ev (fun k => laws_szTermS.f k x m) r ∧ (r < 0 ∨ (0 ≤ r ∧ r ≤ m ∧ x.length ≤ 1048576 ∧ ∀ y ∈ x, okTerm y)) := by
  unfold laws_szTermS.f
  simp only [wid (x := m - x.length) (by omega) (by omega)]
  by_cases hn : m - (x.length : Int) < 0
  · exact ⟨-1, Ev.pos hn (Ev.now _), .inl (by omega)⟩
  suffices H : ∃ r, Ev (fun k => laws_szTermS.l0 k x (m - x.length) 0) r ∧ (r < 0 ∨ (0 ≤ r ∧ r ≤ m - x.length ∧ ∀ a ∈ x, okTerm a)) by
    obtain ⟨r, hr, hr'⟩ := H
    refine ⟨r, Ev.neg hn hr, ?_⟩
    rcases hr' with h | ⟨a, b, c⟩
    · exact .inl h
    · exact .inr ⟨a, by omega, by omega, c⟩
  refine ev_szL (fun k m i => laws_szTermS.l0 k x m i) x okTerm ?_ ?_ (m - x.length) (by omega) (by omega)
  · intro m hm
    refine Ev.succ ?_
    simp only [laws_szTermS.l0, Int.lt_irrefl, if_false]
    exact Ev.now _
  · intro i hi m hm0 hm1
    obtain ⟨r, hr, hr'⟩ := ev_szTerm x[i] (hin x[i] (List.getElem_mem hi)) m hm0 hm1
    refine ⟨r, hr', ?_, ?_⟩
    · intro hneg
      refine Ev.succ ?_
      simp only [laws_szTermS.l0, rd_lTerm_get x i hi]
      exact Ev.pos (by omega) (Ev.pos (by omega) (Ev.bind hr (Ev.pos hneg (Ev.now _))))
    · intro hpos q hq
      refine Ev.succ ?_
      simp only [laws_szTermS.l0, rd_lTerm_get x i hi, wsucc hi (show x.length ≤ 281474976710656 by omega)]
      exact Ev.pos (by omega) (Ev.pos (by omega) (Ev.bind hr (Ev.neg (by omega) hq)))
theorem ev_toTermS (x : List S111) (hx : x.length ≤ 1048576) (hin : ∀ y ∈ x, okTerm y) : Ev (fun k => laws_toTermS.f k x) (x.map cvTerm) := by
  unfold laws_toTermS.f
  have h := ev_copy (fun k y i => laws_toTermS.l0 k x y i) x cvTerm (fun y => y) ?_ ?_ (List.replicate x.length z115) (by simp)
  · refine Ev.pos (by omega) (Ev.pos (by omega) ?_)
    simp only [Int.toNat_natCast]
    exact h
  · refine Ev.succ ?_
    simp only [laws_toTermS.l0, Int.lt_irrefl, if_false]
    exact Ev.now _
  · intro i hi y hy r h
    refine Ev.succ ?_
    simp only [laws_toTermS.l0, rd_lTerm_get x i hi]
    refine Ev.pos (by omega) (Ev.pos (by omega) (Ev.bind (ev_toTerm _ (hin _ (List.getElem_mem hi))) (Ev.pos (by omega) ?_)))
    simp only [Int.toNat_natCast, wsucc hi (show x.length ≤ 281474976710656 by omega)]
    exact h
theorem ev_eqTermS (x : List S115) (hx : x.length ≤ 1048576) (hin : ∀ y ∈ x, okITerm y) : Ev (fun k => laws_eqTermS.f k x x) true := by
  unfold laws_eqTermS.f
  refine Ev.pos rfl ?_
  refine ev_iter (fun k (_ : Unit) i => laws_eqTermS.l0 k x x i) x.length (fun _ => ()) true ?_ ?_
  · refine Ev.succ ?_
    simp only [laws_eqTermS.l0, Int.lt_irrefl, if_false]
    exact Ev.now _
  · intro i hi r h
    refine Ev.succ ?_
    simp only [laws_eqTermS.l0, rd_Term_get x i hi]
    refine Ev.pos (by omega) (Ev.pos (by omega) (Ev.pos (by omega) (Ev.bind (ev_eqTerm _ (hin _ (List.getElem_mem hi))) (Ev.pos rfl ?_))))
    simp only [wsucc hi (show x.length ≤ 281474976710656 by omega)]
    exact h
def sameL {α : Type} (p : α → α → Bool) (x y : List α) : Bool := decide (x.length = y.length) && (x.zip y).all (fun q => p q.1 q.2)
theorem ev_sameL {α : Type} (l : Nat → Int → Option Bool) (x y : List α) (p : α → α → Bool) (hxy : x.length = y.length) (stop : Ev (fun k => l k (x.length : Int)) true)
    (no : ∀ (i : Nat) (hi : i < x.length) (hj : i < y.length), p x[i] y[i] = false → Ev (fun k => l k (i : Int)) false)
    (on : ∀ (i : Nat) (hi : i < x.length) (hj : i < y.length), p x[i] y[i] = true → ∀ r, Ev (fun k => l k ((i + 1 : Nat) : Int)) r → Ev (fun k => l k (i : Int)) r) : Ev (fun k => l k 0) (sameL p x y) := by
  have hlen : (x.zip y).length = x.length := by rw [List.length_zip]; omega
  have h := ev_find l (x.zip y) (fun q => if p q.1 q.2 = true then none else some false) true (by rw [hlen]; exact stop) ?_ ?_
  · rw [find_guard] at h
    unfold sameL
    rw [decide_eq_true hxy, Bool.true_and]
    cases ha : (x.zip y).all (fun q => p q.1 q.2) <;> simp only [ha] at h <;> exact h
  · intro i hi r hr
    rw [hlen] at hi
    simp only [List.getElem_zip] at hr
    cases hp : p x[i] (y[i]'(by omega))
    · simp only [hp] at hr; cases hr; exact no i hi (by omega) hp
    · simp only [hp] at hr; cases hr
  · intro i hi hr r h
    rw [hlen] at hi
    simp only [List.getElem_zip] at hr
    cases hp : p x[i] (y[i]'(by omega))
    · simp only [hp] at hr; cases hr
    · exact on i hi (by omega) hp r h
theorem sameL_ne {α : Type} (p : α → α → Bool) (x y : List α) (h : x.length ≠ y.length) : sameL p x y = false := by unfold sameL; rw [decide_eq_false h]; rfl
theorem sameL_eq (x y : List Int) : sameL (fun a b => decide (a = b)) x y = decide (x = y) := by
  induction x generalizing y with
  | nil => cases y <;> simp [sameL]
  | cons a x ih =>
    cases y with
    | nil => simp [sameL]
    | cons b y =>
      have := ih y
      simp only [sameL] at this
      rw [Bool.eq_iff_iff] at this ⊢
      simp only [sameL, List.length_cons, List.zip_cons_cons, List.all_cons, Bool.and_eq_true, decide_eq_true_eq, List.cons.injEq, Nat.add_right_cancel_iff] at this ⊢
      constructor
      · rintro ⟨h1, h2, h3⟩; exact ⟨h2, this.1 ⟨h1, h3⟩⟩
      · rintro ⟨h1, h2⟩; exact ⟨(this.2 h2).1, h1, (this.2 h2).2⟩
def Bytes (x : List Int) : Prop := ∀ b ∈ x, 0 ≤ b ∧ b ≤ 255
theorem ev_slicesEqual_int64 (x y : List Int) (hx : x.length ≤ 1048576) : Ev (fun k => slices_Equal_int64_int64.f k x y) (decide (x = y)) := by
  unfold slices_Equal_int64_int64.f
  by_cases hl : x.length = y.length
  case neg =>
    have : decide (x = y) = false := decide_eq_false (fun h => hl (by rw [h]))
    rw [this]
    exact Ev.neg (by omega) (Ev.now _)
  refine Ev.pos (by omega) ?_
  rw [← sameL_eq]
  refine ev_sameL (fun k i => slices_Equal_int64_int64.l0 k x y (x.length : Int) i) x y _ hl ?_ ?_ ?_
  · refine Ev.succ ?_
    simp only [slices_Equal_int64_int64.l0, Int.lt_irrefl, if_false]
    exact Ev.now _
  · intro i hi hj hp
    refine Ev.succ ?_
    simp only [slices_Equal_int64_int64.l0, rd_get x i hi, rd_get y i hj]
    exact Ev.pos (by omega) (Ev.pos (by omega) (Ev.pos (by omega) (Ev.pos (by omega) (Ev.neg (of_decide_eq_false hp) (Ev.now _)))))
  · intro i hi hj hp r h
    refine Ev.succ ?_
    simp only [slices_Equal_int64_int64.l0, rd_get x i hi, rd_get y i hj, wsucc hi (show x.length ≤ 281474976710656 by omega)]
    exact Ev.pos (by omega) (Ev.pos (by omega) (Ev.pos (by omega) (Ev.pos (by omega) (Ev.pos (of_decide_eq_true hp) h))))
def sameRange (a b : S129) : Bool := decide (a.f0 = b.f0) && decide (a.f1 = b.f1)
def sameTerm (a b : S115) : Bool := decide (a.f0 = b.f0) && (decide (a.f1 = b.f1) && (decide (a.f2 = b.f2) && (sameL sameRange a.f3 b.f3 && (decide (a.f4 = b.f4) && decide (a.f5 = b.f5)))))
theorem diffRange (a b : S129) : ((!(a.f0 == b.f0)) || (!(a.f1 == b.f1))) = !sameRange a b := by
  unfold sameRange
  by_cases h0 : a.f0 = b.f0 <;> by_cases h1 : a.f1 = b.f1 <;> simp [h0, h1]
theorem ev_implRangeS (x y : List S129) (hl : x.length ≤ 1048576) : Ev (fun k => impl_Range.f k x y) (sameL sameRange x y) := by
  unfold impl_Range.f
  by_cases hxy : x.length = y.length
  case neg => rw [sameL_ne _ _ _ hxy]; exact Ev.neg (by omega) (Ev.now _)
  refine Ev.pos (by omega) ?_
  refine ev_sameL (fun k i => impl_Range.l0 k x y (x.length : Int) i) x y sameRange hxy ?_ ?_ ?_
  · refine Ev.succ ?_
    simp only [impl_Range.l0, Int.lt_irrefl, if_false]
    exact Ev.now _
  · intro i hi hj hq
    refine Ev.succ ?_
    simp only [impl_Range.l0, rd_Range_get x i hi, rd_Range_get y i hj, diffRange]
    exact Ev.pos (by omega) (Ev.pos (by omega) (Ev.pos (by omega) (Ev.pos (by omega) (Ev.pos (by simp [hq]) (Ev.now _)))))
  · intro i hi hj hq r h
    refine Ev.succ ?_
    simp only [impl_Range.l0, rd_Range_get x i hi, rd_Range_get y i hj, diffRange, wsucc hi (show x.length ≤ 281474976710656 by omega)]
    exact Ev.pos (by omega) (Ev.pos (by omega) (Ev.pos (by omega) (Ev.pos (by omega) (Ev.neg (by simp [hq]) h))))
theorem ev_implsameTerm (a b : S115) (ha : okITerm a) : Ev (fun k => impl_sameTerm.f k a.f0 a.f1 a.f2 a.f3 a.f4 a.f5 b.f0 b.f1 b.f2 b.f3 b.f4 b.f5) (sameTerm a b) := by
  unfold impl_sameTerm.f sameTerm
  by_cases h0 : a.f0 = b.f0
  case neg => rw [decide_eq_false h0]; exact Ev.neg h0 (Ev.now _)
  by_cases h1 : a.f1 = b.f1
  case neg => rw [decide_eq_true h0, decide_eq_false h1]; exact Ev.pos h0 (Ev.neg h1 (Ev.now _))
  rw [decide_eq_true h0, decide_eq_true h1]
  simp only [Bool.true_and]
  refine Ev.pos h0 (Ev.pos h1 (Ev.bind (ev_slicesEqual_int64 a.f2 b.f2 ha.1) ?_))
  by_cases h2 : a.f2 = b.f2
  case neg => rw [decide_eq_false h2]; exact Ev.neg (by simp) (Ev.now _)
  rw [decide_eq_true h2]
  refine Ev.pos rfl (Ev.bind (ev_implRangeS a.f3 b.f3 ha.2) ?_)
  by_cases h3 : sameL sameRange a.f3 b.f3 = true
  case neg => rw [Bool.not_eq_true] at h3; rw [h3]; exact Ev.neg (by simp) (Ev.now _)
  rw [h3]
  refine Ev.pos rfl ?_
  by_cases h4 : a.f4 = b.f4
  case neg => rw [decide_eq_false h4]; exact Ev.neg h4 (Ev.now _)
  rw [decide_eq_true h4]
  refine Ev.pos h4 ?_
  rw [show (true && (true && decide (a.f5 = b.f5))) = (a.f5 == b.f5) by rw [Bool.true_and, Bool.true_and]; rfl]
  exact Ev.now _
theorem ev_l12Same (a b : S115) (l l' : List S115) (ha : okITerm a) : Ev (fun k => spec_l12Same.f k (a :: l) (b :: l')) (sameTerm a b) := by
  have e : rd_T115 (a :: l) 0 = a := rfl
  have e' : rd_T115 (b :: l') 0 = b := rfl
  have hp : (0 : Int) < ((a :: l).length : Int) := by simp only [List.length_cons]; omega
  have hp' : (0 : Int) < ((b :: l').length : Int) := by simp only [List.length_cons]; omega
  have hb2 := ha.1
  have hb3 := ha.2
  have no : Ev (fun k => spec_l12Same.j0 k (a :: l) (b :: l') true) false := by
    refine Ev.succ ?_
    simp only [spec_l12Same.j0, if_true]
    exact Ev.now _
  unfold spec_l12Same.f
  simp only [e, e']
  refine Ev.pos hp (Ev.pos hp' ?_)
  by_cases h0 : a.f0 = b.f0
  case neg => rw [show sameTerm a b = false by simp [sameTerm, h0]]; exact Ev.neg h0 no
  by_cases h1 : a.f1 = b.f1
  case neg => rw [show sameTerm a b = false by simp [sameTerm, h1]]; exact Ev.pos h0 (Ev.neg h1 no)
  by_cases h4 : a.f4 = b.f4
  case neg => rw [show sameTerm a b = false by simp [sameTerm, h4]]; exact Ev.pos h0 (Ev.pos h1 (Ev.neg h4 no))
  by_cases h5 : a.f5 = b.f5
  case neg => rw [show sameTerm a b = false by simp [sameTerm, h5]]; exact Ev.pos h0 (Ev.pos h1 (Ev.pos h4 (Ev.neg h5 no)))
  refine Ev.pos h0 (Ev.pos h1 (Ev.pos h4 (Ev.pos h5 ?_)))
  by_cases hl : a.f2.length = b.f2.length
  case neg => rw [show sameTerm a b = false by simp [sameTerm, show ¬ a.f2 = b.f2 from fun h => hl (by rw [h])]]; exact Ev.neg (by omega) no
  refine Ev.pos (by omega) ?_
  by_cases hl3 : a.f3.length = b.f3.length
  case neg =>
    rw [show sameTerm a b = false by simp [sameTerm, sameL_ne _ _ _ hl3], show ((a.f3.length : Int) != (b.f3.length : Int)) = true by simp; omega]
    exact no
  rw [show ((a.f3.length : Int) != (b.f3.length : Int)) = false by simp; omega]
  refine Ev.succ ?_
  simp only [spec_l12Same.j0]
  refine Ev.neg (by simp) ?_
  have es : sameTerm a b = (decide (a.f2 = b.f2) && sameL sameRange a.f3 b.f3) := by simp [sameTerm, h0, h1, h4, h5]
  rw [es]
  have l1 : Ev (fun k => spec_l12Same.l1 k (a :: l) (b :: l') 0) (sameL sameRange a.f3 b.f3) := by
    refine ev_sameL (fun k i => spec_l12Same.l1 k (a :: l) (b :: l') i) a.f3 b.f3 _ hl3 ?_ ?_ ?_
    · refine Ev.succ ?_
      simp only [spec_l12Same.l1, e, Int.lt_irrefl, if_false]
      exact Ev.pos hp (Ev.now _)
    · intro i hi hj hq
      refine Ev.succ ?_
      simp only [spec_l12Same.l1, e, e', rd_Range_get a.f3 i hi, rd_Range_get b.f3 i hj, diffRange]
      exact Ev.pos hp (Ev.pos (by omega) (Ev.pos (by omega) (Ev.pos hp' (Ev.pos (by omega) (Ev.pos (by simp [hq]) (Ev.now _))))))
    · intro i hi hj hq r h
      refine Ev.succ ?_
      simp only [spec_l12Same.l1, e, e', rd_Range_get a.f3 i hi, rd_Range_get b.f3 i hj, diffRange, wsucc hi (show a.f3.length ≤ 281474976710656 by omega)]
      exact Ev.pos hp (Ev.pos (by omega) (Ev.pos (by omega) (Ev.pos hp' (Ev.pos (by omega) (Ev.neg (by simp [hq]) h)))))
  have step : ∀ (i : Nat) (hi : i < a.f2.length) (hj : i < b.f2.length) (r : Bool), a.f2[i] = b.f2[i] → Ev (fun k => spec_l12Same.l0 k (a :: l) (b :: l') ((i + 1 : Nat) : Int)) r → Ev (fun k => spec_l12Same.l0 k (a :: l) (b :: l') (i : Int)) r := by
    intro i hi hj r hq h
    refine Ev.succ ?_
    simp only [spec_l12Same.l0, e, e', rd_get a.f2 i hi, rd_get b.f2 i hj, wsucc hi (show a.f2.length ≤ 281474976710656 by omega)]
    exact Ev.pos hp (Ev.pos (by omega) (Ev.pos (by omega) (Ev.pos hp' (Ev.pos (by omega) (Ev.pos hq h)))))
  have out : ∀ (i : Nat) (hi : i < a.f2.length) (hj : i < b.f2.length), ¬ a.f2[i] = b.f2[i] → Ev (fun k => spec_l12Same.l0 k (a :: l) (b :: l') (i : Int)) false := by
    intro i hi hj hq
    refine Ev.succ ?_
    simp only [spec_l12Same.l0, e, e', rd_get a.f2 i hi, rd_get b.f2 i hj]
    exact Ev.pos hp (Ev.pos (by omega) (Ev.pos (by omega) (Ev.pos hp' (Ev.pos (by omega) (Ev.neg hq (Ev.now _))))))
  have h := ev_findI (fun k i => spec_l12Same.l0 k (a :: l) (b :: l') i) a.f2.length (fun i => if a.f2.getD i 0 = b.f2.getD i 0 then none else some false) (sameL sameRange a.f3 b.f3) ?_ ?_ ?_
  · have key : ((List.range a.f2.length).findSome? fun i => if a.f2.getD i 0 = b.f2.getD i 0 then none else some false).getD (sameL sameRange a.f3 b.f3) = (decide (a.f2 = b.f2) && sameL sameRange a.f3 b.f3) := by
      by_cases hq : a.f2 = b.f2
      · rw [decide_eq_true hq, hq, Bool.true_and]
        have : ((List.range b.f2.length).findSome? fun i => if b.f2.getD i 0 = b.f2.getD i 0 then (none : Option Bool) else some false) = none := by simp
        rw [this]; rfl
      · rw [decide_eq_false hq, Bool.false_and]
        have : ((List.range a.f2.length).findSome? fun i => if a.f2.getD i 0 = b.f2.getD i 0 then (none : Option Bool) else some false) ≠ none := by
          intro hn
          apply hq
          rw [List.findSome?_eq_none_iff] at hn
          apply List.ext_getElem hl
          intro i hi hj
          have := hn i (List.mem_range.2 hi)
          simp only [List.getD_eq_getElem?_getD, List.getElem?_eq_getElem hi, List.getElem?_eq_getElem hj, Option.getD_some] at this
          by_cases hh : a.f2[i] = b.f2[i]
          · exact hh
          · rw [if_neg hh] at this; cases this
        cases hf : ((List.range a.f2.length).findSome? fun i => if a.f2.getD i 0 = b.f2.getD i 0 then (none : Option Bool) else some false) with
        | none => exact absurd hf this
        | some v =>
          obtain ⟨i, _, h'⟩ := List.exists_of_findSome?_eq_some hf
          (try simp only at h')
          split at h'
          · cases h'
          · cases h'; rfl
    rw [key] at h; exact h
  · refine Ev.succ ?_
    simp only [spec_l12Same.l0, e, Int.lt_irrefl, if_false]
    exact Ev.pos hp l1
  · intro i hi r hr
    have hj : i < b.f2.length := by omega
    simp only [List.getD_eq_getElem?_getD, List.getElem?_eq_getElem hi, List.getElem?_eq_getElem hj, Option.getD_some] at hr
    by_cases hh : a.f2[i] = b.f2[i]
    · rw [if_pos hh] at hr; cases hr
    · rw [if_neg hh] at hr; cases hr; exact out i hi hj hh
  · intro i hi hr r h
    have hj : i < b.f2.length := by omega
    simp only [List.getD_eq_getElem?_getD, List.getElem?_eq_getElem hi, List.getElem?_eq_getElem hj, Option.getD_some] at hr
    by_cases hh : a.f2[i] = b.f2[i]
    · exact step i hi hj r hh h
    · rw [if_neg hh] at hr; cases hr
theorem ev_specSameTerms (x y : List S115) (hx : ∀ a ∈ x, okITerm a) (hl : x.length ≤ 1048576) : Ev (fun k => spec_SameTerms.f k x y) (sameL sameTerm x y) := by
  unfold spec_SameTerms.f
  by_cases hxy : x.length = y.length
  case neg => rw [sameL_ne _ _ _ hxy]; exact Ev.neg (by omega) (Ev.now _)
  refine Ev.pos (by omega) ?_
  have one : ∀ (i : Nat) (hi : i < x.length) (hj : i < y.length), Ev (fun k => spec_l12Same.f k (x.drop i) (y.drop i)) (sameTerm x[i] y[i]) := by
    intro i hi hj
    rw [List.drop_eq_getElem_cons hi, List.drop_eq_getElem_cons hj]
    exact ev_l12Same _ _ _ _ (hx _ (List.getElem_mem hi))
  refine ev_sameL (fun k i => spec_SameTerms.l0 k x y i) x y sameTerm hxy ?_ ?_ ?_
  · refine Ev.succ ?_
    simp only [spec_SameTerms.l0, Int.lt_irrefl, if_false]
    exact Ev.now _
  · intro i hi hj hq
    refine Ev.succ ?_
    simp only [spec_SameTerms.l0, Int.toNat_natCast]
    refine Ev.pos (by omega) (Ev.pos (by omega) (Ev.pos (by omega) (Ev.bind (one i hi hj) (Ev.neg (by simp [hq]) (Ev.now _)))))
  · intro i hi hj hq r h
    refine Ev.succ ?_
    simp only [spec_SameTerms.l0, Int.toNat_natCast, wsucc hi (show x.length ≤ 281474976710656 by omega)]
    exact Ev.pos (by omega) (Ev.pos (by omega) (Ev.pos (by omega) (Ev.bind (one i hi hj) (Ev.pos hq h))))
theorem ev_implSameTerms (x y : List S115) (hx : ∀ a ∈ x, okITerm a) (hl : x.length ≤ 1048576) : Ev (fun k => impl_SameTerms.f k x y) (sameL sameTerm x y) := by
  unfold impl_SameTerms.f
  refine Ev.bind ?_ (Ev.now _)
  unfold impl_Term_v0.f
  by_cases hxy : x.length = y.length
  case neg => rw [sameL_ne _ _ _ hxy]; exact Ev.neg (by omega) (Ev.now _)
  refine Ev.pos (by omega) ?_
  refine ev_sameL (fun k i => impl_Term_v0.l0 k y x (x.length : Int) i) x y sameTerm hxy ?_ ?_ ?_
  · refine Ev.succ ?_
    simp only [impl_Term_v0.l0, Int.lt_irrefl, if_false]
    exact Ev.now _
  · intro i hi hj hq
    refine Ev.succ ?_
    simp only [impl_Term_v0.l0, rd_Term_get x i hi, rd_Term_get y i hj]
    exact Ev.pos (by omega) (Ev.pos (by omega) (Ev.pos (by omega) (Ev.pos (by omega) (Ev.bind (ev_implsameTerm _ _ (hx _ (List.getElem_mem hi))) (Ev.neg (by simp [hq]) (Ev.now _))))))
  · intro i hi hj hq r h
    refine Ev.succ ?_
    simp only [impl_Term_v0.l0, rd_Term_get x i hi, rd_Term_get y i hj, wsucc hi (show x.length ≤ 281474976710656 by omega)]
    exact Ev.pos (by omega) (Ev.pos (by omega) (Ev.pos (by omega) (Ev.pos (by omega) (Ev.bind (ev_implsameTerm _ _ (hx _ (List.getElem_mem hi))) (Ev.pos hq h)))))
theorem FnExactSameTerms : ∀ (l0 : List (S111)) (l1 : List (S111)), (l0.length * 80 ≤ 140737488351232 ∧ ∀ x1_ ∈ l0, ((Lit.int .i64 x1_.f0).wf = true ∧ (Lit.int .i64 x1_.f1).wf = true ∧ (x1_.f2.length * 8 ≤ 140737488351232 ∧ ∀ x2_ ∈ x1_.f2, (Lit.int .i64 x2_).wf = true) ∧ (x1_.f3.length * 16 ≤ 140737488351232 ∧ ∀ x2_ ∈ x1_.f3, ((Lit.int .i64 x2_.f0).wf = true ∧ (Lit.int .i64 x2_.f1).wf = true)) ∧ (Lit.int .i64 x1_.f4).wf = true ∧ (Lit.int .i64 x1_.f5).wf = true)) → (l1.length * 80 ≤ 140737488351232 ∧ ∀ x1_ ∈ l1, ((Lit.int .i64 x1_.f0).wf = true ∧ (Lit.int .i64 x1_.f1).wf = true ∧ (x1_.f2.length * 8 ≤ 140737488351232 ∧ ∀ x2_ ∈ x1_.f2, (Lit.int .i64 x2_).wf = true) ∧ (x1_.f3.length * 16 ≤ 140737488351232 ∧ ∀ x2_ ∈ x1_.f3, ((Lit.int .i64 x2_.f0).wf = true ∧ (Lit.int .i64 x2_.f1).wf = true)) ∧ (Lit.int .i64 x1_.f4).wf = true ∧ (Lit.int .i64 x1_.f5).wf = true)) → ∃ k, laws_FnExactSameTerms.f k l0 l1 = some true := by
  rintro x y ⟨hx, hinx⟩ ⟨hy, hiny⟩
  apply Ev.get
  unfold laws_FnExactSameTerms.f
  have bigx : ∀ a ∈ x, bigTerm a := fun a ha => by
    have h := hinx a ha
    exact ⟨by have := h.2.2.1.1; omega, h.2.2.2.1.1⟩
  have bigy : ∀ a ∈ y, bigTerm a := fun a ha => by
    have h := hiny a ha
    exact ⟨by have := h.2.2.1.1; omega, h.2.2.2.1.1⟩
  obtain ⟨r, hr, hr'⟩ := ev_szTermS x (by omega) bigx 1048576 (by omega) (by omega)
  refine Ev.bind hr ?_
  rcases hr' with h | ⟨h0, h1, hxl, hxo⟩
  · exact Ev.pos h (Ev.now _)
  obtain ⟨r', hs, hs'⟩ := ev_szTermS y (by omega) bigy r (by omega) (by omega)
  refine Ev.neg (by omega) (Ev.bind hs ?_)
  rcases hs' with h | ⟨h2, h3, hyl, hyo⟩
  · exact Ev.pos h (Ev.now _)
  have hlx : (x.map cvTerm).length ≤ 1048576 := by simpa using hxl
  have hly : (y.map cvTerm).length ≤ 1048576 := by simpa using hyl
  have tx := ev_toTermS x hxl hxo
  have ty := ev_toTermS y hyl hyo
  refine Ev.neg (by omega) (Ev.bind tx (Ev.bind ty (Ev.bind (ev_specSameTerms _ _ (okITerm_cv hxo) hlx) (Ev.bind tx (Ev.bind ty (Ev.bind (ev_implSameTerms _ _ (okITerm_cv hxo) hlx) (Ev.neg (by simp) ?_)))))))
  exact Ev.bind tx (Ev.bind (ev_eqTermS _ hlx (okITerm_cv hxo)) (Ev.pos rfl (Ev.bind ty (Ev.bind (ev_eqTermS _ hly (okITerm_cv hyo)) (Ev.pos rfl (Ev.now _))))))

end Go.Proofs.Ytlneiofnmbcheaa.Pure

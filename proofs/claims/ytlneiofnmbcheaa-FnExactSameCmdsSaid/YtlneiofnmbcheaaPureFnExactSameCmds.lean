/- For every two commands, the program says that they are the same just where the reference does. -/
import Derived.Test.YtlneiofnmbcheaaPFnExactSameCmdsx10
import Derived.Test.YtlneiofnmbcheaaVFnExactSameCmdsU
import Derived.Lib.Bytes
namespace Go.Proofs.Ytlneiofnmbcheaa.Pure
open Go.RowKit Go.Proofs.Ytlneiofnmbcheaa.PFnExactSameCmds Go.Proofs.YtlneiofnmbcheaaW.PrintWords Go.Proofs.YtlneiofnmbcheaaW.PrintLast Go.Proofs.Ytlneiofnmbcheaa.U
set_option linter.unusedSimpArgs false
set_option linter.unusedVariables false

theorem rd_Range_get (x : List S129) (i : Nat) (h : i < x.length) : rd_T129 x (i : Int) = x[i] := by simp [rd_T129, List.getD_eq_getElem?_getD, h]
def cvRange (x : S153) : S129 := ⟨x.f0, x.f1⟩
theorem rd_lRange_get (x : List S153) (i : Nat) (h : i < x.length) : rd_T153 x (i : Int) = x[i] := by simp [rd_T153, List.getD_eq_getElem?_getD, h]
def okITerm (x : S115) : Prop := x.f2.length ≤ 1048576 ∧ x.f3.length ≤ 1048576
theorem rd_Term_get (x : List S115) (i : Nat) (h : i < x.length) : rd_T115 x (i : Int) = x[i] := by simp [rd_T115, List.getD_eq_getElem?_getD, h]
def cvTerm (x : S111) : S115 := ⟨x.f0, x.f1, x.f2, x.f3.map cvRange, x.f4, x.f5⟩
def bigTerm (x : S111) : Prop := x.f2.length ≤ 140737488351232 ∧ x.f3.length * 16 ≤ 140737488351232
def okTerm (x : S111) : Prop := x.f2.length ≤ 1048576 ∧ x.f3.length ≤ 1048576
theorem okITerm_cv {x : List S111} (hin : ∀ y ∈ x, okTerm y) : ∀ y ∈ x.map cvTerm, okITerm y := by
  intro y hy
  obtain ⟨z, hz, rfl⟩ := List.mem_map.1 hy
  have := hin z hz
  exact ⟨this.1, by simpa [cvTerm] using this.2⟩
theorem rd_lTerm_get (x : List S111) (i : Nat) (h : i < x.length) : rd_T111 x (i : Int) = x[i] := by simp [rd_T111, List.getD_eq_getElem?_getD, h]
theorem szInt64S_eq (x : List Int) (m : Int) (hx : x.length ≤ 140737488351232) (h0 : 0 ≤ m) (h1 : m ≤ 1048576) : laws_szInt64S.f x m = some (if m - x.length < 0 then -1 else m - x.length) := by
  unfold laws_szInt64S.f
  rw [wid (by omega) (by omega)]
  split <;> rfl
theorem szRangeS_eq (x : List S153) (m : Int) (hx : x.length * 16 ≤ 140737488351232) (h0 : 0 ≤ m) (h1 : m ≤ 1048576) : laws_szRangeS.f x m = some (if m - x.length < 0 then -1 else m - x.length) := by
  unfold laws_szRangeS.f
  rw [wid (by omega) (by omega)]
  split <;> rfl
theorem ev_toInt64S (x : List Int) (hx : x.length ≤ 1048576) : Ev (fun k => laws_toInt64S.f k x) x := by
  unfold laws_toInt64S.f
  have h := ev_copy (fun k y i => laws_toInt64S.l0 k x y i) x (fun a => a) (fun y => y) ?_ ?_ (List.replicate x.length 0) (by simp)
  · simp only [List.map_id'] at h
    refine Ev.pos (by omega) (Ev.pos (by omega) ?_)
    simp only [Int.toNat_natCast]
    exact h
  · refine Ev.succ ?_
    simp only [laws_toInt64S.l0, Int.lt_irrefl, if_false]
    exact Ev.now _
  · intro i hi y hy r h
    refine Ev.succ ?_
    simp only [laws_toInt64S.l0]
    refine Ev.pos (by omega) (Ev.pos (by omega) (Ev.pos (by omega) ?_))
    simp only [Int.toNat_natCast, rd_get x i hi, wsucc hi (show x.length ≤ 281474976710656 by omega)]
    exact h
theorem ev_toRangeS (x : List S153) (hx : x.length ≤ 1048576) : Ev (fun k => laws_toRangeS.f k x) (x.map cvRange) := by
  unfold laws_toRangeS.f
  have h := ev_copy (fun k y i => laws_toRangeS.l0 k x y i) x cvRange (fun y => y) ?_ ?_ (List.replicate x.length z129) (by simp)
  · refine Ev.pos (by omega) (Ev.pos (by omega) ?_)
    simp only [Int.toNat_natCast]
    exact h
  · refine Ev.succ ?_
    simp only [laws_toRangeS.l0, Int.lt_irrefl, if_false]
    exact Ev.now _
  · intro i hi y hy r h
    refine Ev.succ ?_
    simp only [laws_toRangeS.l0, laws_toRange.f, Option.bind_some]
    refine Ev.pos (by omega) (Ev.pos (by omega) (Ev.pos (by omega) ?_))
    simp only [Int.toNat_natCast, rd_lRange_get x i hi, wsucc hi (show x.length ≤ 281474976710656 by omega)]
    exact h
theorem ev_eqInt64S (x : List Int) (hx : x.length ≤ 1048576) : Ev (fun k => laws_eqInt64S.f k x x) true := by
  unfold laws_eqInt64S.f
  refine Ev.pos rfl ?_
  refine ev_iter (fun k (_ : Unit) i => laws_eqInt64S.l0 k x x i) x.length (fun _ => ()) true ?_ ?_
  · refine Ev.succ ?_
    simp only [laws_eqInt64S.l0, Int.lt_irrefl, if_false]
    exact Ev.now _
  · intro i hi r h
    refine Ev.succ ?_
    simp only [laws_eqInt64S.l0]
    refine Ev.pos (by omega) (Ev.pos (by omega) (Ev.pos (by omega) (Ev.pos trivial ?_)))
    simp only [wsucc hi (show x.length ≤ 281474976710656 by omega)]
    exact h
theorem ev_eqRangeS (x : List S129) (hx : x.length ≤ 1048576) : Ev (fun k => laws_eqRangeS.f k x x) true := by
  unfold laws_eqRangeS.f
  refine Ev.pos rfl ?_
  refine ev_iter (fun k (_ : Unit) i => laws_eqRangeS.l0 k x x i) x.length (fun _ => ()) true ?_ ?_
  · refine Ev.succ ?_
    simp only [laws_eqRangeS.l0, Int.lt_irrefl, if_false]
    exact Ev.now _
  · intro i hi r h
    refine Ev.succ ?_
    simp only [laws_eqRangeS.l0, laws_eqRange.f]
    refine Ev.pos (by omega) (Ev.pos (by omega) (Ev.pos (by omega) ?_))
    simp only [if_true, Option.bind_some, wsucc hi (show x.length ≤ 281474976710656 by omega)]
    exact h
theorem ev_szTerm (y : S111) (hy : bigTerm y) (m : Int) (h0 : 0 ≤ m) (h1 : m ≤ 1048576) : ∃ r, Ev (fun _ => laws_szTerm.f y.f0 y.f1 y.f2 y.f3 y.f4 y.f5 m) r ∧ (r < 0 ∨ (0 ≤ r ∧ r ≤ m ∧ okTerm y)) := by
  obtain ⟨b2, b3⟩ := hy
  unfold laws_szTerm.f okTerm
  rw [szInt64S_eq y.f2 m b2 (by omega) (by omega)]
  simp only [Option.bind_some]
  by_cases c2 : m - (y.f2.length : Int) < 0
  · rw [if_pos c2]
    exact ⟨-1, Ev.pos (by omega) (Ev.now _), .inl (by omega)⟩
  rw [if_neg c2, szRangeS_eq y.f3 (m - y.f2.length) b3 (by omega) (by omega)]
  simp only [Option.bind_some]
  by_cases c3 : m - (y.f2.length : Int) - (y.f3.length : Int) < 0
  · rw [if_pos c3]
    exact ⟨-1, Ev.neg (by omega) (Ev.pos (by omega) (Ev.now _)), .inl (by omega)⟩
  · rw [if_neg c3]
    exact ⟨_, Ev.neg (by omega) (Ev.neg (by omega) (Ev.now _)), .inr ⟨by omega, by omega, by omega, by omega⟩⟩
theorem ev_toTerm (y : S111) (hy : okTerm y) : Ev (fun k => laws_toTerm.f k y.f0 y.f1 y.f2 y.f3 y.f4 y.f5) (y.f0, y.f1, y.f2, y.f3.map cvRange, y.f4, y.f5) := by
  unfold laws_toTerm.f
  exact Ev.bind (ev_toInt64S _ hy.1) (Ev.bind (ev_toRangeS _ hy.2) (Ev.now _))
theorem ev_eqTerm (y : S115) (hy : okITerm y) : Ev (fun k => laws_eqTerm.f k y.f0 y.f1 y.f2 y.f3 y.f4 y.f5 y.f0 y.f1 y.f2 y.f3 y.f4 y.f5) true := by
  unfold laws_eqTerm.f
  refine Ev.pos rfl (Ev.pos rfl (Ev.bind (ev_eqInt64S _ hy.1) (Ev.pos rfl (Ev.bind (ev_eqRangeS _ hy.2) (Ev.pos rfl (Ev.pos rfl (Ev.pos rfl (Ev.now _))))))))
theorem ev_szTermS (x : List S111) (hx : x.length ≤ 140737488351232) (hin : ∀ y ∈ x, bigTerm y) (m : Int) (h0 : 0 ≤ m) (h1 : m ≤ 1048576) :
    ∃ r, Ev (fun k => laws_szTermS.f k x m) r ∧ (r < 0 ∨ (0 ≤ r ∧ r ≤ m ∧ x.length ≤ 1048576 ∧ ∀ y ∈ x, okTerm y)) := by
  unfold laws_szTermS.f
  simp only [wid (x := m - x.length) (by omega) (by omega)]
  by_cases hn : m - (x.length : Int) < 0
  · exact ⟨-1, Ev.pos hn (Ev.now _), .inl (by omega)⟩
  suffices H : ∃ r, Ev (fun k => laws_szTermS.l0 k x (m - x.length) 0) r ∧ (r < 0 ∨ (0 ≤ r ∧ r ≤ m - x.length ∧ ∀ a ∈ x, okTerm a)) by
    obtain ⟨r, hr, hr'⟩ := H
    refine ⟨r, Ev.neg hn hr, ?_⟩
    rcases hr' with h | ⟨a, b, c⟩
    · exact .inl h
    · exact .inr ⟨a, by omega, by omega, c⟩
  refine ev_szL (fun k m i => laws_szTermS.l0 k x m i) x okTerm ?_ ?_ (m - x.length) (by omega) (by omega)
  · intro m hm
    refine Ev.succ ?_
    simp only [laws_szTermS.l0, Int.lt_irrefl, if_false]
    exact Ev.now _
  · intro i hi m hm0 hm1
    obtain ⟨r, hr, hr'⟩ := ev_szTerm x[i] (hin x[i] (List.getElem_mem hi)) m hm0 hm1
    refine ⟨r, hr', ?_, ?_⟩
    · intro hneg
      refine Ev.succ ?_
      simp only [laws_szTermS.l0, rd_lTerm_get x i hi]
      exact Ev.pos (by omega) (Ev.pos (by omega) (Ev.bind hr (Ev.pos hneg (Ev.now _))))
    · intro hpos q hq
      refine Ev.succ ?_
      simp only [laws_szTermS.l0, rd_lTerm_get x i hi, wsucc hi (show x.length ≤ 281474976710656 by omega)]
      exact Ev.pos (by omega) (Ev.pos (by omega) (Ev.bind hr (Ev.neg (by omega) hq)))
theorem ev_toTermS (x : List S111) (hx : x.length ≤ 1048576) (hin : ∀ y ∈ x, okTerm y) : Ev (fun k => laws_toTermS.f k x) (x.map cvTerm) := by
  unfold laws_toTermS.f
  have h := ev_copy (fun k y i => laws_toTermS.l0 k x y i) x cvTerm (fun y => y) ?_ ?_ (List.replicate x.length z115) (by simp)
  · refine Ev.pos (by omega) (Ev.pos (by omega) ?_)
    simp only [Int.toNat_natCast]
    exact h
  · refine Ev.succ ?_
    simp only [laws_toTermS.l0, Int.lt_irrefl, if_false]
    exact Ev.now _
  · intro i hi y hy r h
    refine Ev.succ ?_
    simp only [laws_toTermS.l0, rd_lTerm_get x i hi]
    refine Ev.pos (by omega) (Ev.pos (by omega) (Ev.bind (ev_toTerm _ (hin _ (List.getElem_mem hi))) (Ev.pos (by omega) ?_)))
    simp only [Int.toNat_natCast, wsucc hi (show x.length ≤ 281474976710656 by omega)]
    exact h
theorem ev_eqTermS (x : List S115) (hx : x.length ≤ 1048576) (hin : ∀ y ∈ x, okITerm y) : Ev (fun k => laws_eqTermS.f k x x) true := by
  unfold laws_eqTermS.f
  refine Ev.pos rfl ?_
  refine ev_iter (fun k (_ : Unit) i => laws_eqTermS.l0 k x x i) x.length (fun _ => ()) true ?_ ?_
  · refine Ev.succ ?_
    simp only [laws_eqTermS.l0, Int.lt_irrefl, if_false]
    exact Ev.now _
  · intro i hi r h
    refine Ev.succ ?_
    simp only [laws_eqTermS.l0, rd_Term_get x i hi]
    refine Ev.pos (by omega) (Ev.pos (by omega) (Ev.pos (by omega) (Ev.bind (ev_eqTerm _ (hin _ (List.getElem_mem hi))) (Ev.pos rfl ?_))))
    simp only [wsucc hi (show x.length ≤ 281474976710656 by omega)]
    exact h
def sameL {α : Type} (p : α → α → Bool) (x y : List α) : Bool := decide (x.length = y.length) && (x.zip y).all (fun q => p q.1 q.2)
theorem ev_sameL {α : Type} (l : Nat → Int → Option Bool) (x y : List α) (p : α → α → Bool) (hxy : x.length = y.length) (stop : Ev (fun k => l k (x.length : Int)) true)
    (no : ∀ (i : Nat) (hi : i < x.length) (hj : i < y.length), p x[i] y[i] = false → Ev (fun k => l k (i : Int)) false)
    (on : ∀ (i : Nat) (hi : i < x.length) (hj : i < y.length), p x[i] y[i] = true → ∀ r, Ev (fun k => l k ((i + 1 : Nat) : Int)) r → Ev (fun k => l k (i : Int)) r) : Ev (fun k => l k 0) (sameL p x y) := by
  have hlen : (x.zip y).length = x.length := by rw [List.length_zip]; omega
  have h := ev_find l (x.zip y) (fun q => if p q.1 q.2 = true then none else some false) true (by rw [hlen]; exact stop) ?_ ?_
  · rw [find_guard] at h
    unfold sameL
    rw [decide_eq_true hxy, Bool.true_and]
    cases ha : (x.zip y).all (fun q => p q.1 q.2) <;> simp only [ha] at h <;> exact h
  · intro i hi r hr
    rw [hlen] at hi
    simp only [List.getElem_zip] at hr
    cases hp : p x[i] (y[i]'(by omega))
    · simp only [hp] at hr; cases hr; exact no i hi (by omega) hp
    · simp only [hp] at hr; cases hr
  · intro i hi hr r h
    rw [hlen] at hi
    simp only [List.getElem_zip] at hr
    cases hp : p x[i] (y[i]'(by omega))
    · simp only [hp] at hr; cases hr
    · exact on i hi (by omega) hp r h
theorem sameL_ne {α : Type} (p : α → α → Bool) (x y : List α) (h : x.length ≠ y.length) : sameL p x y = false := by unfold sameL; rw [decide_eq_false h]; rfl
theorem sameL_eq (x y : List Int) : sameL (fun a b => decide (a = b)) x y = decide (x = y) := by
  induction x generalizing y with
  | nil => cases y <;> simp [sameL]
  | cons a x ih =>
    cases y with
    | nil => simp [sameL]
    | cons b y =>
      have := ih y
      simp only [sameL] at this
      rw [Bool.eq_iff_iff] at this ⊢
      simp only [sameL, List.length_cons, List.zip_cons_cons, List.all_cons, Bool.and_eq_true, decide_eq_true_eq, List.cons.injEq, Nat.add_right_cancel_iff] at this ⊢
      constructor
      · rintro ⟨h1, h2, h3⟩; exact ⟨h2, this.1 ⟨h1, h3⟩⟩
      · rintro ⟨h1, h2⟩; exact ⟨(this.2 h2).1, h1, (this.2 h2).2⟩
def Bytes (x : List Int) : Prop := ∀ b ∈ x, 0 ≤ b ∧ b ≤ 255
theorem ev_slicesEqual_int64 (x y : List Int) (hx : x.length ≤ 1048576) : Ev (fun k => slices_Equal_int64_int64.f k x y) (decide (x = y)) := by
  unfold slices_Equal_int64_int64.f
  by_cases hl : x.length = y.length
  case neg =>
    have : decide (x = y) = false := decide_eq_false (fun h => hl (by rw [h]))
    rw [this]
    exact Ev.neg (by omega) (Ev.now _)
  refine Ev.pos (by omega) ?_
  rw [← sameL_eq]
  refine ev_sameL (fun k i => slices_Equal_int64_int64.l0 k x y (x.length : Int) i) x y _ hl ?_ ?_ ?_
  · refine Ev.succ ?_
    simp only [slices_Equal_int64_int64.l0, Int.lt_irrefl, if_false]
    exact Ev.now _
  · intro i hi hj hp
    refine Ev.succ ?_
    simp only [slices_Equal_int64_int64.l0, rd_get x i hi, rd_get y i hj]
    exact Ev.pos (by omega) (Ev.pos (by omega) (Ev.pos (by omega) (Ev.pos (by omega) (Ev.neg (of_decide_eq_false hp) (Ev.now _)))))
  · intro i hi hj hp r h
    refine Ev.succ ?_
    simp only [slices_Equal_int64_int64.l0, rd_get x i hi, rd_get y i hj, wsucc hi (show x.length ≤ 281474976710656 by omega)]
    exact Ev.pos (by omega) (Ev.pos (by omega) (Ev.pos (by omega) (Ev.pos (by omega) (Ev.pos (of_decide_eq_true hp) h))))
def sameRange (a b : S129) : Bool := decide (a.f0 = b.f0) && decide (a.f1 = b.f1)
def sameTerm (a b : S115) : Bool := decide (a.f0 = b.f0) && (decide (a.f1 = b.f1) && (decide (a.f2 = b.f2) && (sameL sameRange a.f3 b.f3 && (decide (a.f4 = b.f4) && decide (a.f5 = b.f5)))))
theorem diffRange (a b : S129) : ((!(a.f0 == b.f0)) || (!(a.f1 == b.f1))) = !sameRange a b := by
  unfold sameRange
  by_cases h0 : a.f0 = b.f0 <;> by_cases h1 : a.f1 = b.f1 <;> simp [h0, h1]
theorem ev_implRangeS (x y : List S129) (hl : x.length ≤ 1048576) : Ev (fun k => impl_Range.f k x y) (sameL sameRange x y) := by
  unfold impl_Range.f
  by_cases hxy : x.length = y.length
  case neg => rw [sameL_ne _ _ _ hxy]; exact Ev.neg (by omega) (Ev.now _)
  refine Ev.pos (by omega) ?_
  refine ev_sameL (fun k i => impl_Range.l0 k x y (x.length : Int) i) x y sameRange hxy ?_ ?_ ?_
  · refine Ev.succ ?_
    simp only [impl_Range.l0, Int.lt_irrefl, if_false]
    exact Ev.now _
  · intro i hi hj hq
    refine Ev.succ ?_
    simp only [impl_Range.l0, rd_Range_get x i hi, rd_Range_get y i hj, diffRange]
    exact Ev.pos (by omega) (Ev.pos (by omega) (Ev.pos (by omega) (Ev.pos (by omega) (Ev.pos (by simp [hq]) (Ev.now _)))))
  · intro i hi hj hq r h
    refine Ev.succ ?_
    simp only [impl_Range.l0, rd_Range_get x i hi, rd_Range_get y i hj, diffRange, wsucc hi (show x.length ≤ 281474976710656 by omega)]
    exact Ev.pos (by omega) (Ev.pos (by omega) (Ev.pos (by omega) (Ev.pos (by omega) (Ev.neg (by simp [hq]) h))))
theorem ev_implsameTerm (a b : S115) (ha : okITerm a) : Ev (fun k => impl_sameTerm.f k a.f0 a.f1 a.f2 a.f3 a.f4 a.f5 b.f0 b.f1 b.f2 b.f3 b.f4 b.f5) (sameTerm a b) := by
  unfold impl_sameTerm.f sameTerm
  by_cases h0 : a.f0 = b.f0
  case neg => rw [decide_eq_false h0]; exact Ev.neg h0 (Ev.now _)
  by_cases h1 : a.f1 = b.f1
  case neg => rw [decide_eq_true h0, decide_eq_false h1]; exact Ev.pos h0 (Ev.neg h1 (Ev.now _))
  rw [decide_eq_true h0, decide_eq_true h1]
  simp only [Bool.true_and]
  refine Ev.pos h0 (Ev.pos h1 (Ev.bind (ev_slicesEqual_int64 a.f2 b.f2 ha.1) ?_))
  by_cases h2 : a.f2 = b.f2
  case neg => rw [decide_eq_false h2]; exact Ev.neg (by simp) (Ev.now _)
  rw [decide_eq_true h2]
  refine Ev.pos rfl (Ev.bind (ev_implRangeS a.f3 b.f3 ha.2) ?_)
  by_cases h3 : sameL sameRange a.f3 b.f3 = true
  case neg => rw [Bool.not_eq_true] at h3; rw [h3]; exact Ev.neg (by simp) (Ev.now _)
  rw [h3]
  refine Ev.pos rfl ?_
  by_cases h4 : a.f4 = b.f4
  case neg => rw [decide_eq_false h4]; exact Ev.neg h4 (Ev.now _)
  rw [decide_eq_true h4]
  refine Ev.pos h4 ?_
  rw [show (true && (true && decide (a.f5 = b.f5))) = (a.f5 == b.f5) by rw [Bool.true_and, Bool.true_and]; rfl]
  exact Ev.now _
theorem ev_l12Same (a b : S115) (l l' : List S115) (ha : okITerm a) : Ev (fun k => spec_l12Same.f k (a :: l) (b :: l')) (sameTerm a b) := by
  have e : rd_T115 (a :: l) 0 = a := rfl
  have e' : rd_T115 (b :: l') 0 = b := rfl
  have hp : (0 : Int) < ((a :: l).length : Int) := by simp only [List.length_cons]; omega
  have hp' : (0 : Int) < ((b :: l').length : Int) := by simp only [List.length_cons]; omega
  have hb2 := ha.1
  have hb3 := ha.2
  have no : Ev (fun k => spec_l12Same.j0 k (a :: l) (b :: l') true) false := by
    refine Ev.succ ?_
    simp only [spec_l12Same.j0, if_true]
    exact Ev.now _
  unfold spec_l12Same.f
  simp only [e, e']
  refine Ev.pos hp (Ev.pos hp' ?_)
  by_cases h0 : a.f0 = b.f0
  case neg => rw [show sameTerm a b = false by simp [sameTerm, h0]]; exact Ev.neg h0 no
  by_cases h1 : a.f1 = b.f1
  case neg => rw [show sameTerm a b = false by simp [sameTerm, h1]]; exact Ev.pos h0 (Ev.neg h1 no)
  by_cases h4 : a.f4 = b.f4
  case neg => rw [show sameTerm a b = false by simp [sameTerm, h4]]; exact Ev.pos h0 (Ev.pos h1 (Ev.neg h4 no))
  by_cases h5 : a.f5 = b.f5
  case neg => rw [show sameTerm a b = false by simp [sameTerm, h5]]; exact Ev.pos h0 (Ev.pos h1 (Ev.pos h4 (Ev.neg h5 no)))
  refine Ev.pos h0 (Ev.pos h1 (Ev.pos h4 (Ev.pos h5 ?_)))
  by_cases hl : a.f2.length = b.f2.length
  case neg => rw [show sameTerm a b = false by simp [sameTerm, show ¬ a.f2 = b.f2 from fun h => hl (by rw [h])]]; exact Ev.neg (by omega) no
  refine Ev.pos (by omega) ?_
  by_cases hl3 : a.f3.length = b.f3.length
  case neg =>
    rw [show sameTerm a b = false by simp [sameTerm, sameL_ne _ _ _ hl3], show ((a.f3.length : Int) != (b.f3.length : Int)) = true by simp; omega]
    exact no
  rw [show ((a.f3.length : Int) != (b.f3.length : Int)) = false by simp; omega]
  refine Ev.succ ?_
  simp only [spec_l12Same.j0]
  refine Ev.neg (by simp) ?_
  have es : sameTerm a b = (decide (a.f2 = b.f2) && sameL sameRange a.f3 b.f3) := by simp [sameTerm, h0, h1, h4, h5]
  rw [es]
  have l1 : Ev (fun k => spec_l12Same.l1 k (a :: l) (b :: l') 0) (sameL sameRange a.f3 b.f3) := by
    refine ev_sameL (fun k i => spec_l12Same.l1 k (a :: l) (b :: l') i) a.f3 b.f3 _ hl3 ?_ ?_ ?_
    · refine Ev.succ ?_
      simp only [spec_l12Same.l1, e, Int.lt_irrefl, if_false]
      exact Ev.pos hp (Ev.now _)
    · intro i hi hj hq
      refine Ev.succ ?_
      simp only [spec_l12Same.l1, e, e', rd_Range_get a.f3 i hi, rd_Range_get b.f3 i hj, diffRange]
      exact Ev.pos hp (Ev.pos (by omega) (Ev.pos (by omega) (Ev.pos hp' (Ev.pos (by omega) (Ev.pos (by simp [hq]) (Ev.now _))))))
    · intro i hi hj hq r h
      refine Ev.succ ?_
      simp only [spec_l12Same.l1, e, e', rd_Range_get a.f3 i hi, rd_Range_get b.f3 i hj, diffRange, wsucc hi (show a.f3.length ≤ 281474976710656 by omega)]
      exact Ev.pos hp (Ev.pos (by omega) (Ev.pos (by omega) (Ev.pos hp' (Ev.pos (by omega) (Ev.neg (by simp [hq]) h)))))
  have step : ∀ (i : Nat) (hi : i < a.f2.length) (hj : i < b.f2.length) (r : Bool), a.f2[i] = b.f2[i] → Ev (fun k => spec_l12Same.l0 k (a :: l) (b :: l') ((i + 1 : Nat) : Int)) r → Ev (fun k => spec_l12Same.l0 k (a :: l) (b :: l') (i : Int)) r := by
    intro i hi hj r hq h
    refine Ev.succ ?_
    simp only [spec_l12Same.l0, e, e', rd_get a.f2 i hi, rd_get b.f2 i hj, wsucc hi (show a.f2.length ≤ 281474976710656 by omega)]
    exact Ev.pos hp (Ev.pos (by omega) (Ev.pos (by omega) (Ev.pos hp' (Ev.pos (by omega) (Ev.pos hq h)))))
  have out : ∀ (i : Nat) (hi : i < a.f2.length) (hj : i < b.f2.length), ¬ a.f2[i] = b.f2[i] → Ev (fun k => spec_l12Same.l0 k (a :: l) (b :: l') (i : Int)) false := by
    intro i hi hj hq
    refine Ev.succ ?_
    simp only [spec_l12Same.l0, e, e', rd_get a.f2 i hi, rd_get b.f2 i hj]
    exact Ev.pos hp (Ev.pos (by omega) (Ev.pos (by omega) (Ev.pos hp' (Ev.pos (by omega) (Ev.neg hq (Ev.now _))))))
  have h := ev_findI (fun k i => spec_l12Same.l0 k (a :: l) (b :: l') i) a.f2.length (fun i => if a.f2.getD i 0 = b.f2.getD i 0 then none else some false) (sameL sameRange a.f3 b.f3) ?_ ?_ ?_
  · have key : ((List.range a.f2.length).findSome? fun i => if a.f2.getD i 0 = b.f2.getD i 0 then none else some false).getD (sameL sameRange a.f3 b.f3) = (decide (a.f2 = b.f2) && sameL sameRange a.f3 b.f3) := by
      by_cases hq : a.f2 = b.f2
      · rw [decide_eq_true hq, hq, Bool.true_and]
        have : ((List.range b.f2.length).findSome? fun i => if b.f2.getD i 0 = b.f2.getD i 0 then (none : Option Bool) else some false) = none := by simp
        rw [this]; rfl
      · rw [decide_eq_false hq, Bool.false_and]
        have : ((List.range a.f2.length).findSome? fun i => if a.f2.getD i 0 = b.f2.getD i 0 then (none : Option Bool) else some false) ≠ none := by
          intro hn
          apply hq
          rw [List.findSome?_eq_none_iff] at hn
          apply List.ext_getElem hl
          intro i hi hj
          have := hn i (List.mem_range.2 hi)
          simp only [List.getD_eq_getElem?_getD, List.getElem?_eq_getElem hi, List.getElem?_eq_getElem hj, Option.getD_some] at this
          by_cases hh : a.f2[i] = b.f2[i]
          · exact hh
          · rw [if_neg hh] at this; cases this
        cases hf : ((List.range a.f2.length).findSome? fun i => if a.f2.getD i 0 = b.f2.getD i 0 then (none : Option Bool) else some false) with
        | none => exact absurd hf this
        | some v =>
          obtain ⟨i, _, h'⟩ := List.exists_of_findSome?_eq_some hf
          (try simp only at h')
          split at h'
          · cases h'
          · cases h'; rfl
    rw [key] at h; exact h
  · refine Ev.succ ?_
    simp only [spec_l12Same.l0, e, Int.lt_irrefl, if_false]
    exact Ev.pos hp l1
  · intro i hi r hr
    have hj : i < b.f2.length := by omega
    simp only [List.getD_eq_getElem?_getD, List.getElem?_eq_getElem hi, List.getElem?_eq_getElem hj, Option.getD_some] at hr
    by_cases hh : a.f2[i] = b.f2[i]
    · rw [if_pos hh] at hr; cases hr
    · rw [if_neg hh] at hr; cases hr; exact out i hi hj hh
  · intro i hi hr r h
    have hj : i < b.f2.length := by omega
    simp only [List.getD_eq_getElem?_getD, List.getElem?_eq_getElem hi, List.getElem?_eq_getElem hj, Option.getD_some] at hr
    by_cases hh : a.f2[i] = b.f2[i]
    · exact step i hi hj r hh h
    · rw [if_neg hh] at hr; cases hr
theorem ev_specSameTerms (x y : List S115) (hx : ∀ a ∈ x, okITerm a) (hl : x.length ≤ 1048576) : Ev (fun k => spec_SameTerms.f k x y) (sameL sameTerm x y) := by
  unfold spec_SameTerms.f
  by_cases hxy : x.length = y.length
  case neg => rw [sameL_ne _ _ _ hxy]; exact Ev.neg (by omega) (Ev.now _)
  refine Ev.pos (by omega) ?_
  have one : ∀ (i : Nat) (hi : i < x.length) (hj : i < y.length), Ev (fun k => spec_l12Same.f k (x.drop i) (y.drop i)) (sameTerm x[i] y[i]) := by
    intro i hi hj
    rw [List.drop_eq_getElem_cons hi, List.drop_eq_getElem_cons hj]
    exact ev_l12Same _ _ _ _ (hx _ (List.getElem_mem hi))
  refine ev_sameL (fun k i => spec_SameTerms.l0 k x y i) x y sameTerm hxy ?_ ?_ ?_
  · refine Ev.succ ?_
    simp only [spec_SameTerms.l0, Int.lt_irrefl, if_false]
    exact Ev.now _
  · intro i hi hj hq
    refine Ev.succ ?_
    simp only [spec_SameTerms.l0, Int.toNat_natCast]
    refine Ev.pos (by omega) (Ev.pos (by omega) (Ev.pos (by omega) (Ev.bind (one i hi hj) (Ev.neg (by simp [hq]) (Ev.now _)))))
  · intro i hi hj hq r h
    refine Ev.succ ?_
    simp only [spec_SameTerms.l0, Int.toNat_natCast, wsucc hi (show x.length ≤ 281474976710656 by omega)]
    exact Ev.pos (by omega) (Ev.pos (by omega) (Ev.pos (by omega) (Ev.bind (one i hi hj) (Ev.pos hq h))))
theorem ev_implSameTerms (x y : List S115) (hx : ∀ a ∈ x, okITerm a) (hl : x.length ≤ 1048576) : Ev (fun k => impl_SameTerms.f k x y) (sameL sameTerm x y) := by
  unfold impl_SameTerms.f
  refine Ev.bind ?_ (Ev.now _)
  unfold impl_Term_v0.f
  by_cases hxy : x.length = y.length
  case neg => rw [sameL_ne _ _ _ hxy]; exact Ev.neg (by omega) (Ev.now _)
  refine Ev.pos (by omega) ?_
  refine ev_sameL (fun k i => impl_Term_v0.l0 k y x (x.length : Int) i) x y sameTerm hxy ?_ ?_ ?_
  · refine Ev.succ ?_
    simp only [impl_Term_v0.l0, Int.lt_irrefl, if_false]
    exact Ev.now _
  · intro i hi hj hq
    refine Ev.succ ?_
    simp only [impl_Term_v0.l0, rd_Term_get x i hi, rd_Term_get y i hj]
    exact Ev.pos (by omega) (Ev.pos (by omega) (Ev.pos (by omega) (Ev.pos (by omega) (Ev.bind (ev_implsameTerm _ _ (hx _ (List.getElem_mem hi))) (Ev.neg (by simp [hq]) (Ev.now _))))))
  · intro i hi hj hq r h
    refine Ev.succ ?_
    simp only [impl_Term_v0.l0, rd_Term_get x i hi, rd_Term_get y i hj, wsucc hi (show x.length ≤ 281474976710656 by omega)]
    exact Ev.pos (by omega) (Ev.pos (by omega) (Ev.pos (by omega) (Ev.pos (by omega) (Ev.bind (ev_implsameTerm _ _ (hx _ (List.getElem_mem hi))) (Ev.pos hq h)))))
theorem ev_slicesEqual_byte (x y : List Int) (hx : x.length ≤ 1048576) : Ev (fun k => slices_Equal_byte_byte.f k x y) (decide (x = y)) := by
  unfold slices_Equal_byte_byte.f
  by_cases hl : x.length = y.length
  case neg =>
    have : decide (x = y) = false := decide_eq_false (fun h => hl (by rw [h]))
    rw [this]
    exact Ev.neg (by omega) (Ev.now _)
  refine Ev.pos (by omega) ?_
  rw [← sameL_eq]
  refine ev_sameL (fun k i => slices_Equal_byte_byte.l0 k x y (x.length : Int) i) x y _ hl ?_ ?_ ?_
  · refine Ev.succ ?_
    simp only [slices_Equal_byte_byte.l0, Int.lt_irrefl, if_false]
    exact Ev.now _
  · intro i hi hj hp
    refine Ev.succ ?_
    simp only [slices_Equal_byte_byte.l0, rd_get x i hi, rd_get y i hj]
    exact Ev.pos (by omega) (Ev.pos (by omega) (Ev.pos (by omega) (Ev.pos (by omega) (Ev.neg (of_decide_eq_false hp) (Ev.now _)))))
  · intro i hi hj hp r h
    refine Ev.succ ?_
    simp only [slices_Equal_byte_byte.l0, rd_get x i hi, rd_get y i hj, wsucc hi (show x.length ≤ 281474976710656 by omega)]
    exact Ev.pos (by omega) (Ev.pos (by omega) (Ev.pos (by omega) (Ev.pos (by omega) (Ev.pos (of_decide_eq_true hp) h))))
theorem str_inj (x y : List Int) (hx : Bytes x) (hy : Bytes y) : (strOfNums x).toList = (strOfNums y).toList ↔ x = y := by
  constructor
  · rw [Go.Lib.strOfNums_toList, Go.Lib.strOfNums_toList]
    intro h
    have h : x.map (fun n => UInt8.ofNat n.toNat) = y.map (fun n => UInt8.ofNat n.toNat) := h
    induction x generalizing y with
    | nil => cases y with
      | nil => rfl
      | cons b y => simp at h
    | cons a x ih =>
      cases y with
      | nil => simp at h
      | cons b y =>
        simp only [List.map_cons, List.cons.injEq] at h
        have h1 := congrArg UInt8.toNat h.1
        have ha := hx a (List.mem_cons_self ..)
        have hb := hy b (List.mem_cons_self ..)
        simp only [UInt8.toNat_ofNat'] at h1
        rw [ih y (fun z hz => hx z (List.mem_cons_of_mem _ hz)) (fun z hz => hy z (List.mem_cons_of_mem _ hz)) h.2 h.2]
        have : a = b := by omega
        rw [this]
  · intro h; rw [h]
theorem ev_toByteS (x : List Int) (hx : x.length ≤ 1048576) : Ev (fun k => laws_toByteS.f k x) x := by
  unfold laws_toByteS.f
  have h := ev_copy (fun k y i => laws_toByteS.l0 k x y i) x (fun a => a) (fun y => y) ?_ ?_ (List.replicate x.length 0) (by simp)
  · simp only [List.map_id'] at h
    refine Ev.pos (by omega) (Ev.pos (by omega) ?_)
    simp only [Int.toNat_natCast]
    exact h
  · refine Ev.succ ?_
    simp only [laws_toByteS.l0, Int.lt_irrefl, if_false]
    exact Ev.now _
  · intro i hi y hy r h
    refine Ev.succ ?_
    simp only [laws_toByteS.l0]
    refine Ev.pos (by omega) (Ev.pos (by omega) (Ev.pos (by omega) ?_))
    simp only [Int.toNat_natCast, rd_get x i hi, wsucc hi (show x.length ≤ 281474976710656 by omega)]
    exact h
theorem ev_eqByteS (x : List Int) (hx : x.length ≤ 1048576) : Ev (fun k => laws_eqByteS.f k x x) true := by
  unfold laws_eqByteS.f
  refine Ev.pos rfl ?_
  refine ev_iter (fun k (_ : Unit) i => laws_eqByteS.l0 k x x i) x.length (fun _ => ()) true ?_ ?_
  · refine Ev.succ ?_
    simp only [laws_eqByteS.l0, Int.lt_irrefl, if_false]
    exact Ev.now _
  · intro i hi r h
    refine Ev.succ ?_
    simp only [laws_eqByteS.l0]
    refine Ev.pos (by omega) (Ev.pos (by omega) (Ev.pos (by omega) (Ev.pos trivial ?_)))
    simp only [wsucc hi (show x.length ≤ 281474976710656 by omega)]
    exact h
theorem szByteS_eq (x : List Int) (m : Int) (hx : x.length ≤ 140737488351232) (h0 : 0 ≤ m) (h1 : m ≤ 1048576) : laws_szByteS.f x m = some (if m - x.length < 0 then -1 else m - x.length) := by
  unfold laws_szByteS.f
  rw [wid (by omega) (by omega)]
  split <;> rfl
theorem ev_l14Ranges (x y : List S129) (hl : x.length ≤ 1048576) : Ev (fun k => spec_l14Ranges.f k x y) (sameL sameRange x y) := by
  unfold spec_l14Ranges.f
  by_cases hxy : x.length = y.length
  case neg => rw [sameL_ne _ _ _ hxy]; exact Ev.neg (by omega) (Ev.now _)
  refine Ev.pos (by omega) ?_
  refine ev_sameL (fun k i => spec_l14Ranges.l0 k x y i) x y sameRange hxy ?_ ?_ ?_
  · refine Ev.succ ?_
    simp only [spec_l14Ranges.l0, Int.lt_irrefl, if_false]
    exact Ev.now _
  · intro i hi hj hq
    refine Ev.succ ?_
    simp only [spec_l14Ranges.l0, rd_Range_get x i hi, rd_Range_get y i hj, diffRange]
    exact Ev.pos (by omega) (Ev.pos (by omega) (Ev.pos (by omega) (Ev.pos (by simp [hq]) (Ev.now _))))
  · intro i hi hj hq r h
    refine Ev.succ ?_
    simp only [spec_l14Ranges.l0, rd_Range_get x i hi, rd_Range_get y i hj, diffRange, wsucc hi (show x.length ≤ 281474976710656 by omega)]
    exact Ev.pos (by omega) (Ev.pos (by omega) (Ev.pos (by omega) (Ev.neg (by simp [hq]) h)))
theorem ev_l14Ints (x y : List Int) (hx : x.length ≤ 1048576) : Ev (fun k => spec_l14Ints.f k x y) (decide (x = y)) := by
  unfold spec_l14Ints.f
  by_cases hl : x.length = y.length
  case neg =>
    have : decide (x = y) = false := decide_eq_false (fun h => hl (by rw [h]))
    rw [this]
    exact Ev.neg (by omega) (Ev.now _)
  refine Ev.pos (by omega) ?_
  rw [← sameL_eq]
  refine ev_sameL (fun k i => spec_l14Ints.l0 k x y i) x y _ hl ?_ ?_ ?_
  · refine Ev.succ ?_
    simp only [spec_l14Ints.l0, Int.lt_irrefl, if_false]
    exact Ev.now _
  · intro i hi hj hp
    refine Ev.succ ?_
    simp only [spec_l14Ints.l0, rd_get x i hi, rd_get y i hj]
    exact Ev.pos (by omega) (Ev.pos (by omega) (Ev.pos (by omega) (Ev.neg (of_decide_eq_false hp) (Ev.now _))))
  · intro i hi hj hp r h
    refine Ev.succ ?_
    simp only [spec_l14Ints.l0, rd_get x i hi, rd_get y i hj, wsucc hi (show x.length ≤ 281474976710656 by omega)]
    exact Ev.pos (by omega) (Ev.pos (by omega) (Ev.pos (by omega) (Ev.pos (of_decide_eq_true hp) h)))
def sameCmd (a0 : ByteArray) (a1 : Int) (a2 : ByteArray) (a3 : List S129) (a4 : Int) (a5 : Int) (a6 : Int) (a7 : List Int) (a8 : Int) (a9 : List Int) (a10 : Int) (a11 : Bool) (a12 : List S115) (a13 : Int) (b0 : ByteArray) (b1 : Int) (b2 : ByteArray) (b3 : List S129) (b4 : Int) (b5 : Int) (b6 : Int) (b7 : List Int) (b8 : Int) (b9 : List Int) (b10 : Int) (b11 : Bool) (b12 : List S115) (b13 : Int) : Bool := if a0.toList = b0.toList ∧ a1 = b1 ∧ a2.toList = b2.toList ∧ a4 = b4 ∧ a5 = b5 ∧ a6 = b6 ∧ a8 = b8 ∧ a10 = b10 ∧ a11 = b11 ∧ a13 = b13 then (sameL sameRange a3 b3 && (decide (a7 = b7) && (decide (a9 = b9) && sameL sameTerm a12 b12))) else false
theorem ev_specSameCmds (a0 : ByteArray) (a1 : Int) (a2 : ByteArray) (a3 : List S129) (a4 : Int) (a5 : Int) (a6 : Int) (a7 : List Int) (a8 : Int) (a9 : List Int) (a10 : Int) (a11 : Bool) (a12 : List S115) (a13 : Int) (b0 : ByteArray) (b1 : Int) (b2 : ByteArray) (b3 : List S129) (b4 : Int) (b5 : Int) (b6 : Int) (b7 : List Int) (b8 : Int) (b9 : List Int) (b10 : Int) (b11 : Bool) (b12 : List S115) (b13 : Int) (ha3 : a3.length ≤ 1048576) (ha7 : a7.length ≤ 1048576) (ha9 : a9.length ≤ 1048576) (ha12 : a12.length ≤ 1048576) (hok : ∀ y ∈ a12, okITerm y) (ba : Bytes a7) (bb : Bytes b7) : Ev (fun k => spec_SameCmds.f k a0 a1 a2 a3 a4 a5 a6 a7 a8 a9 a10 a11 a12 a13 b0 b1 b2 b3 b4 b5 b6 b7 b8 b9 b10 b11 b12 b13) (sameCmd a0 a1 a2 a3 a4 a5 a6 a7 a8 a9 a10 a11 a12 a13 b0 b1 b2 b3 b4 b5 b6 b7 b8 b9 b10 b11 b12 b13) := by
  unfold spec_SameCmds.f
  have hF : Ev (fun k => spec_SameCmds.j0 k true a0 a1 a2 a3 a4 a5 a6 a7 a8 a9 a10 a11 a12 a13 b0 b1 b2 b3 b4 b5 b6 b7 b8 b9 b10 b11 b12 b13) false := by
    refine Ev.succ ?_
    simp only [spec_SameCmds.j0]
    exact Ev.pos trivial (Ev.now _)
  by_cases h0 : a0.toList = b0.toList
  case neg =>
    have : sameCmd a0 a1 a2 a3 a4 a5 a6 a7 a8 a9 a10 a11 a12 a13 b0 b1 b2 b3 b4 b5 b6 b7 b8 b9 b10 b11 b12 b13 = false := if_neg (fun h => h0 h.1)
    rw [this]
    exact Ev.neg h0 hF
  refine Ev.pos h0 ?_
  by_cases h1 : a1 = b1
  case neg =>
    have : sameCmd a0 a1 a2 a3 a4 a5 a6 a7 a8 a9 a10 a11 a12 a13 b0 b1 b2 b3 b4 b5 b6 b7 b8 b9 b10 b11 b12 b13 = false := if_neg (fun h => h1 h.2.1)
    rw [this]
    exact Ev.neg h1 hF
  refine Ev.pos h1 ?_
  by_cases h2 : a2.toList = b2.toList
  case neg =>
    have : sameCmd a0 a1 a2 a3 a4 a5 a6 a7 a8 a9 a10 a11 a12 a13 b0 b1 b2 b3 b4 b5 b6 b7 b8 b9 b10 b11 b12 b13 = false := if_neg (fun h => h2 h.2.2.1)
    rw [this]
    exact Ev.neg h2 hF
  refine Ev.pos h2 ?_
  by_cases h4 : a4 = b4
  case neg =>
    have : sameCmd a0 a1 a2 a3 a4 a5 a6 a7 a8 a9 a10 a11 a12 a13 b0 b1 b2 b3 b4 b5 b6 b7 b8 b9 b10 b11 b12 b13 = false := if_neg (fun h => h4 h.2.2.2.1)
    rw [this]
    exact Ev.neg h4 hF
  refine Ev.pos h4 ?_
  by_cases h5 : a5 = b5
  case neg =>
    have : sameCmd a0 a1 a2 a3 a4 a5 a6 a7 a8 a9 a10 a11 a12 a13 b0 b1 b2 b3 b4 b5 b6 b7 b8 b9 b10 b11 b12 b13 = false := if_neg (fun h => h5 h.2.2.2.2.1)
    rw [this]
    exact Ev.neg h5 hF
  refine Ev.pos h5 ?_
  by_cases h6 : a6 = b6
  case neg =>
    have : sameCmd a0 a1 a2 a3 a4 a5 a6 a7 a8 a9 a10 a11 a12 a13 b0 b1 b2 b3 b4 b5 b6 b7 b8 b9 b10 b11 b12 b13 = false := if_neg (fun h => h6 h.2.2.2.2.2.1)
    rw [this]
    exact Ev.neg h6 hF
  refine Ev.pos h6 ?_
  by_cases h8 : a8 = b8
  case neg =>
    have : sameCmd a0 a1 a2 a3 a4 a5 a6 a7 a8 a9 a10 a11 a12 a13 b0 b1 b2 b3 b4 b5 b6 b7 b8 b9 b10 b11 b12 b13 = false := if_neg (fun h => h8 h.2.2.2.2.2.2.1)
    rw [this]
    exact Ev.neg h8 hF
  refine Ev.pos h8 ?_
  by_cases h10 : a10 = b10
  case neg =>
    have : sameCmd a0 a1 a2 a3 a4 a5 a6 a7 a8 a9 a10 a11 a12 a13 b0 b1 b2 b3 b4 b5 b6 b7 b8 b9 b10 b11 b12 b13 = false := if_neg (fun h => h10 h.2.2.2.2.2.2.2.1)
    rw [this]
    exact Ev.neg h10 hF
  refine Ev.pos h10 ?_
  by_cases h11 : a11 = b11
  case neg =>
    have : sameCmd a0 a1 a2 a3 a4 a5 a6 a7 a8 a9 a10 a11 a12 a13 b0 b1 b2 b3 b4 b5 b6 b7 b8 b9 b10 b11 b12 b13 = false := if_neg (fun h => h11 h.2.2.2.2.2.2.2.2.1)
    rw [this]
    exact Ev.pos (by simpa using h11) hF
  refine Ev.neg (by simpa using h11) ?_
  refine Ev.succ ?_
  simp only [spec_SameCmds.j0]
  by_cases h13 : a13 = b13
  case neg =>
    have : sameCmd a0 a1 a2 a3 a4 a5 a6 a7 a8 a9 a10 a11 a12 a13 b0 b1 b2 b3 b4 b5 b6 b7 b8 b9 b10 b11 b12 b13 = false := if_neg (fun h => h13 h.2.2.2.2.2.2.2.2.2)
    rw [this]
    exact Ev.pos (by simpa using h13) (Ev.now _)
  refine Ev.neg (by simpa using h13) ?_
  have e : sameCmd a0 a1 a2 a3 a4 a5 a6 a7 a8 a9 a10 a11 a12 a13 b0 b1 b2 b3 b4 b5 b6 b7 b8 b9 b10 b11 b12 b13 = (sameL sameRange a3 b3 && (decide (a7 = b7) && (decide (a9 = b9) && sameL sameTerm a12 b12))) := if_pos ⟨h0, h1, h2, h4, h5, h6, h8, h10, h11, h13⟩
  rw [e]
  refine Ev.bind (ev_l14Ranges a3 b3 ha3) ?_
  cases hr : sameL sameRange a3 b3 with
  | false => exact Ev.neg (by simp) (Ev.now _)
  | true =>
    refine Ev.pos rfl ?_
    by_cases h7 : a7 = b7
    case neg =>
      rw [decide_eq_false h7]
      exact Ev.neg (fun h => h7 ((str_inj a7 b7 ba bb).1 h)) (Ev.now _)
    rw [decide_eq_true h7]
    refine Ev.pos ((str_inj a7 b7 ba bb).2 h7) (Ev.bind (ev_l14Ints a9 b9 ha9) ?_)
    by_cases h9 : a9 = b9
    · rw [decide_eq_true h9]
      exact Ev.pos rfl (Ev.bind (ev_specSameTerms a12 b12 hok ha12) (Ev.now _))
    · rw [decide_eq_false h9]
      exact Ev.neg (by simp) (Ev.now _)
theorem ev_implSameCmds (a0 : ByteArray) (a1 : Int) (a2 : ByteArray) (a3 : List S129) (a4 : Int) (a5 : Int) (a6 : Int) (a7 : List Int) (a8 : Int) (a9 : List Int) (a10 : Int) (a11 : Bool) (a12 : List S115) (a13 : Int) (b0 : ByteArray) (b1 : Int) (b2 : ByteArray) (b3 : List S129) (b4 : Int) (b5 : Int) (b6 : Int) (b7 : List Int) (b8 : Int) (b9 : List Int) (b10 : Int) (b11 : Bool) (b12 : List S115) (b13 : Int) (ha3 : a3.length ≤ 1048576) (ha7 : a7.length ≤ 1048576) (ha9 : a9.length ≤ 1048576) (ha12 : a12.length ≤ 1048576) (hok : ∀ y ∈ a12, okITerm y) : Ev (fun k => impl_SameCmds.f k a0 a1 a2 a3 a4 a5 a6 a7 a8 a9 a10 a11 a12 a13 b0 b1 b2 b3 b4 b5 b6 b7 b8 b9 b10 b11 b12 b13) (sameCmd a0 a1 a2 a3 a4 a5 a6 a7 a8 a9 a10 a11 a12 a13 b0 b1 b2 b3 b4 b5 b6 b7 b8 b9 b10 b11 b12 b13) := by
  unfold impl_SameCmds.f
  by_cases h0 : a0.toList = b0.toList
  case neg =>
    have : sameCmd a0 a1 a2 a3 a4 a5 a6 a7 a8 a9 a10 a11 a12 a13 b0 b1 b2 b3 b4 b5 b6 b7 b8 b9 b10 b11 b12 b13 = false := if_neg (fun h => h0 h.1)
    rw [this]
    exact Ev.neg h0 (Ev.now _)
  refine Ev.pos h0 ?_
  by_cases h1 : a1 = b1
  case neg =>
    have : sameCmd a0 a1 a2 a3 a4 a5 a6 a7 a8 a9 a10 a11 a12 a13 b0 b1 b2 b3 b4 b5 b6 b7 b8 b9 b10 b11 b12 b13 = false := if_neg (fun h => h1 h.2.1)
    rw [this]
    exact Ev.neg h1 (Ev.now _)
  refine Ev.pos h1 ?_
  by_cases h2 : a2.toList = b2.toList
  case neg =>
    have : sameCmd a0 a1 a2 a3 a4 a5 a6 a7 a8 a9 a10 a11 a12 a13 b0 b1 b2 b3 b4 b5 b6 b7 b8 b9 b10 b11 b12 b13 = false := if_neg (fun h => h2 h.2.2.1)
    rw [this]
    exact Ev.neg h2 (Ev.now _)
  refine Ev.pos h2 ?_
  refine Ev.bind (ev_implRangeS a3 b3 ha3) ?_
  cases hr : sameL sameRange a3 b3
  case false =>
    have : sameCmd a0 a1 a2 a3 a4 a5 a6 a7 a8 a9 a10 a11 a12 a13 b0 b1 b2 b3 b4 b5 b6 b7 b8 b9 b10 b11 b12 b13 = false := by unfold sameCmd; rw [hr]; simp
    rw [this]
    exact Ev.neg (by simp) (Ev.now _)
  refine Ev.pos rfl ?_
  by_cases h4 : a4 = b4
  case neg =>
    have : sameCmd a0 a1 a2 a3 a4 a5 a6 a7 a8 a9 a10 a11 a12 a13 b0 b1 b2 b3 b4 b5 b6 b7 b8 b9 b10 b11 b12 b13 = false := if_neg (fun h => h4 h.2.2.2.1)
    rw [this]
    exact Ev.neg h4 (Ev.now _)
  refine Ev.pos h4 ?_
  by_cases h5 : a5 = b5
  case neg =>
    have : sameCmd a0 a1 a2 a3 a4 a5 a6 a7 a8 a9 a10 a11 a12 a13 b0 b1 b2 b3 b4 b5 b6 b7 b8 b9 b10 b11 b12 b13 = false := if_neg (fun h => h5 h.2.2.2.2.1)
    rw [this]
    exact Ev.neg h5 (Ev.now _)
  refine Ev.pos h5 ?_
  by_cases h6 : a6 = b6
  case neg =>
    have : sameCmd a0 a1 a2 a3 a4 a5 a6 a7 a8 a9 a10 a11 a12 a13 b0 b1 b2 b3 b4 b5 b6 b7 b8 b9 b10 b11 b12 b13 = false := if_neg (fun h => h6 h.2.2.2.2.2.1)
    rw [this]
    exact Ev.neg h6 (Ev.now _)
  refine Ev.pos h6 ?_
  refine Ev.bind (ev_slicesEqual_byte a7 b7 ha7) ?_
  by_cases h7 : a7 = b7
  case neg =>
    rw [decide_eq_false h7]
    have : sameCmd a0 a1 a2 a3 a4 a5 a6 a7 a8 a9 a10 a11 a12 a13 b0 b1 b2 b3 b4 b5 b6 b7 b8 b9 b10 b11 b12 b13 = false := by unfold sameCmd; rw [decide_eq_false h7]; simp
    rw [this]
    exact Ev.neg (by simp) (Ev.now _)
  rw [decide_eq_true h7]
  refine Ev.pos rfl ?_
  by_cases h8 : a8 = b8
  case neg =>
    have : sameCmd a0 a1 a2 a3 a4 a5 a6 a7 a8 a9 a10 a11 a12 a13 b0 b1 b2 b3 b4 b5 b6 b7 b8 b9 b10 b11 b12 b13 = false := if_neg (fun h => h8 h.2.2.2.2.2.2.1)
    rw [this]
    exact Ev.neg h8 (Ev.now _)
  refine Ev.pos h8 ?_
  refine Ev.bind (ev_slicesEqual_int64 a9 b9 ha9) ?_
  by_cases h9 : a9 = b9
  case neg =>
    rw [decide_eq_false h9]
    have : sameCmd a0 a1 a2 a3 a4 a5 a6 a7 a8 a9 a10 a11 a12 a13 b0 b1 b2 b3 b4 b5 b6 b7 b8 b9 b10 b11 b12 b13 = false := by unfold sameCmd; rw [decide_eq_false h9]; simp
    rw [this]
    exact Ev.neg (by simp) (Ev.now _)
  rw [decide_eq_true h9]
  refine Ev.pos rfl ?_
  by_cases h10 : a10 = b10
  case neg =>
    have : sameCmd a0 a1 a2 a3 a4 a5 a6 a7 a8 a9 a10 a11 a12 a13 b0 b1 b2 b3 b4 b5 b6 b7 b8 b9 b10 b11 b12 b13 = false := if_neg (fun h => h10 h.2.2.2.2.2.2.2.1)
    rw [this]
    exact Ev.neg h10 (Ev.now _)
  refine Ev.pos h10 ?_
  by_cases h11 : a11 = b11
  case neg =>
    have : sameCmd a0 a1 a2 a3 a4 a5 a6 a7 a8 a9 a10 a11 a12 a13 b0 b1 b2 b3 b4 b5 b6 b7 b8 b9 b10 b11 b12 b13 = false := if_neg (fun h => h11 h.2.2.2.2.2.2.2.2.1)
    rw [this]
    exact Ev.neg (by simpa using h11) (Ev.now _)
  refine Ev.pos (by simpa using h11) ?_
  refine Ev.bind (ev_implSameTerms a12 b12 hok ha12) ?_
  cases ht : sameL sameTerm a12 b12
  case false =>
    have : sameCmd a0 a1 a2 a3 a4 a5 a6 a7 a8 a9 a10 a11 a12 a13 b0 b1 b2 b3 b4 b5 b6 b7 b8 b9 b10 b11 b12 b13 = false := by unfold sameCmd; rw [ht]; simp
    rw [this]
    exact Ev.neg (by simp) (Ev.now _)
  refine Ev.pos rfl ?_
  have e : sameCmd a0 a1 a2 a3 a4 a5 a6 a7 a8 a9 a10 a11 a12 a13 b0 b1 b2 b3 b4 b5 b6 b7 b8 b9 b10 b11 b12 b13 = (a13 == b13) := by
    unfold sameCmd
    by_cases h13 : a13 = b13
    · rw [if_pos ⟨h0, h1, h2, h4, h5, h6, h8, h10, h11, h13⟩, hr, decide_eq_true h7, decide_eq_true h9, ht]
      simp [h13]
    · rw [if_neg (fun h => h13 h.2.2.2.2.2.2.2.2.2)]
      simp [h13]
  rw [e]
  exact Ev.now _
theorem ev_szCmd (a0 : ByteArray) (a1 : Int) (a2 : ByteArray) (a3 : List S153) (a4 : Int) (a5 : Int) (a6 : Int) (a7 : List Int) (a8 : Int) (a9 : List Int) (a10 : Int) (a11 : Bool) (a12 : List S111) (a13 : Int) (h0 : a0.size ≤ 140737488351232) (h2 : a2.size ≤ 140737488351232) (h3 : a3.length * 16 ≤ 140737488351232) (h7 : a7.length ≤ 140737488351232) (h9 : a9.length ≤ 140737488351232) (h12 : a12.length ≤ 140737488351232) (hin : ∀ y ∈ a12, bigTerm y) (m : Int) (hm0 : 0 ≤ m) (hm1 : m ≤ 1048576) :
    ∃ r, Ev (fun k => laws_szCmd.f k a0 a1 a2 a3 a4 a5 a6 a7 a8 a9 a10 a11 a12 a13 m) r ∧ (r < 0 ∨ (0 ≤ r ∧ r ≤ m ∧ a0.size ≤ 1048576 ∧ a2.size ≤ 1048576 ∧ a3.length ≤ 1048576 ∧ a7.length ≤ 1048576 ∧ a9.length ≤ 1048576 ∧ a12.length ≤ 1048576 ∧ ∀ y ∈ a12, okTerm y)) := by
  unfold laws_szCmd.f
  rw [wid (x := m - (a0.size : Int)) (by omega) (by omega)]
  by_cases c0 : m - (a0.size : Int) < 0
  · exact ⟨-1, Ev.pos c0 (Ev.now _), .inl (by omega)⟩
  rw [wid (x := m - (a0.size : Int) - (a2.size : Int)) (by omega) (by omega)]
  by_cases c2 : m - (a0.size : Int) - (a2.size : Int) < 0
  · exact ⟨-1, Ev.neg c0 (Ev.pos c2 (Ev.now _)), .inl (by omega)⟩
  rw [szRangeS_eq a3 _ h3 (by omega) (by omega)]
  simp only [Option.bind_some]
  by_cases c3 : m - (a0.size : Int) - (a2.size : Int) - (a3.length : Int) < 0
  · rw [if_pos c3]
    exact ⟨-1, Ev.neg c0 (Ev.neg c2 (Ev.pos (by omega) (Ev.now _))), .inl (by omega)⟩
  rw [if_neg c3, szByteS_eq a7 _ h7 (by omega) (by omega)]
  simp only [Option.bind_some]
  by_cases c7 : m - (a0.size : Int) - (a2.size : Int) - (a3.length : Int) - (a7.length : Int) < 0
  · rw [if_pos c7]
    exact ⟨-1, Ev.neg c0 (Ev.neg c2 (Ev.neg c3 (Ev.pos (by omega) (Ev.now _)))), .inl (by omega)⟩
  rw [if_neg c7, szInt64S_eq a9 _ h9 (by omega) (by omega)]
  simp only [Option.bind_some]
  by_cases c9 : m - (a0.size : Int) - (a2.size : Int) - (a3.length : Int) - (a7.length : Int) - (a9.length : Int) < 0
  · rw [if_pos c9]
    exact ⟨-1, Ev.neg c0 (Ev.neg c2 (Ev.neg c3 (Ev.neg c7 (Ev.pos (by omega) (Ev.now _))))), .inl (by omega)⟩
  rw [if_neg c9]
  obtain ⟨r, hr, hr'⟩ := ev_szTermS a12 h12 hin (m - (a0.size : Int) - (a2.size : Int) - (a3.length : Int) - (a7.length : Int) - (a9.length : Int)) (by omega) (by omega)
  rcases hr' with h | ⟨g0, g1, g2, g3⟩
  · exact ⟨-1, Ev.neg c0 (Ev.neg c2 (Ev.neg c3 (Ev.neg c7 (Ev.neg c9 (Ev.bind hr (Ev.pos h (Ev.now _))))))), .inl (by omega)⟩
  · exact ⟨r, Ev.neg c0 (Ev.neg c2 (Ev.neg c3 (Ev.neg c7 (Ev.neg c9 (Ev.bind hr (Ev.neg (by omega) (Ev.now _))))))), .inr ⟨g0, by omega, by omega, by omega, by omega, by omega, by omega, g2, g3⟩⟩
theorem ev_toCmd (a0 : ByteArray) (a1 : Int) (a2 : ByteArray) (a3 : List S153) (a4 : Int) (a5 : Int) (a6 : Int) (a7 : List Int) (a8 : Int) (a9 : List Int) (a10 : Int) (a11 : Bool) (a12 : List S111) (a13 : Int) (h3 : a3.length ≤ 1048576) (h7 : a7.length ≤ 1048576) (h9 : a9.length ≤ 1048576) (h12 : a12.length ≤ 1048576) (hok : ∀ y ∈ a12, okTerm y) : Ev (fun k => laws_toCmd.f k a0 a1 a2 a3 a4 a5 a6 a7 a8 a9 a10 a11 a12 a13) (a0, a1, a2, a3.map cvRange, a4, a5, a6, a7, a8, a9, a10, a11, a12.map cvTerm, a13) := by
  unfold laws_toCmd.f
  exact Ev.bind (ev_toRangeS a3 h3) (Ev.bind (ev_toByteS a7 h7) (Ev.bind (ev_toInt64S a9 h9) (Ev.bind (ev_toTermS a12 h12 hok) (Ev.now _))))
theorem ev_eqCmd (a0 : ByteArray) (a1 : Int) (a2 : ByteArray) (a3 : List S129) (a4 : Int) (a5 : Int) (a6 : Int) (a7 : List Int) (a8 : Int) (a9 : List Int) (a10 : Int) (a11 : Bool) (a12 : List S115) (a13 : Int) (h3 : a3.length ≤ 1048576) (h7 : a7.length ≤ 1048576) (h9 : a9.length ≤ 1048576) (h12 : a12.length ≤ 1048576) (hok : ∀ y ∈ a12, okITerm y) : Ev (fun k => laws_eqCmd.f k a0 a1 a2 a3 a4 a5 a6 a7 a8 a9 a10 a11 a12 a13 a0 a1 a2 a3 a4 a5 a6 a7 a8 a9 a10 a11 a12 a13) true := by
  unfold laws_eqCmd.f
  exact Ev.pos rfl (Ev.pos rfl (Ev.pos rfl (Ev.bind (ev_eqRangeS a3 h3) (Ev.pos rfl (Ev.pos rfl (Ev.pos rfl (Ev.pos rfl (Ev.bind (ev_eqByteS a7 h7) (Ev.pos rfl (Ev.pos rfl (Ev.bind (ev_eqInt64S a9 h9) (Ev.pos rfl (Ev.pos rfl (Ev.neg (by simp) (Ev.bind (ev_eqTermS a12 h12 hok) (Ev.pos rfl (Ev.pos rfl (Ev.now _))))))))))))))))))
theorem FnExactSameCmds : ∀ (a0_0 : ByteArray) (a0_1 : Int) (a0_2 : ByteArray) (l0_3 : List (S153)) (a0_4 : Int) (a0_5 : Int) (a0_6 : Int) (l0_7 : List Int) (a0_8 : Int) (l0_9 : List Int) (a0_10 : Int) (a0_11 : Bool) (l0_12 : List (S111)) (a0_13 : Int) (a1_0 : ByteArray) (a1_1 : Int) (a1_2 : ByteArray) (l1_3 : List (S153)) (a1_4 : Int) (a1_5 : Int) (a1_6 : Int) (l1_7 : List Int) (a1_8 : Int) (l1_9 : List Int) (a1_10 : Int) (a1_11 : Bool) (l1_12 : List (S111)) (a1_13 : Int), a0_0.size ≤ 140737488351232 → (Lit.int .i64 a0_1).wf = true → a0_2.size ≤ 140737488351232 → (l0_3.length * 16 ≤ 140737488351232 ∧ ∀ x1_ ∈ l0_3, ((Lit.int .i64 x1_.f0).wf = true ∧ (Lit.int .i64 x1_.f1).wf = true)) → (Lit.int .i64 a0_4).wf = true → (Lit.int .i64 a0_5).wf = true → (Lit.int .i64 a0_6).wf = true → (l0_7.length * 1 ≤ 140737488351232 ∧ ∀ x1_ ∈ l0_7, (Lit.int .u8 x1_).wf = true) → (Lit.int .i64 a0_8).wf = true → (l0_9.length * 8 ≤ 140737488351232 ∧ ∀ x1_ ∈ l0_9, (Lit.int .i64 x1_).wf = true) → (Lit.int .i64 a0_10).wf = true → (l0_12.length * 80 ≤ 140737488351232 ∧ ∀ x1_ ∈ l0_12, ((Lit.int .i64 x1_.f0).wf = true ∧ (Lit.int .i64 x1_.f1).wf = true ∧ (x1_.f2.length * 8 ≤ 140737488351232 ∧ ∀ x2_ ∈ x1_.f2, (Lit.int .i64 x2_).wf = true) ∧ (x1_.f3.length * 16 ≤ 140737488351232 ∧ ∀ x2_ ∈ x1_.f3, ((Lit.int .i64 x2_.f0).wf = true ∧ (Lit.int .i64 x2_.f1).wf = true)) ∧ (Lit.int .i64 x1_.f4).wf = true ∧ (Lit.int .i64 x1_.f5).wf = true)) → (Lit.int .i64 a0_13).wf = true → a1_0.size ≤ 140737488351232 → (Lit.int .i64 a1_1).wf = true → a1_2.size ≤ 140737488351232 → (l1_3.length * 16 ≤ 140737488351232 ∧ ∀ x1_ ∈ l1_3, ((Lit.int .i64 x1_.f0).wf = true ∧ (Lit.int .i64 x1_.f1).wf = true)) → (Lit.int .i64 a1_4).wf = true → (Lit.int .i64 a1_5).wf = true → (Lit.int .i64 a1_6).wf = true → (l1_7.length * 1 ≤ 140737488351232 ∧ ∀ x1_ ∈ l1_7, (Lit.int .u8 x1_).wf = true) → (Lit.int .i64 a1_8).wf = true → (l1_9.length * 8 ≤ 140737488351232 ∧ ∀ x1_ ∈ l1_9, (Lit.int .i64 x1_).wf = true) → (Lit.int .i64 a1_10).wf = true → (l1_12.length * 80 ≤ 140737488351232 ∧ ∀ x1_ ∈ l1_12, ((Lit.int .i64 x1_.f0).wf = true ∧ (Lit.int .i64 x1_.f1).wf = true ∧ (x1_.f2.length * 8 ≤ 140737488351232 ∧ ∀ x2_ ∈ x1_.f2, (Lit.int .i64 x2_).wf = true) ∧ (x1_.f3.length * 16 ≤ 140737488351232 ∧ ∀ x2_ ∈ x1_.f3, ((Lit.int .i64 x2_.f0).wf = true ∧ (Lit.int .i64 x2_.f1).wf = true)) ∧ (Lit.int .i64 x1_.f4).wf = true ∧ (Lit.int .i64 x1_.f5).wf = true)) → (Lit.int .i64 a1_13).wf = true → ∃ k, laws_FnExactSameCmds.f k a0_0 a0_1 a0_2 l0_3 a0_4 a0_5 a0_6 l0_7 a0_8 l0_9 a0_10 a0_11 l0_12 a0_13 a1_0 a1_1 a1_2 l1_3 a1_4 a1_5 a1_6 l1_7 a1_8 l1_9 a1_10 a1_11 l1_12 a1_13 = some true := by
  intro a0 a1 a2 a3 a4 a5 a6 a7 a8 a9 a10 a11 a12 a13 b0 b1 b2 b3 b4 b5 b6 b7 b8 b9 b10 b11 b12 b13 p0 _ p2 p3 _ _ _ p7 _ p9 _ p12 _ q0 _ q2 q3 _ _ _ q7 _ q9 _ q12 _
  apply Ev.get
  unfold laws_FnExactSameCmds.f
  have ba : Bytes a7 := by
    intro b hb
    have := p7.2 b hb
    simp only [Lit.wf, Bool.and_eq_true, decide_eq_true_eq] at this
    exact this
  have bb : Bytes b7 := by
    intro b hb
    have := q7.2 b hb
    simp only [Lit.wf, Bool.and_eq_true, decide_eq_true_eq] at this
    exact this
  obtain ⟨r, hr, hr'⟩ := ev_szCmd a0 a1 a2 a3 a4 a5 a6 a7 a8 a9 a10 a11 a12 a13 p0 p2 p3.1 (by omega) (by omega) (by omega) (fun y hy => ⟨by have := (p12.2 y hy).2.2.1.1; omega, (p12.2 y hy).2.2.2.1.1⟩) 1048576 (by omega) (by omega)
  refine Ev.bind hr ?_
  rcases hr' with h | ⟨g0, g1, u0, u2, u3, u7, u9, u12, uo⟩
  · exact Ev.pos h (Ev.now _)
  obtain ⟨r', hs, hs'⟩ := ev_szCmd b0 b1 b2 b3 b4 b5 b6 b7 b8 b9 b10 b11 b12 b13 q0 q2 q3.1 (by omega) (by omega) (by omega) (fun y hy => ⟨by have := (q12.2 y hy).2.2.1.1; omega, (q12.2 y hy).2.2.2.1.1⟩) r (by omega) (by omega)
  refine Ev.neg (by omega) (Ev.bind hs ?_)
  rcases hs' with h | ⟨g2, g3, v0, v2, v3, v7, v9, v12, vo⟩
  · exact Ev.pos h (Ev.now _)
  have tx := ev_toCmd a0 a1 a2 a3 a4 a5 a6 a7 a8 a9 a10 a11 a12 a13 u3 u7 u9 u12 uo
  have ty := ev_toCmd b0 b1 b2 b3 b4 b5 b6 b7 b8 b9 b10 b11 b12 b13 v3 v7 v9 v12 vo
  have x3 : (a3.map cvRange).length ≤ 1048576 := by simpa using u3
  have x12 : (a12.map cvTerm).length ≤ 1048576 := by simpa using u12
  have y3 : (b3.map cvRange).length ≤ 1048576 := by simpa using v3
  have y12 : (b12.map cvTerm).length ≤ 1048576 := by simpa using v12
  refine Ev.neg (by omega) (Ev.bind tx (Ev.bind ty (Ev.bind (ev_specSameCmds _ _ _ _ _ _ _ _ _ _ _ _ _ _ _ _ _ _ _ _ _ _ _ _ _ _ _ _ x3 u7 u9 x12 (okITerm_cv uo) ba bb) (Ev.bind tx (Ev.bind ty (Ev.bind (ev_implSameCmds _ _ _ _ _ _ _ _ _ _ _ _ _ _ _ _ _ _ _ _ _ _ _ _ _ _ _ _ x3 u7 u9 x12 (okITerm_cv uo)) (Ev.neg (by simp) ?_)))))))
  exact Ev.bind tx (Ev.bind (ev_eqCmd _ _ _ _ _ _ _ _ _ _ _ _ _ _ x3 u7 u9 x12 (okITerm_cv uo)) (Ev.pos rfl (Ev.bind ty (Ev.bind (ev_eqCmd _ _ _ _ _ _ _ _ _ _ _ _ _ _ y3 v7 v9 y12 (okITerm_cv vo)) (Ev.pos rfl (Ev.now _))))))

end Go.Proofs.Ytlneiofnmbcheaa.Pure

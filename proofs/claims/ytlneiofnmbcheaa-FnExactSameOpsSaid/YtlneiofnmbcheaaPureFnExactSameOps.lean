/- For every two lists of ops, the program says that they are the same just where the reference does. -/
import Derived.Test.YtlneiofnmbcheaaPFnExactSameOpsx5
import Derived.Test.YtlneiofnmbcheaaU
import Derived.Lib.Bytes
namespace Go.Proofs.Ytlneiofnmbcheaa.Pure
open Go.RowKit Go.Proofs.Ytlneiofnmbcheaa.PFnExactSameOps Go.Proofs.YtlneiofnmbcheaaW.PrintWords Go.Proofs.YtlneiofnmbcheaaW.PrintLast Go.Proofs.Ytlneiofnmbcheaa.U
set_option linter.unusedSimpArgs false
set_option linter.unusedVariables false

def okIOp (x : S62) : Prop := x.f1.size ≤ 1048576 ∧ x.f2.size ≤ 1048576 ∧ x.f3.length ≤ 1048576 ∧ x.f7.length ≤ 1048576
theorem rd_Op_get (x : List S62) (i : Nat) (h : i < x.length) : rd_T62 x (i : Int) = x[i] := by simp [rd_T62, List.getD_eq_getElem?_getD, h]
def cvOp (x : S57) : S62 := ⟨x.f0, x.f1, x.f2, x.f3, x.f4, x.f5, x.f6, x.f7⟩
def bigOp (x : S57) : Prop := x.f1.size ≤ 140737488351232 ∧ x.f2.size ≤ 140737488351232 ∧ x.f3.length ≤ 140737488351232 ∧ x.f7.length ≤ 140737488351232
def okOp (x : S57) : Prop := x.f1.size ≤ 1048576 ∧ x.f2.size ≤ 1048576 ∧ x.f3.length ≤ 1048576 ∧ x.f7.length ≤ 1048576
theorem okIOp_cv {x : List S57} (hin : ∀ y ∈ x, okOp y) : ∀ y ∈ x.map cvOp, okIOp y := by
  intro y hy
  obtain ⟨z, hz, rfl⟩ := List.mem_map.1 hy
  exact hin z hz
theorem rd_lOp_get (x : List S57) (i : Nat) (h : i < x.length) : rd_T57 x (i : Int) = x[i] := by simp [rd_T57, List.getD_eq_getElem?_getD, h]
theorem szInt64S_eq (x : List Int) (m : Int) (hx : x.length ≤ 140737488351232) (h0 : 0 ≤ m) (h1 : m ≤ 1048576) : laws_szInt64S.f x m = some (if m - x.length < 0 then -1 else m - x.length) := by
  unfold laws_szInt64S.f
  rw [wid (by omega) (by omega)]
  split <;> rfl
theorem szByteS_eq (x : List Int) (m : Int) (hx : x.length ≤ 140737488351232) (h0 : 0 ≤ m) (h1 : m ≤ 1048576) : laws_szByteS.f x m = some (if m - x.length < 0 then -1 else m - x.length) := by
  unfold laws_szByteS.f
  rw [wid (by omega) (by omega)]
  split <;> rfl
theorem ev_toInt64S (x : List Int) (hx : x.length ≤ 1048576) : Ev (fun k => laws_toInt64S.f k x) x := by
  unfold laws_toInt64S.f
  have h := ev_copy (fun k y i => laws_toInt64S.l0 k x y i) x (fun a => a) (fun y => y) ?_ ?_ (List.replicate x.length 0) (by simp)
  · simp only [List.map_id'] at h
    refine Ev.pos (by omega) (Ev.pos (by omega) ?_)
    simp only [Int.toNat_natCast]
    exact h
  · refine Ev.succ ?_
    simp only [laws_toInt64S.l0, Int.lt_irrefl, if_false]
    exact Ev.now _
  · intro i hi y hy r h
    refine Ev.succ ?_
    simp only [laws_toInt64S.l0]
    refine Ev.pos (by omega) (Ev.pos (by omega) (Ev.pos (by omega) ?_))
    simp only [Int.toNat_natCast, rd_get x i hi, wsucc hi (show x.length ≤ 281474976710656 by omega)]
    exact h
theorem ev_toByteS (x : List Int) (hx : x.length ≤ 1048576) : Ev (fun k => laws_toByteS.f k x) x := by
  unfold laws_toByteS.f
  have h := ev_copy (fun k y i => laws_toByteS.l0 k x y i) x (fun a => a) (fun y => y) ?_ ?_ (List.replicate x.length 0) (by simp)
  · simp only [List.map_id'] at h
    refine Ev.pos (by omega) (Ev.pos (by omega) ?_)
    simp only [Int.toNat_natCast]
    exact h
  · refine Ev.succ ?_
    simp only [laws_toByteS.l0, Int.lt_irrefl, if_false]
    exact Ev.now _
  · intro i hi y hy r h
    refine Ev.succ ?_
    simp only [laws_toByteS.l0]
    refine Ev.pos (by omega) (Ev.pos (by omega) (Ev.pos (by omega) ?_))
    simp only [Int.toNat_natCast, rd_get x i hi, wsucc hi (show x.length ≤ 281474976710656 by omega)]
    exact h
theorem ev_eqInt64S (x : List Int) (hx : x.length ≤ 1048576) : Ev (fun k => laws_eqInt64S.f k x x) true := by
  unfold laws_eqInt64S.f
  refine Ev.pos rfl ?_
  refine ev_iter (fun k (_ : Unit) i => laws_eqInt64S.l0 k x x i) x.length (fun _ => ()) true ?_ ?_
  · refine Ev.succ ?_
    simp only [laws_eqInt64S.l0, Int.lt_irrefl, if_false]
    exact Ev.now _
  · intro i hi r h
    refine Ev.succ ?_
    simp only [laws_eqInt64S.l0]
    refine Ev.pos (by omega) (Ev.pos (by omega) (Ev.pos (by omega) (Ev.pos trivial ?_)))
    simp only [wsucc hi (show x.length ≤ 281474976710656 by omega)]
    exact h
theorem ev_eqByteS (x : List Int) (hx : x.length ≤ 1048576) : Ev (fun k => laws_eqByteS.f k x x) true := by
  unfold laws_eqByteS.f
  refine Ev.pos rfl ?_
  refine ev_iter (fun k (_ : Unit) i => laws_eqByteS.l0 k x x i) x.length (fun _ => ()) true ?_ ?_
  · refine Ev.succ ?_
    simp only [laws_eqByteS.l0, Int.lt_irrefl, if_false]
    exact Ev.now _
  · intro i hi r h
    refine Ev.succ ?_
    simp only [laws_eqByteS.l0]
    refine Ev.pos (by omega) (Ev.pos (by omega) (Ev.pos (by omega) (Ev.pos trivial ?_)))
    simp only [wsucc hi (show x.length ≤ 281474976710656 by omega)]
    exact h
theorem ev_szOp (y : S57) (hy : bigOp y) (m : Int) (h0 : 0 ≤ m) (h1 : m ≤ 1048576) : ∃ r, Ev (fun _ => laws_szOp.f y.f0 y.f1 y.f2 y.f3 y.f4 y.f5 y.f6 y.f7 m) r ∧ (r < 0 ∨ (0 ≤ r ∧ r ≤ m ∧ okOp y)) := by
  obtain ⟨b1, b2, b3, b7⟩ := hy
  unfold laws_szOp.f okOp
  simp only [wid (x := m - y.f1.size) (by omega) (by omega), wid (x := m - y.f1.size - y.f2.size) (by omega) (by omega)]
  by_cases c1 : m - (y.f1.size : Int) < 0
  · exact ⟨-1, Ev.pos c1 (Ev.now _), .inl (by omega)⟩
  by_cases c2 : m - (y.f1.size : Int) - (y.f2.size : Int) < 0
  · exact ⟨-1, Ev.neg c1 (Ev.pos c2 (Ev.now _)), .inl (by omega)⟩
  rw [szInt64S_eq y.f3 (m - y.f1.size - y.f2.size) b3 (by omega) (by omega)]
  simp only [Option.bind_some]
  by_cases c3 : m - (y.f1.size : Int) - (y.f2.size : Int) - (y.f3.length : Int) < 0
  · rw [if_pos c3]
    exact ⟨-1, Ev.neg c1 (Ev.neg c2 (Ev.pos (by omega) (Ev.now _))), .inl (by omega)⟩
  rw [if_neg c3, szByteS_eq y.f7 (m - y.f1.size - y.f2.size - y.f3.length) b7 (by omega) (by omega)]
  simp only [Option.bind_some]
  by_cases c4 : m - (y.f1.size : Int) - (y.f2.size : Int) - (y.f3.length : Int) - (y.f7.length : Int) < 0
  · rw [if_pos c4]
    exact ⟨-1, Ev.neg c1 (Ev.neg c2 (Ev.neg (by omega) (Ev.pos (by omega) (Ev.now _)))), .inl (by omega)⟩
  · rw [if_neg c4]
    exact ⟨_, Ev.neg c1 (Ev.neg c2 (Ev.neg (by omega) (Ev.neg (by omega) (Ev.now _)))), .inr ⟨by omega, by omega, by omega, by omega, by omega, by omega⟩⟩
theorem ev_toOp (y : S57) (hy : okOp y) : Ev (fun k => laws_toOp.f k y.f0 y.f1 y.f2 y.f3 y.f4 y.f5 y.f6 y.f7) (y.f0, y.f1, y.f2, y.f3, y.f4, y.f5, y.f6, y.f7) := by
  unfold laws_toOp.f
  exact Ev.bind (ev_toInt64S _ hy.2.2.1) (Ev.bind (ev_toByteS _ hy.2.2.2) (Ev.now _))
theorem ev_eqOp (y : S62) (hy : okIOp y) : Ev (fun k => laws_eqOp.f k y.f0 y.f1 y.f2 y.f3 y.f4 y.f5 y.f6 y.f7 y.f0 y.f1 y.f2 y.f3 y.f4 y.f5 y.f6 y.f7) true := by
  unfold laws_eqOp.f
  refine Ev.pos rfl (Ev.pos rfl (Ev.pos rfl (Ev.bind (ev_eqInt64S _ hy.2.2.1) (Ev.pos rfl (Ev.pos rfl (Ev.pos rfl (Ev.pos rfl ?_)))))))
  exact Ev.bind (ev_eqByteS _ hy.2.2.2) (Ev.pos rfl (Ev.now _))
theorem ev_szOpS (x : List S57) (hx : x.length ≤ 140737488351232) (hin : ∀ y ∈ x, bigOp y) (m : Int) (h0 : 0 ≤ m) (h1 : m ≤ 1048576) :
    ∃ r, Ev (fun k => laws_szOpS.f k x m) r ∧ (r < 0 ∨ (0 ≤ r ∧ r ≤ m ∧ x.length ≤ 1048576 ∧ ∀ y ∈ x, okOp y)) := by
  unfold laws_szOpS.f
  simp only [wid (x := m - x.length) (by omega) (by omega)]
  by_cases hn : m - (x.length : Int) < 0
  · exact ⟨-1, Ev.pos hn (Ev.now _), .inl (by omega)⟩
  suffices H : ∃ r, Ev (fun k => laws_szOpS.l0 k x (m - x.length) 0) r ∧ (r < 0 ∨ (0 ≤ r ∧ r ≤ m - x.length ∧ ∀ a ∈ x, okOp a)) by
    obtain ⟨r, hr, hr'⟩ := H
    refine ⟨r, Ev.neg hn hr, ?_⟩
    rcases hr' with h | ⟨a, b, c⟩
    · exact .inl h
    · exact .inr ⟨a, by omega, by omega, c⟩
  refine ev_szL (fun k m i => laws_szOpS.l0 k x m i) x okOp ?_ ?_ (m - x.length) (by omega) (by omega)
  · intro m hm
    refine Ev.succ ?_
    simp only [laws_szOpS.l0, Int.lt_irrefl, if_false]
    exact Ev.now _
  · intro i hi m hm0 hm1
    obtain ⟨r, hr, hr'⟩ := ev_szOp x[i] (hin x[i] (List.getElem_mem hi)) m hm0 hm1
    refine ⟨r, hr', ?_, ?_⟩
    · intro hneg
      refine Ev.succ ?_
      simp only [laws_szOpS.l0, rd_lOp_get x i hi]
      exact Ev.pos (by omega) (Ev.pos (by omega) (Ev.bind hr (Ev.pos hneg (Ev.now _))))
    · intro hpos q hq
      refine Ev.succ ?_
      simp only [laws_szOpS.l0, rd_lOp_get x i hi, wsucc hi (show x.length ≤ 281474976710656 by omega)]
      exact Ev.pos (by omega) (Ev.pos (by omega) (Ev.bind hr (Ev.neg (by omega) hq)))
theorem ev_toOpS (x : List S57) (hx : x.length ≤ 1048576) (hin : ∀ y ∈ x, okOp y) : Ev (fun k => laws_toOpS.f k x) (x.map cvOp) := by
  unfold laws_toOpS.f
  have h := ev_copy (fun k y i => laws_toOpS.l0 k x y i) x cvOp (fun y => y) ?_ ?_ (List.replicate x.length z62) (by simp)
  · refine Ev.pos (by omega) (Ev.pos (by omega) ?_)
    simp only [Int.toNat_natCast]
    exact h
  · refine Ev.succ ?_
    simp only [laws_toOpS.l0, Int.lt_irrefl, if_false]
    exact Ev.now _
  · intro i hi y hy r h
    refine Ev.succ ?_
    simp only [laws_toOpS.l0, rd_lOp_get x i hi]
    refine Ev.pos (by omega) (Ev.pos (by omega) (Ev.bind (ev_toOp _ (hin _ (List.getElem_mem hi))) (Ev.pos (by omega) ?_)))
    simp only [Int.toNat_natCast, wsucc hi (show x.length ≤ 281474976710656 by omega)]
    exact h
theorem ev_eqOpS (x : List S62) (hx : x.length ≤ 1048576) (hin : ∀ y ∈ x, okIOp y) : Ev (fun k => laws_eqOpS.f k x x) true := by
  unfold laws_eqOpS.f
  refine Ev.pos rfl ?_
  refine ev_iter (fun k (_ : Unit) i => laws_eqOpS.l0 k x x i) x.length (fun _ => ()) true ?_ ?_
  · refine Ev.succ ?_
    simp only [laws_eqOpS.l0, Int.lt_irrefl, if_false]
    exact Ev.now _
  · intro i hi r h
    refine Ev.succ ?_
    simp only [laws_eqOpS.l0, rd_Op_get x i hi]
    refine Ev.pos (by omega) (Ev.pos (by omega) (Ev.pos (by omega) (Ev.bind (ev_eqOp _ (hin _ (List.getElem_mem hi))) (Ev.pos rfl ?_))))
    simp only [wsucc hi (show x.length ≤ 281474976710656 by omega)]
    exact h
def sameL {α : Type} (p : α → α → Bool) (x y : List α) : Bool := decide (x.length = y.length) && (x.zip y).all (fun q => p q.1 q.2)
theorem ev_sameL {α : Type} (l : Nat → Int → Option Bool) (x y : List α) (p : α → α → Bool) (hxy : x.length = y.length) (stop : Ev (fun k => l k (x.length : Int)) true)
    (no : ∀ (i : Nat) (hi : i < x.length) (hj : i < y.length), p x[i] y[i] = false → Ev (fun k => l k (i : Int)) false)
    (on : ∀ (i : Nat) (hi : i < x.length) (hj : i < y.length), p x[i] y[i] = true → ∀ r, Ev (fun k => l k ((i + 1 : Nat) : Int)) r → Ev (fun k => l k (i : Int)) r) : Ev (fun k => l k 0) (sameL p x y) := by
  have hlen : (x.zip y).length = x.length := by rw [List.length_zip]; omega
  have h := ev_find l (x.zip y) (fun q => if p q.1 q.2 = true then none else some false) true (by rw [hlen]; exact stop) ?_ ?_
  · rw [find_guard] at h
    unfold sameL
    rw [decide_eq_true hxy, Bool.true_and]
    cases ha : (x.zip y).all (fun q => p q.1 q.2) <;> simp only [ha] at h <;> exact h
  · intro i hi r hr
    rw [hlen] at hi
    simp only [List.getElem_zip] at hr
    cases hp : p x[i] (y[i]'(by omega))
    · simp only [hp] at hr; cases hr; exact no i hi (by omega) hp
    · simp only [hp] at hr; cases hr
  · intro i hi hr r h
    rw [hlen] at hi
    simp only [List.getElem_zip] at hr
    cases hp : p x[i] (y[i]'(by omega))
    · simp only [hp] at hr; cases hr
    · exact on i hi (by omega) hp r h
theorem sameL_ne {α : Type} (p : α → α → Bool) (x y : List α) (h : x.length ≠ y.length) : sameL p x y = false := by unfold sameL; rw [decide_eq_false h]; rfl
theorem sameL_eq (x y : List Int) : sameL (fun a b => decide (a = b)) x y = decide (x = y) := by
  induction x generalizing y with
  | nil => cases y <;> simp [sameL]
  | cons a x ih =>
    cases y with
    | nil => simp [sameL]
    | cons b y =>
      have := ih y
      simp only [sameL] at this
      rw [Bool.eq_iff_iff] at this ⊢
      simp only [sameL, List.length_cons, List.zip_cons_cons, List.all_cons, Bool.and_eq_true, decide_eq_true_eq, List.cons.injEq, Nat.add_right_cancel_iff] at this ⊢
      constructor
      · rintro ⟨h1, h2, h3⟩; exact ⟨h2, this.1 ⟨h1, h3⟩⟩
      · rintro ⟨h1, h2⟩; exact ⟨(this.2 h2).1, h1, (this.2 h2).2⟩
def Bytes (x : List Int) : Prop := ∀ b ∈ x, 0 ≤ b ∧ b ≤ 255
theorem ev_slicesEqual_byte (x y : List Int) (hx : x.length ≤ 1048576) : Ev (fun k => slices_Equal_byte_byte.f k x y) (decide (x = y)) := by
  unfold slices_Equal_byte_byte.f
  by_cases hl : x.length = y.length
  case neg =>
    have : decide (x = y) = false := decide_eq_false (fun h => hl (by rw [h]))
    rw [this]
    exact Ev.neg (by omega) (Ev.now _)
  refine Ev.pos (by omega) ?_
  rw [← sameL_eq]
  refine ev_sameL (fun k i => slices_Equal_byte_byte.l0 k x y (x.length : Int) i) x y _ hl ?_ ?_ ?_
  · refine Ev.succ ?_
    simp only [slices_Equal_byte_byte.l0, Int.lt_irrefl, if_false]
    exact Ev.now _
  · intro i hi hj hp
    refine Ev.succ ?_
    simp only [slices_Equal_byte_byte.l0, rd_get x i hi, rd_get y i hj]
    exact Ev.pos (by omega) (Ev.pos (by omega) (Ev.pos (by omega) (Ev.pos (by omega) (Ev.neg (of_decide_eq_false hp) (Ev.now _)))))
  · intro i hi hj hp r h
    refine Ev.succ ?_
    simp only [slices_Equal_byte_byte.l0, rd_get x i hi, rd_get y i hj, wsucc hi (show x.length ≤ 281474976710656 by omega)]
    exact Ev.pos (by omega) (Ev.pos (by omega) (Ev.pos (by omega) (Ev.pos (by omega) (Ev.pos (of_decide_eq_true hp) h))))
theorem ev_slicesEqual_int64 (x y : List Int) (hx : x.length ≤ 1048576) : Ev (fun k => slices_Equal_int64_int64.f k x y) (decide (x = y)) := by
  unfold slices_Equal_int64_int64.f
  by_cases hl : x.length = y.length
  case neg =>
    have : decide (x = y) = false := decide_eq_false (fun h => hl (by rw [h]))
    rw [this]
    exact Ev.neg (by omega) (Ev.now _)
  refine Ev.pos (by omega) ?_
  rw [← sameL_eq]
  refine ev_sameL (fun k i => slices_Equal_int64_int64.l0 k x y (x.length : Int) i) x y _ hl ?_ ?_ ?_
  · refine Ev.succ ?_
    simp only [slices_Equal_int64_int64.l0, Int.lt_irrefl, if_false]
    exact Ev.now _
  · intro i hi hj hp
    refine Ev.succ ?_
    simp only [slices_Equal_int64_int64.l0, rd_get x i hi, rd_get y i hj]
    exact Ev.pos (by omega) (Ev.pos (by omega) (Ev.pos (by omega) (Ev.pos (by omega) (Ev.neg (of_decide_eq_false hp) (Ev.now _)))))
  · intro i hi hj hp r h
    refine Ev.succ ?_
    simp only [slices_Equal_int64_int64.l0, rd_get x i hi, rd_get y i hj, wsucc hi (show x.length ≤ 281474976710656 by omega)]
    exact Ev.pos (by omega) (Ev.pos (by omega) (Ev.pos (by omega) (Ev.pos (by omega) (Ev.pos (of_decide_eq_true hp) h))))
theorem str_inj (x y : List Int) (hx : Bytes x) (hy : Bytes y) : (strOfNums x).toList = (strOfNums y).toList ↔ x = y := by
  constructor
  · rw [Go.Lib.strOfNums_toList, Go.Lib.strOfNums_toList]
    intro h
    have h : x.map (fun n => UInt8.ofNat n.toNat) = y.map (fun n => UInt8.ofNat n.toNat) := h
    induction x generalizing y with
    | nil => cases y with
      | nil => rfl
      | cons b y => simp at h
    | cons a x ih =>
      cases y with
      | nil => simp at h
      | cons b y =>
        simp only [List.map_cons, List.cons.injEq] at h
        have h1 := congrArg UInt8.toNat h.1
        have ha := hx a (List.mem_cons_self ..)
        have hb := hy b (List.mem_cons_self ..)
        simp only [UInt8.toNat_ofNat'] at h1
        rw [ih y (fun z hz => hx z (List.mem_cons_of_mem _ hz)) (fun z hz => hy z (List.mem_cons_of_mem _ hz)) h.2 h.2]
        have : a = b := by omega
        rw [this]
  · intro h; rw [h]
def sameOp (a b : S62) : Bool := decide (a.f0 = b.f0) && (decide (a.f1.toList = b.f1.toList) && (decide (a.f2.toList = b.f2.toList) && (decide (a.f3 = b.f3) && (decide (a.f4 = b.f4) && (decide (a.f5 = b.f5) && (decide (a.f6 = b.f6) && decide (a.f7 = b.f7)))))))
theorem ev_implsameOp (a b : S62) (ha : okIOp a) : Ev (fun k => impl_sameOp.f k a.f0 a.f1 a.f2 a.f3 a.f4 a.f5 a.f6 a.f7 b.f0 b.f1 b.f2 b.f3 b.f4 b.f5 b.f6 b.f7) (sameOp a b) := by
  unfold impl_sameOp.f sameOp
  by_cases h0 : a.f0 = b.f0
  case neg => rw [decide_eq_false h0]; exact Ev.neg h0 (Ev.now _)
  by_cases h1 : a.f1.toList = b.f1.toList
  case neg => rw [decide_eq_true h0, decide_eq_false h1]; exact Ev.pos h0 (Ev.neg h1 (Ev.now _))
  by_cases h2 : a.f2.toList = b.f2.toList
  case neg => rw [decide_eq_true h0, decide_eq_true h1, decide_eq_false h2]; exact Ev.pos h0 (Ev.pos h1 (Ev.neg h2 (Ev.now _)))
  rw [decide_eq_true h0, decide_eq_true h1, decide_eq_true h2]
  simp only [Bool.true_and]
  refine Ev.pos h0 (Ev.pos h1 (Ev.pos h2 (Ev.bind (ev_slicesEqual_int64 a.f3 b.f3 ha.2.2.1) ?_)))
  by_cases h3 : a.f3 = b.f3
  case neg => rw [decide_eq_false h3]; exact Ev.neg (by simp) (Ev.now _)
  rw [decide_eq_true h3]
  refine Ev.pos rfl ?_
  by_cases h4 : a.f4 = b.f4
  case neg => rw [decide_eq_false h4]; exact Ev.neg h4 (Ev.now _)
  by_cases h5 : a.f5 = b.f5
  case neg => rw [decide_eq_true h4, decide_eq_false h5]; exact Ev.pos h4 (Ev.neg h5 (Ev.now _))
  by_cases h6 : a.f6 = b.f6
  case neg => rw [decide_eq_true h4, decide_eq_true h5, decide_eq_false h6]; exact Ev.pos h4 (Ev.pos h5 (Ev.neg h6 (Ev.now _)))
  rw [decide_eq_true h4, decide_eq_true h5, decide_eq_true h6]
  simp only [Bool.true_and]
  exact Ev.pos h4 (Ev.pos h5 (Ev.pos h6 (Ev.bind (ev_slicesEqual_byte a.f7 b.f7 ha.2.2.2) (Ev.now _))))
theorem ev_l8SameOp (a b : S62) (l l' : List S62) (ha : okIOp a) (ba : Bytes a.f7) (bb : Bytes b.f7) : Ev (fun k => spec_l8SameOp.f k (a :: l) (b :: l')) (sameOp a b) := by
  have e : rd_T62 (a :: l) 0 = a := rfl
  have e' : rd_T62 (b :: l') 0 = b := rfl
  have hp : (0 : Int) < ((a :: l).length : Int) := by simp only [List.length_cons]; omega
  have hp' : (0 : Int) < ((b :: l').length : Int) := by simp only [List.length_cons]; omega
  have no : Ev (fun k => spec_l8SameOp.j0 k (a :: l) (b :: l') true) false := by
    refine Ev.succ ?_
    simp only [spec_l8SameOp.j0, if_true]
    exact Ev.now _
  unfold spec_l8SameOp.f
  simp only [e, e']
  refine Ev.pos hp (Ev.pos hp' ?_)
  by_cases h0 : a.f0 = b.f0
  case neg => rw [show sameOp a b = false by simp [sameOp, h0]]; exact Ev.neg h0 no
  by_cases h1 : a.f1.toList = b.f1.toList
  case neg => rw [show sameOp a b = false by simp [sameOp, h1]]; exact Ev.pos h0 (Ev.neg h1 no)
  by_cases h2 : a.f2.toList = b.f2.toList
  case neg => rw [show sameOp a b = false by simp [sameOp, h2]]; exact Ev.pos h0 (Ev.pos h1 (Ev.neg h2 no))
  by_cases h4 : a.f4 = b.f4
  case neg => rw [show sameOp a b = false by simp [sameOp, h4]]; exact Ev.pos h0 (Ev.pos h1 (Ev.pos h2 (Ev.neg h4 no)))
  by_cases h5 : a.f5 = b.f5
  case neg => rw [show sameOp a b = false by simp [sameOp, h5]]; exact Ev.pos h0 (Ev.pos h1 (Ev.pos h2 (Ev.pos h4 (Ev.neg h5 no))))
  by_cases h6 : a.f6 = b.f6
  case neg => rw [show sameOp a b = false by simp [sameOp, h6]]; exact Ev.pos h0 (Ev.pos h1 (Ev.pos h2 (Ev.pos h4 (Ev.pos h5 (Ev.neg h6 no)))))
  by_cases h7 : a.f7 = b.f7
  case neg => rw [show sameOp a b = false by simp [sameOp, h7]]; exact Ev.pos h0 (Ev.pos h1 (Ev.pos h2 (Ev.pos h4 (Ev.pos h5 (Ev.pos h6 (Ev.neg (fun h => h7 ((str_inj _ _ ba bb).1 h)) no))))))
  refine Ev.pos h0 (Ev.pos h1 (Ev.pos h2 (Ev.pos h4 (Ev.pos h5 (Ev.pos h6 (Ev.pos ((str_inj _ _ ba bb).2 h7) ?_))))))
  have es : sameOp a b = decide (a.f3 = b.f3) := by simp [sameOp, h0, h1, h2, h4, h5, h6, h7]
  rw [es]
  by_cases hl : a.f3.length = b.f3.length
  case neg =>
    rw [decide_eq_false (fun h => hl (by rw [h])), show ((a.f3.length : Int) != (b.f3.length : Int)) = true by simp; omega]
    exact no
  rw [show ((a.f3.length : Int) != (b.f3.length : Int)) = false by simp; omega, ← sameL_eq]
  refine Ev.succ ?_
  simp only [spec_l8SameOp.j0]
  refine Ev.neg (by simp) ?_
  refine ev_sameL (fun k i => spec_l8SameOp.l0 k (a :: l) (b :: l') i) a.f3 b.f3 _ hl ?_ ?_ ?_
  · refine Ev.succ ?_
    simp only [spec_l8SameOp.l0, e, Int.lt_irrefl, if_false]
    exact Ev.pos hp (Ev.now _)
  · intro i hi hj hq
    refine Ev.succ ?_
    simp only [spec_l8SameOp.l0, e, e', rd_get a.f3 i hi, rd_get b.f3 i hj]
    exact Ev.pos hp (Ev.pos (by omega) (Ev.pos (by omega) (Ev.pos hp' (Ev.pos (by omega) (Ev.neg (of_decide_eq_false hq) (Ev.now _))))))
  · intro i hi hj hq r h
    have hbig := ha.2.2.1
    refine Ev.succ ?_
    simp only [spec_l8SameOp.l0, e, e', rd_get a.f3 i hi, rd_get b.f3 i hj, wsucc hi (show a.f3.length ≤ 281474976710656 by omega)]
    exact Ev.pos hp (Ev.pos (by omega) (Ev.pos (by omega) (Ev.pos hp' (Ev.pos (by omega) (Ev.pos (of_decide_eq_true hq) h)))))
theorem ev_specSameOps (x y : List S62) (hx : ∀ a ∈ x, okIOp a) (bx : ∀ a ∈ x, Bytes a.f7) (by_ : ∀ a ∈ y, Bytes a.f7) (hl : x.length ≤ 1048576) : Ev (fun k => spec_SameOps.f k x y) (sameL sameOp x y) := by
  unfold spec_SameOps.f
  by_cases hxy : x.length = y.length
  case neg => rw [sameL_ne _ _ _ hxy]; exact Ev.neg (by omega) (Ev.now _)
  refine Ev.pos (by omega) ?_
  have one : ∀ (i : Nat) (hi : i < x.length) (hj : i < y.length), Ev (fun k => spec_l8SameOp.f k (x.drop i) (y.drop i)) (sameOp x[i] y[i]) := by
    intro i hi hj
    rw [List.drop_eq_getElem_cons hi, List.drop_eq_getElem_cons hj]
    exact ev_l8SameOp _ _ _ _ (hx _ (List.getElem_mem hi)) (bx _ (List.getElem_mem hi)) (by_ _ (List.getElem_mem hj))
  refine ev_sameL (fun k i => spec_SameOps.l0 k x y i) x y sameOp hxy ?_ ?_ ?_
  · refine Ev.succ ?_
    simp only [spec_SameOps.l0, Int.lt_irrefl, if_false]
    exact Ev.now _
  · intro i hi hj hq
    refine Ev.succ ?_
    simp only [spec_SameOps.l0, Int.toNat_natCast]
    refine Ev.pos (by omega) (Ev.pos (by omega) (Ev.pos (by omega) (Ev.bind (one i hi hj) (Ev.neg (by simp [hq]) (Ev.now _)))))
  · intro i hi hj hq r h
    refine Ev.succ ?_
    simp only [spec_SameOps.l0, Int.toNat_natCast, wsucc hi (show x.length ≤ 281474976710656 by omega)]
    exact Ev.pos (by omega) (Ev.pos (by omega) (Ev.pos (by omega) (Ev.bind (one i hi hj) (Ev.pos hq h))))
theorem ev_implSameOps (x y : List S62) (hx : ∀ a ∈ x, okIOp a) (hl : x.length ≤ 1048576) : Ev (fun k => impl_SameOps.f k x y) (sameL sameOp x y) := by
  unfold impl_SameOps.f
  refine Ev.bind ?_ (Ev.now _)
  unfold impl_Op_v0.f
  by_cases hxy : x.length = y.length
  case neg => rw [sameL_ne _ _ _ hxy]; exact Ev.neg (by omega) (Ev.now _)
  refine Ev.pos (by omega) ?_
  refine ev_sameL (fun k i => impl_Op_v0.l0 k y x (x.length : Int) i) x y sameOp hxy ?_ ?_ ?_
  · refine Ev.succ ?_
    simp only [impl_Op_v0.l0, Int.lt_irrefl, if_false]
    exact Ev.now _
  · intro i hi hj hq
    refine Ev.succ ?_
    simp only [impl_Op_v0.l0, rd_Op_get x i hi, rd_Op_get y i hj]
    exact Ev.pos (by omega) (Ev.pos (by omega) (Ev.pos (by omega) (Ev.pos (by omega) (Ev.bind (ev_implsameOp _ _ (hx _ (List.getElem_mem hi))) (Ev.neg (by simp [hq]) (Ev.now _))))))
  · intro i hi hj hq r h
    refine Ev.succ ?_
    simp only [impl_Op_v0.l0, rd_Op_get x i hi, rd_Op_get y i hj, wsucc hi (show x.length ≤ 281474976710656 by omega)]
    exact Ev.pos (by omega) (Ev.pos (by omega) (Ev.pos (by omega) (Ev.pos (by omega) (Ev.bind (ev_implsameOp _ _ (hx _ (List.getElem_mem hi))) (Ev.pos hq h)))))
theorem FnExactSameOps : ∀ (l0 : List (S57)) (l1 : List (S57)), (l0.length * 112 ≤ 140737488351232 ∧ ∀ x1_ ∈ l0, ((Lit.int .i64 x1_.f0).wf = true ∧ x1_.f1.size ≤ 140737488351232 ∧ x1_.f2.size ≤ 140737488351232 ∧ (x1_.f3.length * 8 ≤ 140737488351232 ∧ ∀ x2_ ∈ x1_.f3, (Lit.int .i64 x2_).wf = true) ∧ (Lit.int .i64 x1_.f4).wf = true ∧ (Lit.int .i64 x1_.f5).wf = true ∧ (Lit.int .i64 x1_.f6).wf = true ∧ (x1_.f7.length * 1 ≤ 140737488351232 ∧ ∀ x2_ ∈ x1_.f7, (Lit.int .u8 x2_).wf = true))) → (l1.length * 112 ≤ 140737488351232 ∧ ∀ x1_ ∈ l1, ((Lit.int .i64 x1_.f0).wf = true ∧ x1_.f1.size ≤ 140737488351232 ∧ x1_.f2.size ≤ 140737488351232 ∧ (x1_.f3.length * 8 ≤ 140737488351232 ∧ ∀ x2_ ∈ x1_.f3, (Lit.int .i64 x2_).wf = true) ∧ (Lit.int .i64 x1_.f4).wf = true ∧ (Lit.int .i64 x1_.f5).wf = true ∧ (Lit.int .i64 x1_.f6).wf = true ∧ (x1_.f7.length * 1 ≤ 140737488351232 ∧ ∀ x2_ ∈ x1_.f7, (Lit.int .u8 x2_).wf = true))) → ∃ k, laws_FnExactSameOps.f k l0 l1 = some true := by
  rintro x y ⟨hx, hinx⟩ ⟨hy, hiny⟩
  apply Ev.get
  unfold laws_FnExactSameOps.f
  have big : ∀ (x : List S57), (∀ a ∈ x, bigOp a) → True := fun _ _ => trivial
  have bigx : ∀ a ∈ x, bigOp a := fun a ha => by
    have h := hinx a ha
    exact ⟨h.2.1, h.2.2.1, by omega, by omega⟩
  have bigy : ∀ a ∈ y, bigOp a := fun a ha => by
    have h := hiny a ha
    exact ⟨h.2.1, h.2.2.1, by omega, by omega⟩
  obtain ⟨r, hr, hr'⟩ := ev_szOpS x (by omega) bigx 1048576 (by omega) (by omega)
  refine Ev.bind hr ?_
  rcases hr' with h | ⟨h0, h1, hxl, hxo⟩
  · exact Ev.pos h (Ev.now _)
  obtain ⟨r', hs, hs'⟩ := ev_szOpS y (by omega) bigy r (by omega) (by omega)
  refine Ev.neg (by omega) (Ev.bind hs ?_)
  rcases hs' with h | ⟨h2, h3, hyl, hyo⟩
  · exact Ev.pos h (Ev.now _)
  have hlx : (x.map cvOp).length ≤ 1048576 := by simpa using hxl
  have hly : (y.map cvOp).length ≤ 1048576 := by simpa using hyl
  have tx := ev_toOpS x hxl hxo
  have ty := ev_toOpS y hyl hyo
  have bx : ∀ a ∈ x.map cvOp, Bytes a.f7 := by
    intro a ha
    obtain ⟨z, hz, rfl⟩ := List.mem_map.1 ha
    intro b hb
    have := (hinx z hz).2.2.2.2.2.2.2.2 b hb
    simp only [Lit.wf, Bool.and_eq_true, decide_eq_true_eq] at this
    exact this
  have by_ : ∀ a ∈ y.map cvOp, Bytes a.f7 := by
    intro a ha
    obtain ⟨z, hz, rfl⟩ := List.mem_map.1 ha
    intro b hb
    have := (hiny z hz).2.2.2.2.2.2.2.2 b hb
    simp only [Lit.wf, Bool.and_eq_true, decide_eq_true_eq] at this
    exact this
  refine Ev.neg (by omega) (Ev.bind tx (Ev.bind ty (Ev.bind (ev_specSameOps _ _ (okIOp_cv hxo) bx by_ hlx) (Ev.bind tx (Ev.bind ty (Ev.bind (ev_implSameOps _ _ (okIOp_cv hxo) hlx) (Ev.neg (by simp) ?_)))))))
  exact Ev.bind tx (Ev.bind (ev_eqOpS _ hlx (okIOp_cv hxo)) (Ev.pos rfl (Ev.bind ty (Ev.bind (ev_eqOpS _ hly (okIOp_cv hyo)) (Ev.pos rfl (Ev.now _))))))

end Go.Proofs.Ytlneiofnmbcheaa.Pure

/- The bytes of ops: the program and the reference say the same, and the answer owns its memory. Conditions: the sizes that the statement gives. -/
import Derived.Test.YtehdbobpbcjmeaaPFnExactPackOpsx12
import Derived.Test.YtehdbobpbcjmeaaVFnExactPackOpsU
namespace Go.Proofs.Ytehdbobpbcjmeaa.Pure
open Go.RowKit Go.Proofs.Ytehdbobpbcjmeaa.PFnExactPackOps Go.Proofs.YtehdbobpbcjmeaaW.PrintWords Go.Proofs.YtehdbobpbcjmeaaW.PrintLast Go.Proofs.Ytehdbobpbcjmeaa.U
set_option linter.unusedSimpArgs false
set_option linter.unusedVariables false

def okIOp (x : S37) : Prop := x.f1.size ≤ 1048576 ∧ x.f2.size ≤ 1048576 ∧ x.f3.length ≤ 1048576 ∧ x.f7.length ≤ 1048576
theorem rd_Op_get (x : List S37) (i : Nat) (h : i < x.length) : rd_T37 x (i : Int) = x[i] := by simp [rd_T37, List.getD_eq_getElem?_getD, h]
def cvOp (x : S57) : S37 := ⟨x.f0, x.f1, x.f2, x.f3, x.f4, x.f5, x.f6, x.f7⟩
def bigOp (x : S57) : Prop := x.f1.size ≤ 140737488351232 ∧ x.f2.size ≤ 140737488351232 ∧ x.f3.length ≤ 140737488351232 ∧ x.f7.length ≤ 140737488351232
def okOp (x : S57) : Prop := x.f1.size ≤ 1048576 ∧ x.f2.size ≤ 1048576 ∧ x.f3.length ≤ 1048576 ∧ x.f7.length ≤ 1048576
theorem okIOp_cv {x : List S57} (hin : ∀ y ∈ x, okOp y) : ∀ y ∈ x.map cvOp, okIOp y := by
  intro y hy
  obtain ⟨z, hz, rfl⟩ := List.mem_map.1 hy
  exact hin z hz
theorem rd_lOp_get (x : List S57) (i : Nat) (h : i < x.length) : rd_T57 x (i : Int) = x[i] := by simp [rd_T57, List.getD_eq_getElem?_getD, h]
theorem szInt64S_eq (x : List Int) (m : Int) (hx : x.length ≤ 140737488351232) (h0 : 0 ≤ m) (h1 : m ≤ 1048576) : laws_szInt64S.f x m = some (if m - x.length < 0 then -1 else m - x.length) := by
  unfold laws_szInt64S.f
  rw [wid (by omega) (by omega)]
  split <;> rfl
theorem szByteS_eq (x : List Int) (m : Int) (hx : x.length ≤ 140737488351232) (h0 : 0 ≤ m) (h1 : m ≤ 1048576) : laws_szByteS.f x m = some (if m - x.length < 0 then -1 else m - x.length) := by
  unfold laws_szByteS.f
  rw [wid (by omega) (by omega)]
  split <;> rfl
theorem ev_toInt64S (x : List Int) (hx : x.length ≤ 1048576) : Ev (fun k => laws_toInt64S.f k x) x := by
  unfold laws_toInt64S.f
  have h := ev_copy (fun k y i => laws_toInt64S.l0 k x y i) x (fun a => a) (fun y => y) ?_ ?_ (List.replicate x.length 0) (by simp)
  · simp only [List.map_id'] at h
    refine Ev.pos (by omega) (Ev.pos (by omega) ?_)
    simp only [Int.toNat_natCast]
    exact h
  · refine Ev.succ ?_
    simp only [laws_toInt64S.l0, Int.lt_irrefl, if_false]
    exact Ev.now _
  · intro i hi y hy r h
    refine Ev.succ ?_
    simp only [laws_toInt64S.l0]
    refine Ev.pos (by omega) (Ev.pos (by omega) (Ev.pos (by omega) ?_))
    simp only [Int.toNat_natCast, rd_get x i hi, wsucc hi (show x.length ≤ 281474976710656 by omega)]
    exact h
theorem ev_toByteS (x : List Int) (hx : x.length ≤ 1048576) : Ev (fun k => laws_toByteS.f k x) x := by
  unfold laws_toByteS.f
  have h := ev_copy (fun k y i => laws_toByteS.l0 k x y i) x (fun a => a) (fun y => y) ?_ ?_ (List.replicate x.length 0) (by simp)
  · simp only [List.map_id'] at h
    refine Ev.pos (by omega) (Ev.pos (by omega) ?_)
    simp only [Int.toNat_natCast]
    exact h
  · refine Ev.succ ?_
    simp only [laws_toByteS.l0, Int.lt_irrefl, if_false]
    exact Ev.now _
  · intro i hi y hy r h
    refine Ev.succ ?_
    simp only [laws_toByteS.l0]
    refine Ev.pos (by omega) (Ev.pos (by omega) (Ev.pos (by omega) ?_))
    simp only [Int.toNat_natCast, rd_get x i hi, wsucc hi (show x.length ≤ 281474976710656 by omega)]
    exact h
theorem ev_eqInt64S (x : List Int) (hx : x.length ≤ 1048576) : Ev (fun k => laws_eqInt64S.f k x x) true := by
  unfold laws_eqInt64S.f
  refine Ev.pos rfl ?_
  refine ev_iter (fun k (_ : Unit) i => laws_eqInt64S.l0 k x x i) x.length (fun _ => ()) true ?_ ?_
  · refine Ev.succ ?_
    simp only [laws_eqInt64S.l0, Int.lt_irrefl, if_false]
    exact Ev.now _
  · intro i hi r h
    refine Ev.succ ?_
    simp only [laws_eqInt64S.l0]
    refine Ev.pos (by omega) (Ev.pos (by omega) (Ev.pos (by omega) (Ev.pos trivial ?_)))
    simp only [wsucc hi (show x.length ≤ 281474976710656 by omega)]
    exact h
theorem ev_eqByteS (x : List Int) (hx : x.length ≤ 1048576) : Ev (fun k => laws_eqByteS.f k x x) true := by
  unfold laws_eqByteS.f
  refine Ev.pos rfl ?_
  refine ev_iter (fun k (_ : Unit) i => laws_eqByteS.l0 k x x i) x.length (fun _ => ()) true ?_ ?_
  · refine Ev.succ ?_
    simp only [laws_eqByteS.l0, Int.lt_irrefl, if_false]
    exact Ev.now _
  · intro i hi r h
    refine Ev.succ ?_
    simp only [laws_eqByteS.l0]
    refine Ev.pos (by omega) (Ev.pos (by omega) (Ev.pos (by omega) (Ev.pos trivial ?_)))
    simp only [wsucc hi (show x.length ≤ 281474976710656 by omega)]
    exact h
theorem ev_szOp (y : S57) (hy : bigOp y) (m : Int) (h0 : 0 ≤ m) (h1 : m ≤ 1048576) : ∃ r, Ev (fun _ => laws_szOp.f y.f0 y.f1 y.f2 y.f3 y.f4 y.f5 y.f6 y.f7 m) r ∧ (r < 0 ∨ (0 ≤ r ∧ r ≤ m ∧ okOp y)) := by
  obtain ⟨b1, b2, b3, b7⟩ := hy
  unfold laws_szOp.f okOp
  simp only [wid (x := m - y.f1.size) (by omega) (by omega), wid (x := m - y.f1.size - y.f2.size) (by omega) (by omega)]
  by_cases c1 : m - (y.f1.size : Int) < 0
  · exact ⟨-1, Ev.pos c1 (Ev.now _), .inl (by omega)⟩
  by_cases c2 : m - (y.f1.size : Int) - (y.f2.size : Int) < 0
  · exact ⟨-1, Ev.neg c1 (Ev.pos c2 (Ev.now _)), .inl (by omega)⟩
  rw [szInt64S_eq y.f3 (m - y.f1.size - y.f2.size) b3 (by omega) (by omega)]
  simp only [Option.bind_some]
  by_cases c3 : m - (y.f1.size : Int) - (y.f2.size : Int) - (y.f3.length : Int) < 0
  · rw [if_pos c3]
    exact ⟨-1, Ev.neg c1 (Ev.neg c2 (Ev.pos (by omega) (Ev.now _))), .inl (by omega)⟩
  rw [if_neg c3, szByteS_eq y.f7 (m - y.f1.size - y.f2.size - y.f3.length) b7 (by omega) (by omega)]
  simp only [Option.bind_some]
  by_cases c4 : m - (y.f1.size : Int) - (y.f2.size : Int) - (y.f3.length : Int) - (y.f7.length : Int) < 0
  · rw [if_pos c4]
    exact ⟨-1, Ev.neg c1 (Ev.neg c2 (Ev.neg (by omega) (Ev.pos (by omega) (Ev.now _)))), .inl (by omega)⟩
  · rw [if_neg c4]
    exact ⟨_, Ev.neg c1 (Ev.neg c2 (Ev.neg (by omega) (Ev.neg (by omega) (Ev.now _)))), .inr ⟨by omega, by omega, by omega, by omega, by omega, by omega⟩⟩
theorem ev_toOp (y : S57) (hy : okOp y) : Ev (fun k => laws_toOp.f k y.f0 y.f1 y.f2 y.f3 y.f4 y.f5 y.f6 y.f7) (y.f0, y.f1, y.f2, y.f3, y.f4, y.f5, y.f6, y.f7) := by
  unfold laws_toOp.f
  exact Ev.bind (ev_toInt64S _ hy.2.2.1) (Ev.bind (ev_toByteS _ hy.2.2.2) (Ev.now _))
theorem ev_eqOp (y : S37) (hy : okIOp y) : Ev (fun k => laws_eqOp.f k y.f0 y.f1 y.f2 y.f3 y.f4 y.f5 y.f6 y.f7 y.f0 y.f1 y.f2 y.f3 y.f4 y.f5 y.f6 y.f7) true := by
  unfold laws_eqOp.f
  refine Ev.pos rfl (Ev.pos rfl (Ev.pos rfl (Ev.bind (ev_eqInt64S _ hy.2.2.1) (Ev.pos rfl (Ev.pos rfl (Ev.pos rfl (Ev.pos rfl ?_)))))))
  exact Ev.bind (ev_eqByteS _ hy.2.2.2) (Ev.pos rfl (Ev.now _))
theorem ev_szOpS (x : List S57) (hx : x.length ≤ 140737488351232) (hin : ∀ y ∈ x, bigOp y) (m : Int) (h0 : 0 ≤ m) (h1 : m ≤ 1048576) :
    ∃ r, Ev (fun k => laws_szOpS.f k x m) r ∧ (r < 0 ∨ (0 ≤ r ∧ r ≤ m ∧ x.length ≤ 1048576 ∧ ∀ y ∈ x, okOp y)) := by
  unfold laws_szOpS.f
  simp only [wid (x := m - x.length) (by omega) (by omega)]
  by_cases hn : m - (x.length : Int) < 0
  · exact ⟨-1, Ev.pos hn (Ev.now _), .inl (by omega)⟩
  suffices H : ∃ r, Ev (fun k => laws_szOpS.l0 k x (m - x.length) 0) r ∧ (r < 0 ∨ (0 ≤ r ∧ r ≤ m - x.length ∧ ∀ a ∈ x, okOp a)) by
    obtain ⟨r, hr, hr'⟩ := H
    refine ⟨r, Ev.neg hn hr, ?_⟩
    rcases hr' with h | ⟨a, b, c⟩
    · exact .inl h
    · exact .inr ⟨a, by omega, by omega, c⟩
  refine ev_szL (fun k m i => laws_szOpS.l0 k x m i) x okOp ?_ ?_ (m - x.length) (by omega) (by omega)
  · intro m hm
    refine Ev.succ ?_
    simp only [laws_szOpS.l0, Int.lt_irrefl, if_false]
    exact Ev.now _
  · intro i hi m hm0 hm1
    obtain ⟨r, hr, hr'⟩ := ev_szOp x[i] (hin x[i] (List.getElem_mem hi)) m hm0 hm1
    refine ⟨r, hr', ?_, ?_⟩
    · intro hneg
      refine Ev.succ ?_
      simp only [laws_szOpS.l0, rd_lOp_get x i hi]
      exact Ev.pos (by omega) (Ev.pos (by omega) (Ev.bind hr (Ev.pos hneg (Ev.now _))))
    · intro hpos q hq
      refine Ev.succ ?_
      simp only [laws_szOpS.l0, rd_lOp_get x i hi, wsucc hi (show x.length ≤ 281474976710656 by omega)]
      exact Ev.pos (by omega) (Ev.pos (by omega) (Ev.bind hr (Ev.neg (by omega) hq)))
theorem ev_toOpS (x : List S57) (hx : x.length ≤ 1048576) (hin : ∀ y ∈ x, okOp y) : Ev (fun k => laws_toOpS.f k x) (x.map cvOp) := by
  unfold laws_toOpS.f
  have h := ev_copy (fun k y i => laws_toOpS.l0 k x y i) x cvOp (fun y => y) ?_ ?_ (List.replicate x.length z37) (by simp)
  · refine Ev.pos (by omega) (Ev.pos (by omega) ?_)
    simp only [Int.toNat_natCast]
    exact h
  · refine Ev.succ ?_
    simp only [laws_toOpS.l0, Int.lt_irrefl, if_false]
    exact Ev.now _
  · intro i hi y hy r h
    refine Ev.succ ?_
    simp only [laws_toOpS.l0, rd_lOp_get x i hi]
    refine Ev.pos (by omega) (Ev.pos (by omega) (Ev.bind (ev_toOp _ (hin _ (List.getElem_mem hi))) (Ev.pos (by omega) ?_)))
    simp only [Int.toNat_natCast, wsucc hi (show x.length ≤ 281474976710656 by omega)]
    exact h
theorem ev_eqOpS (x : List S37) (hx : x.length ≤ 1048576) (hin : ∀ y ∈ x, okIOp y) : Ev (fun k => laws_eqOpS.f k x x) true := by
  unfold laws_eqOpS.f
  refine Ev.pos rfl ?_
  refine ev_iter (fun k (_ : Unit) i => laws_eqOpS.l0 k x x i) x.length (fun _ => ()) true ?_ ?_
  · refine Ev.succ ?_
    simp only [laws_eqOpS.l0, Int.lt_irrefl, if_false]
    exact Ev.now _
  · intro i hi r h
    refine Ev.succ ?_
    simp only [laws_eqOpS.l0, rd_Op_get x i hi]
    refine Ev.pos (by omega) (Ev.pos (by omega) (Ev.pos (by omega) (Ev.bind (ev_eqOp _ (hin _ (List.getElem_mem hi))) (Ev.pos rfl ?_))))
    simp only [wsucc hi (show x.length ≤ 281474976710656 by omega)]
    exact h
def isWord (s : ByteArray) (most : Int) : Bool := (List.range s.size).all (fun i => decide (97 ≤ bt s (i : Int) ∧ bt s (i : Int) ≤ 122)) && decide (1 ≤ (s.size : Int) ∧ (s.size : Int) ≤ most)
def copiesOp (o : S37) : Bool := decide (o.f0 = 5) || decide (o.f0 = 6)
def onlyOp (o : S37) : Bool := (copiesOp o || decide (o.f2.toList = [])) && (((copiesOp o || decide (o.f0 = 4)) || decide (o.f3.length = 0)) && ((decide (o.f0 = 4) || decide (o.f4 = 0)) && ((decide (o.f0 = 4) || (decide (o.f0 = 3) || decide (o.f5 = 0))) && (decide (o.f0 = 3) || (decide (o.f6 = 0) && decide (o.f7.length = 0))))))
def formOp (o : S37) : Bool := decide (1 ≤ o.f0 ∧ o.f0 ≤ 7) && onlyOp o
def nameOp (o : S37) : Bool := isWord o.f1 8 && (!copiesOp o || isWord o.f2 8)
def uidStep (x : List Int) (i : Nat) : Option Bool := if 1 ≤ rd x (i : Int) ∧ rd x (i : Int) ≤ 999 then (if 0 < i ∧ rd x (i : Int) ≤ rd x ((i - 1 : Nat) : Int) then some false else none) else some false
def uidsOk (x : List Int) : Bool := ((List.range x.length).findSome? (uidStep x)).getD true
def rangeOp (o : S37) : Bool := uidsOk o.f3 && ((!decide (o.f0 = 4) || decide (1 ≤ o.f4 ∧ o.f4 ≤ 3)) && (decide (0 ≤ o.f5 ∧ o.f5 ≤ 15) && decide (0 ≤ o.f6 ∧ o.f6 ≤ 9999)))
def lateFault (o : S37) (b : Bool) : Int := if b = true then 3 else if 400 < o.f7.length then 2 else 0
def midFault (o : S37) (b : Bool) : Int := if b = true then 5 else if 6 < o.f3.length then 2 else lateFault o (!rangeOp o)
def opFault (o : S37) : Int := if formOp o = true then midFault o (!nameOp o) else 1
theorem kinds (n : Int) : n = 5 ∨ n = 6 ∨ n = 4 ∨ n = 3 ∨ (n ≠ 5 ∧ n ≠ 6 ∧ n ≠ 4 ∧ n ≠ 3) := by omega
theorem ev_isSmallWord (s : ByteArray) (most : Int) (hs : s.size ≤ 281474976710656) : Ev (fun k => impl_isSmallWord.f k s most) (isWord s most) := by
  unfold impl_isSmallWord.f isWord
  have h := ev_findI (fun k i => impl_isSmallWord.l0 k s most (s.size : Int) i) s.size (fun i => if decide (97 ≤ bt s (i : Int) ∧ bt s (i : Int) ≤ 122) = true then none else some false) (decide (1 ≤ (s.size : Int) ∧ (s.size : Int) ≤ most)) ?_ ?_ ?_
  · rw [find_guard] at h
    by_cases hall : (List.range s.size).all (fun i => decide (97 ≤ bt s (i : Int) ∧ bt s (i : Int) ≤ 122)) = true
    · rw [if_pos hall] at h; rw [hall, Bool.true_and]; exact h
    · rw [if_neg hall] at h; rw [Bool.not_eq_true] at hall; rw [hall, Bool.false_and]; exact h
  · refine Ev.succ ?_
    simp only [impl_isSmallWord.l0, Int.lt_irrefl, if_false]
    by_cases h1 : 1 ≤ (s.size : Int)
    · refine Ev.pos h1 ?_; simp only [h1, true_and]; exact Ev.now _
    · refine Ev.neg h1 ?_; simp only [h1, false_and, decide_false]; exact Ev.now _
  · intro i hi r hr
    by_cases hc : 97 ≤ bt s (i : Int) ∧ bt s (i : Int) ≤ 122
    · rw [if_pos (decide_eq_true hc)] at hr; cases hr
    rw [if_neg (by simpa using hc)] at hr; cases hr
    refine Ev.succ ?_
    simp only [impl_isSmallWord.l0]
    refine Ev.pos (by omega) (Ev.pos (by omega) (Ev.pos (by omega) ?_))
    by_cases h1 : bt s (i : Int) < 97
    · exact Ev.pos h1 (Ev.now _)
    · exact Ev.neg h1 (Ev.pos (by omega) (Ev.now _))
  · intro i hi hr r h
    by_cases hc : 97 ≤ bt s (i : Int) ∧ bt s (i : Int) ≤ 122
    case neg => rw [if_neg (by simpa using hc)] at hr; cases hr
    refine Ev.succ ?_
    simp only [impl_isSmallWord.l0]
    refine Ev.pos (by omega) (Ev.pos (by omega) (Ev.pos (by omega) (Ev.neg (by omega) (Ev.neg (by omega) ?_))))
    simp only [wsucc hi (show s.size ≤ 281474976710656 by omega)]
    exact h
theorem within_eq (a b c : Int) : impl_within.f a b c = some (decide (b ≤ a ∧ a ≤ c)) := by
  unfold impl_within.f
  by_cases h : b ≤ a <;> simp [h]
theorem hasTo_eq (o : S37) : impl_Op_hasTo.f o.f0 o.f1 o.f2 o.f3 o.f4 o.f5 o.f6 o.f7 = some (copiesOp o) := by
  unfold impl_Op_hasTo.f copiesOp
  by_cases h : o.f0 = 5 <;> simp [h]
  by_cases h : o.f0 = 6 <;> simp [h]
theorem hasUids_eq (o : S37) : impl_Op_hasUids.f o.f0 o.f1 o.f2 o.f3 o.f4 o.f5 o.f6 o.f7 = some (copiesOp o || decide (o.f0 = 4)) := by
  unfold impl_Op_hasUids.f
  rw [hasTo_eq]
  cases copiesOp o <;> simp
  by_cases h : o.f0 = 4 <;> simp [h]
theorem isOnly_eq (o : S37) : impl_Op_isOnly.f o.f0 o.f1 o.f2 o.f3 o.f4 o.f5 o.f6 o.f7 = some (onlyOp o) := by
  unfold impl_Op_isOnly.f onlyOp
  rw [hasTo_eq, hasUids_eq]
  rcases kinds o.f0 with h | h | h | h | ⟨h5, h6, h4, h3⟩ <;> by_cases e2 : o.f2.toList = [] <;> by_cases e3 : o.f3.length = 0 <;> by_cases e4 : o.f4 = 0 <;> by_cases e5 : o.f5 = 0 <;> by_cases e6 : o.f6 = 0 <;> by_cases e7 : o.f7.length = 0 <;> simp_all [copiesOp]
theorem ev_isName (s : ByteArray) (hs : s.size ≤ 1048576) : Ev (fun k => impl_isName.f k s) (isWord s 8) := by
  unfold impl_isName.f
  exact Ev.bind (ev_isSmallWord s 8 (by omega)) (Ev.now _)
theorem ev_areUids (x : List Int) (hx : x.length ≤ 1048576) : Ev (fun k => impl_areUids.f k x) (uidsOk x) := by
  unfold impl_areUids.f uidsOk
  refine ev_findI (fun k i => impl_areUids.l0 k x x (x.length : Int) i) x.length (uidStep x) true ?_ ?_ ?_
  · refine Ev.succ ?_
    simp only [impl_areUids.l0, Int.lt_irrefl, if_false]
    exact Ev.now _
  · intro i hi r hr
    refine Ev.succ ?_
    simp only [impl_areUids.l0, impl_isUid.f, within_eq, Option.bind_some]
    refine Ev.pos (by omega) (Ev.pos (by omega) (Ev.pos (by omega) ?_))
    unfold uidStep at hr
    by_cases h1 : 1 ≤ rd x (i : Int) ∧ rd x (i : Int) ≤ 999
    case neg => rw [if_neg h1] at hr; cases hr; exact Ev.neg (by simpa using h1) (Ev.now _)
    rw [if_pos h1] at hr
    refine Ev.pos (decide_eq_true h1) ?_
    by_cases h2 : 0 < i ∧ rd x (i : Int) ≤ rd x ((i - 1 : Nat) : Int)
    case neg => rw [if_neg h2] at hr; cases hr
    rw [if_pos h2] at hr; cases hr
    simp only [wpred h2.1 (show i ≤ 281474976710656 by omega)]
    exact Ev.pos (by omega) (Ev.pos (by omega) (Ev.pos (by omega) (Ev.pos h2.2 (Ev.now _))))
  · intro i hi hr r h
    refine Ev.succ ?_
    simp only [impl_areUids.l0, impl_isUid.f, within_eq, Option.bind_some, wsucc hi (show x.length ≤ 281474976710656 by omega)]
    refine Ev.pos (by omega) (Ev.pos (by omega) (Ev.pos (by omega) ?_))
    unfold uidStep at hr
    by_cases h1 : 1 ≤ rd x (i : Int) ∧ rd x (i : Int) ≤ 999
    case neg => rw [if_neg h1] at hr; cases hr
    rw [if_pos h1] at hr
    refine Ev.pos (decide_eq_true h1) ?_
    by_cases h2 : 0 < i ∧ rd x (i : Int) ≤ rd x ((i - 1 : Nat) : Int)
    · rw [if_pos h2] at hr; cases hr
    by_cases h3 : 0 < i
    · simp only [wpred h3 (show i ≤ 281474976710656 by omega)]
      exact Ev.pos (by omega) (Ev.pos (by omega) (Ev.pos (by omega) (Ev.neg (fun q => h2 ⟨h3, q⟩) h)))
    · exact Ev.neg (by omega) h
theorem ev_implOpFault (o : S37) (ho : okIOp o) : Ev (fun k => impl_OpFault.f k o.f0 o.f1 o.f2 o.f3 o.f4 o.f5 o.f6 o.f7) (opFault o) := by
  have j2 : ∀ b, Ev (fun k => impl_OpFault.j2 k b o.f0 o.f1 o.f2 o.f3 o.f4 o.f5 o.f6 o.f7) (lateFault o b) := by
    intro b
    refine Ev.succ ?_
    simp only [impl_OpFault.j2, lateFault]
    exact Ev.ite (fun _ => Ev.now _) (fun _ => by
      by_cases h : 400 < o.f7.length
      · rw [if_pos h]; exact Ev.pos (by omega) (Ev.now _)
      · rw [if_neg h]; exact Ev.neg (by omega) (Ev.now _))
  have j1 : ∀ b, Ev (fun k => impl_OpFault.j1 k b o.f0 o.f1 o.f2 o.f3 o.f4 o.f5 o.f6 o.f7) (midFault o b) := by
    intro b
    refine Ev.succ ?_
    simp only [impl_OpFault.j1, midFault]
    refine Ev.ite (fun _ => Ev.now _) (fun _ => ?_)
    by_cases h6 : 6 < o.f3.length
    · rw [if_pos h6]; exact Ev.pos (by omega) (Ev.now _)
    rw [if_neg h6]
    refine Ev.neg (by omega) (Ev.bind (ev_areUids o.f3 ho.2.2.1) ?_)
    simp only [impl_areFlags.f, impl_isDate.f, within_eq, Option.bind_some]
    by_cases hu : uidsOk o.f3 = true
    case neg =>
      have : rangeOp o = false := by simp [rangeOp, hu]
      rw [this]; exact Ev.neg hu (j2 true)
    refine Ev.pos hu ?_
    by_cases hf : 0 ≤ o.f5 ∧ o.f5 ≤ 15
    case neg =>
      have e : rangeOp o = false := by simp only [rangeOp, decide_eq_false hf]; simp
      rw [e]
      by_cases h4 : o.f0 = 4
      · refine Ev.pos h4 ?_
        by_cases hm : 1 ≤ o.f4 ∧ o.f4 ≤ 3
        · exact Ev.pos (decide_eq_true hm) (Ev.neg (by simpa using hf) (j2 true))
        · exact Ev.neg (by simpa using hm) (j2 true)
      · exact Ev.neg h4 (Ev.neg (by simpa using hf) (j2 true))
    by_cases h4 : o.f0 = 4
    · refine Ev.pos h4 ?_
      by_cases hm : 1 ≤ o.f4 ∧ o.f4 ≤ 3
      · refine Ev.pos (decide_eq_true hm) (Ev.pos (decide_eq_true hf) ?_)
        have e : rangeOp o = decide (0 ≤ o.f6 ∧ o.f6 ≤ 9999) := by simp only [rangeOp, decide_eq_true hf, decide_eq_true hm, hu]; simp
        rw [e]; exact j2 _
      · have e : rangeOp o = false := by simp only [rangeOp, decide_eq_false hm, decide_eq_true h4]; simp
        rw [e]; exact Ev.neg (by simpa using hm) (j2 true)
    · refine Ev.neg h4 (Ev.pos (decide_eq_true hf) ?_)
      have e : rangeOp o = decide (0 ≤ o.f6 ∧ o.f6 ≤ 9999) := by simp only [rangeOp, decide_eq_true hf, decide_eq_false h4, hu]; simp
      rw [e]; exact j2 _
  have j0 : ∀ b, Ev (fun k => impl_OpFault.j0 k b o.f0 o.f1 o.f2 o.f3 o.f4 o.f5 o.f6 o.f7) (if b = true then 1 else midFault o (!nameOp o)) := by
    intro b
    refine Ev.succ ?_
    simp only [impl_OpFault.j0, hasTo_eq, Option.bind_some]
    refine Ev.ite (fun _ => Ev.now _) (fun _ => Ev.bind (ev_isName o.f1 ho.1) ?_)
    by_cases h1 : isWord o.f1 8 = true
    case neg => rw [show nameOp o = false by simp [nameOp, h1]]; exact Ev.neg h1 (j1 true)
    refine Ev.pos h1 ?_
    by_cases hc : copiesOp o = true
    · refine Ev.pos hc (Ev.bind (ev_isName o.f2 ho.2.1) ?_)
      rw [show nameOp o = isWord o.f2 8 by simp [nameOp, h1, hc]]
      exact j1 _
    · refine Ev.neg hc ?_
      rw [show nameOp o = true by simp [nameOp, h1, hc]]
      exact j1 false
  unfold impl_OpFault.f opFault
  simp only [within_eq, Option.bind_some, isOnly_eq]
  by_cases h1 : 1 ≤ o.f0 ∧ o.f0 ≤ 7
  case neg =>
    rw [show formOp o = false by simp only [formOp, decide_eq_false h1]; simp]
    exact Ev.neg (by simpa using h1) (j0 true)
  refine Ev.pos (decide_eq_true h1) ?_
  have h := j0 (!onlyOp o)
  rw [show formOp o = onlyOp o by simp only [formOp, decide_eq_true h1]; simp]
  cases ho' : onlyOp o <;> simp only [ho'] at h <;> exact h
theorem l1In_eq (a b c : Int) : spec_l1In.f a b c = some (decide (b ≤ a ∧ a ≤ c)) := by
  unfold spec_l1In.f
  by_cases h : b ≤ a <;> simp [h]
theorem ev_l7Name (s : ByteArray) (hs : s.size ≤ 281474976710656) : Ev (fun k => spec_l7Name.f k s) (isWord s 8) := by
  unfold spec_l7Name.f isWord
  have h := ev_findI (fun k i => spec_l7Name.l0 k s i) s.size (fun i => if decide (97 ≤ bt s (i : Int) ∧ bt s (i : Int) ≤ 122) = true then none else some false) (decide (1 ≤ (s.size : Int) ∧ (s.size : Int) ≤ 8)) ?_ ?_ ?_
  · rw [find_guard] at h
    by_cases hall : (List.range s.size).all (fun i => decide (97 ≤ bt s (i : Int) ∧ bt s (i : Int) ≤ 122)) = true
    · rw [if_pos hall] at h; rw [hall, Bool.true_and]; exact h
    · rw [if_neg hall] at h; rw [Bool.not_eq_true] at hall; rw [hall, Bool.false_and]; exact h
  · refine Ev.succ ?_
    simp only [spec_l7Name.l0, Int.lt_irrefl, if_false, l1In_eq, Option.bind_some]
    exact Ev.now _
  · intro i hi r hr
    by_cases hc : 97 ≤ bt s (i : Int) ∧ bt s (i : Int) ≤ 122
    · rw [if_pos (decide_eq_true hc)] at hr; cases hr
    rw [if_neg (by simpa using hc)] at hr; cases hr
    refine Ev.succ ?_
    simp only [spec_l7Name.l0]
    refine Ev.pos (by omega) (Ev.pos (by omega) ?_)
    by_cases h1 : bt s (i : Int) < 97
    · exact Ev.pos h1 (Ev.now _)
    · exact Ev.neg h1 (Ev.pos (by omega) (Ev.now _))
  · intro i hi hr r h
    by_cases hc : 97 ≤ bt s (i : Int) ∧ bt s (i : Int) ≤ 122
    case neg => rw [if_neg (by simpa using hc)] at hr; cases hr
    refine Ev.succ ?_
    simp only [spec_l7Name.l0]
    refine Ev.pos (by omega) (Ev.pos (by omega) (Ev.neg (by omega) (Ev.neg (by omega) ?_)))
    simp only [wsucc hi (show s.size ≤ 281474976710656 by omega)]
    exact h
theorem l8Copies_eq (o : S37) : spec_l8Copies.f o.f0 = some (copiesOp o) := by
  unfold spec_l8Copies.f copiesOp
  by_cases h : o.f0 = 5 <;> simp [h]
  by_cases h : o.f0 = 6 <;> simp [h]
theorem ev_l8Form (o : S37) (l : List S37) : Ev (fun k => spec_l8Form.f k (o :: l)) (formOp o) := by
  have e : rd_T37 (o :: l) 0 = o := rfl
  have hp : (0 : Int) < ((o :: l).length : Int) := by simp only [List.length_cons]; omega
  have yes : ∀ k, spec_l8Form.j0 (k + 1) (o :: l) true = some false := fun k => by simp only [spec_l8Form.j0, if_true]
  have one : ∀ k, spec_l8Form.j1 (k + 1) (o :: l) true = some false := fun k => by simp only [spec_l8Form.j1, if_true]
  refine Ev.at 5 (fun k => ?_)
  unfold spec_l8Form.f
  rw [if_pos hp]
  simp only [e, l1In_eq, l8Copies_eq, Option.bind_some]
  by_cases h1 : 1 ≤ o.f0 ∧ o.f0 ≤ 7
  case neg => rw [if_neg (by simpa using h1), yes]; simp [formOp, decide_eq_false h1]
  rw [if_pos (decide_eq_true h1)]
  have ef : formOp o = onlyOp o := by simp only [formOp, decide_eq_true h1]; simp
  rw [ef]
  unfold onlyOp
  simp only [spec_l8Form.j0, spec_l8Form.j1, if_pos hp, e, l8Copies_eq, Option.bind_some]
  rcases kinds o.f0 with h | h | h | h | ⟨h5, h6, h4, h3⟩ <;> by_cases e2 : o.f2.toList = [] <;> by_cases e3 : o.f3.length = 0 <;> by_cases e4 : o.f4 = 0 <;> by_cases e5 : o.f5 = 0 <;> by_cases e6 : o.f6 = 0 <;> by_cases e7 : o.f7.length = 0 <;> simp_all [copiesOp] <;> omega
theorem ev_l8Uids (x : List Int) (hx : x.length ≤ 1048576) : Ev (fun k => spec_l8Uids.f k x) (uidsOk x) := by
  unfold spec_l8Uids.f uidsOk
  refine ev_findI (fun k i => spec_l8Uids.l0 k x i) x.length (uidStep x) true ?_ ?_ ?_
  · refine Ev.succ ?_
    simp only [spec_l8Uids.l0, Int.lt_irrefl, if_false]
    exact Ev.now _
  · intro i hi r hr
    refine Ev.succ ?_
    simp only [spec_l8Uids.l0, l1In_eq, Option.bind_some]
    refine Ev.pos (by omega) (Ev.pos (by omega) ?_)
    unfold uidStep at hr
    by_cases h1 : 1 ≤ rd x (i : Int) ∧ rd x (i : Int) ≤ 999
    case neg => rw [if_neg h1] at hr; cases hr; exact Ev.neg (by simpa using h1) (Ev.now _)
    rw [if_pos h1] at hr
    refine Ev.pos (decide_eq_true h1) ?_
    by_cases h2 : 0 < i ∧ rd x (i : Int) ≤ rd x ((i - 1 : Nat) : Int)
    case neg => rw [if_neg h2] at hr; cases hr
    rw [if_pos h2] at hr; cases hr
    simp only [wpred h2.1 (show i ≤ 281474976710656 by omega)]
    exact Ev.pos (by omega) (Ev.pos (by omega) (Ev.pos (by omega) (Ev.pos h2.2 (Ev.now _))))
  · intro i hi hr r h
    refine Ev.succ ?_
    simp only [spec_l8Uids.l0, l1In_eq, Option.bind_some, wsucc hi (show x.length ≤ 281474976710656 by omega)]
    refine Ev.pos (by omega) (Ev.pos (by omega) ?_)
    unfold uidStep at hr
    by_cases h1 : 1 ≤ rd x (i : Int) ∧ rd x (i : Int) ≤ 999
    case neg => rw [if_neg h1] at hr; cases hr
    rw [if_pos h1] at hr
    refine Ev.pos (decide_eq_true h1) ?_
    by_cases h2 : 0 < i ∧ rd x (i : Int) ≤ rd x ((i - 1 : Nat) : Int)
    · rw [if_pos h2] at hr; cases hr
    by_cases h3 : 0 < i
    · simp only [wpred h3 (show i ≤ 281474976710656 by omega)]
      exact Ev.pos (by omega) (Ev.pos (by omega) (Ev.pos (by omega) (Ev.neg (fun q => h2 ⟨h3, q⟩) h)))
    · exact Ev.neg (by omega) h
theorem ev_l8Fault (o : S37) (l : List S37) (ho : okIOp o) : Ev (fun k => spec_l8Fault.f k (o :: l)) (opFault o) := by
  have e : rd_T37 (o :: l) 0 = o := rfl
  have hp : (0 : Int) < ((o :: l).length : Int) := by simp only [List.length_cons]; omega
  have j1 : ∀ b, Ev (fun k => spec_l8Fault.j1 k (o :: l) b) (lateFault o b) := by
    intro b
    refine Ev.succ ?_
    simp only [spec_l8Fault.j1, lateFault, e]
    exact Ev.ite (fun _ => Ev.now _) (fun _ => Ev.pos hp (by
      by_cases h : 400 < o.f7.length
      · rw [if_pos h]; exact Ev.pos (by omega) (Ev.now _)
      · rw [if_neg h]; exact Ev.neg (by omega) (Ev.now _)))
  have j0 : ∀ b, Ev (fun k => spec_l8Fault.j0 k (o :: l) b) (midFault o b) := by
    intro b
    refine Ev.succ ?_
    simp only [spec_l8Fault.j0, midFault, e]
    refine Ev.ite (fun _ => Ev.now _) (fun _ => Ev.pos hp ?_)
    by_cases h6 : 6 < o.f3.length
    · rw [if_pos h6]; exact Ev.pos (by omega) (Ev.now _)
    rw [if_neg h6]
    refine Ev.neg (by omega) (Ev.bind (ev_l8Uids o.f3 ho.2.2.1) ?_)
    simp only [l1In_eq, Option.bind_some]
    by_cases hu : uidsOk o.f3 = true
    case neg =>
      have : rangeOp o = false := by simp [rangeOp, hu]
      rw [this]; exact Ev.neg hu (j1 true)
    refine Ev.pos hu ?_
    by_cases hf : 0 ≤ o.f5 ∧ o.f5 ≤ 15
    case neg =>
      have e : rangeOp o = false := by simp only [rangeOp, decide_eq_false hf]; simp
      rw [e]
      by_cases h4 : o.f0 = 4
      · refine Ev.pos h4 ?_
        by_cases hm : 1 ≤ o.f4 ∧ o.f4 ≤ 3
        · exact Ev.pos (decide_eq_true hm) (Ev.neg (by simpa using hf) (j1 true))
        · exact Ev.neg (by simpa using hm) (j1 true)
      · exact Ev.neg h4 (Ev.neg (by simpa using hf) (j1 true))
    by_cases h4 : o.f0 = 4
    · refine Ev.pos h4 ?_
      by_cases hm : 1 ≤ o.f4 ∧ o.f4 ≤ 3
      · refine Ev.pos (decide_eq_true hm) (Ev.pos (decide_eq_true hf) ?_)
        have e : rangeOp o = decide (0 ≤ o.f6 ∧ o.f6 ≤ 9999) := by simp only [rangeOp, decide_eq_true hf, decide_eq_true hm, hu]; simp
        rw [e]; exact j1 _
      · have e : rangeOp o = false := by simp only [rangeOp, decide_eq_false hm, decide_eq_true h4]; simp
        rw [e]; exact Ev.neg (by simpa using hm) (j1 true)
    · refine Ev.neg h4 (Ev.pos (decide_eq_true hf) ?_)
      have e : rangeOp o = decide (0 ≤ o.f6 ∧ o.f6 ≤ 9999) := by simp only [rangeOp, decide_eq_true hf, decide_eq_false h4, hu]; simp
      rw [e]; exact j1 _
  unfold spec_l8Fault.f opFault
  refine Ev.bind (ev_l8Form o l) (Ev.ite (fun _ => Ev.pos hp ?_) (fun _ => Ev.now _))
  simp only [e, l8Copies_eq, Option.bind_some]
  refine Ev.bind (ev_l7Name o.f1 (by have := ho.1; omega)) ?_
  by_cases h1 : isWord o.f1 8 = true
  case neg => rw [show nameOp o = false by simp [nameOp, h1]]; exact Ev.neg h1 (j0 true)
  refine Ev.pos h1 ?_
  by_cases hc : copiesOp o = true
  · refine Ev.pos hc (Ev.bind (ev_l7Name o.f2 (by have := ho.2.1; omega)) ?_)
    rw [show nameOp o = isWord o.f2 8 by simp [nameOp, h1, hc]]
    exact j0 _
  · refine Ev.neg hc ?_
    rw [show nameOp o = true by simp [nameOp, h1, hc]]
    exact j0 false
theorem ev_markInt64S (x : List Int) (m : Int) (hx : x.length ≤ 1048576) (h0 : 0 ≤ m) (h1 : m ≤ 1152921504606846976) :
    Ev (fun k => laws_markInt64S.f k x m) (m + x.length, (List.range x.length).map fun (i : Nat) => m + (i : Int)) := by
  rw [← over_all]
  unfold laws_markInt64S.f
  have h := ev_iter (fun k (s : List Int × Int) i => laws_markInt64S.l0 k s.1 s.2 i) x.length (fun i => (over x (fun i => m + i) i, m + i)) (m + x.length, over x (fun i => m + i) x.length) ?_ ?_
  · simpa [over_zero] using h
  · refine Ev.succ ?_
    simp only [laws_markInt64S.l0, over_length x _ _ (Nat.le_refl _), Int.lt_irrefl, if_false]
    exact Ev.now _
  · intro i hi r h
    refine Ev.succ ?_
    simp only [laws_markInt64S.l0, over_length x _ i (by omega)]
    refine Ev.pos (by omega) (Ev.pos (by omega) ?_)
    simp only [wsucc hi (show x.length ≤ 281474976710656 by omega), Int.toNat_natCast, over_set x (fun (i : Nat) => m + (i : Int)) i hi]
    rw [show wrap64 (m + (i : Int) + 1) = m + ((i + 1 : Nat) : Int) by rw [wid (by omega) (by omega)]; omega]
    exact h
-- needs:
theorem ev_eqByteB (x : List Int) (hx : x.length ≤ 16777216) : Ev (fun k => laws_eqByteS.f k x x) true := by
  unfold laws_eqByteS.f
  refine Ev.pos rfl ?_
  refine ev_iter (fun k (_ : Unit) i => laws_eqByteS.l0 k x x i) x.length (fun _ => ()) true ?_ ?_
  · refine Ev.succ ?_
    simp only [laws_eqByteS.l0, Int.lt_irrefl, if_false]
    exact Ev.now _
  · intro i hi r h
    refine Ev.succ ?_
    simp only [laws_eqByteS.l0]
    refine Ev.pos (by omega) (Ev.pos (by omega) (Ev.pos (by omega) (Ev.pos trivial ?_)))
    simp only [wsucc hi (show x.length ≤ 281474976710656 by omega)]
    exact h
def marksB (m : Int) (n : Nat) : List Int := (List.range n).map fun (i : Nat) => (m + (i : Int)) % 256
theorem ev_markByteB (x : List Int) (m : Int) (hx : x.length ≤ 16777216) (h0 : 0 ≤ m) (h1 : m ≤ 1152921504606846976) :
    Ev (fun k => laws_markByteS.f k x m) (m + x.length, marksB m x.length) := by
  unfold marksB
  rw [← over_all]
  unfold laws_markByteS.f
  have h := ev_iter (fun k (s : List Int × Int) i => laws_markByteS.l0 k s.1 s.2 i) x.length (fun i => (over x (fun i => (m + i) % 256) i, m + i)) (m + x.length, over x (fun i => (m + i) % 256) x.length) ?_ ?_
  · simpa [over_zero] using h
  · refine Ev.succ ?_
    simp only [laws_markByteS.l0, over_length x _ _ (Nat.le_refl _), Int.lt_irrefl, if_false]
    exact Ev.now _
  · intro i hi r h
    refine Ev.succ ?_
    simp only [laws_markByteS.l0, over_length x _ i (by omega)]
    refine Ev.pos (by omega) (Ev.pos (by omega) ?_)
    simp only [wsucc hi (show x.length ≤ 281474976710656 by omega), Int.toNat_natCast, over_set x (fun (i : Nat) => (m + (i : Int)) % 256) i hi]
    rw [show wrap64 (m + (i : Int) + 1) = m + ((i + 1 : Nat) : Int) by rw [wid (by omega) (by omega)]; omega]
    exact h
theorem ev_heldByteB (n : Nat) (m : Int) (hx : n ≤ 16777216) (h0 : 0 ≤ m) (h1 : m ≤ 1152921504606846976) :
    Ev (fun k => laws_heldByteS.f k (marksB m n) m) (m + n) := by
  unfold laws_heldByteS.f marksB
  generalize hy : (List.range n).map (fun (i : Nat) => (m + (i : Int)) % 256) = y
  have hl : y.length = n := by subst hy; simp
  have h := ev_iter (fun k (s : Int) i => laws_heldByteS.l0 k y s i) n (fun i => m + i) (m + n) ?_ ?_
  · simpa using h
  · refine Ev.succ ?_
    simp only [laws_heldByteS.l0, hl, Int.lt_irrefl, if_false]
    exact Ev.now _
  · intro i hi r h
    refine Ev.succ ?_
    have hg : rd y (i : Int) = (m + i) % 256 := by rw [rd_get y i (by omega)]; subst hy; simp
    simp only [laws_heldByteS.l0, hl, hg]
    refine Ev.pos (by omega) (Ev.pos (by omega) (Ev.pos trivial ?_))
    rw [show wrap64 (m + (i : Int) + 1) = m + ((i + 1 : Nat) : Int) by rw [wid (by omega) (by omega)]; omega]
    simp only [wsucc hi (show n ≤ 281474976710656 by omega)]
    exact h
theorem ev_eqBytesResult (c : Int) (x : List Int) (hx : x.length ≤ 16777216) : Ev (fun k => laws_eqBytesResult.f k c x c x) true := by
  unfold laws_eqBytesResult.f
  exact Ev.pos rfl (Ev.bind (ev_eqByteB x hx) (Ev.pos rfl (Ev.now _)))
theorem ev_markBytesResult (c : Int) (x : List Int) (hx : x.length ≤ 16777216) : Ev (fun k => laws_markBytesResult.f k c x 1) (1 + x.length, marksB 1 x.length) := by
  unfold laws_markBytesResult.f
  exact Ev.bind (ev_markByteB x 1 hx (by omega) (by omega)) (Ev.now _)
theorem ev_heldBytesResult (c : Int) (n : Nat) (hx : n ≤ 16777216) : Ev (fun k => laws_heldBytesResult.f k c (marksB 1 n) 1) (1 + n) := by
  unfold laws_heldBytesResult.f
  exact Ev.bind (ev_heldByteB n 1 hx (by omega) (by omega)) (Ev.neg (by omega) (Ev.now _))
def twoF (n : Int) : List Int := [(wrap64 (Int.tdiv n 256)) % 256, (Int.tmod n 256) % 256]
def uidsB (l : List Int) : List Int := l.flatMap twoF
theorem uidsB_length (l : List Int) : (uidsB l).length = 2 * l.length := by
  induction l with
  | nil => rfl
  | cons a l ih =>
    unfold uidsB at ih ⊢
    rw [List.flatMap_cons, List.length_append, ih, List.length_cons]
    simp only [twoF, List.length_cons, List.length_nil]
    omega
theorem uidsB_succ (l : List Int) (i : Nat) (h : i < l.length) : uidsB (l.take (i + 1)) = uidsB (l.take i) ++ twoF l[i] := by
  unfold uidsB
  rw [List.take_succ_eq_append_getElem h, List.flatMap_append, List.flatMap_cons, List.flatMap_nil, List.append_nil]
def sumStep (s b : Int) : Int := Int.tmod (wrap64 ((wrap64 (s * 31)) + (wrap64 b))) 65521
def sumF (x : List Int) : Int := x.foldl sumStep 1
theorem sum_take (x : List Int) (i : Nat) (h : i < x.length) : (x.take (i + 1)).foldl sumStep 1 = sumStep ((x.take i).foldl sumStep 1) x[i] := by
  rw [List.take_succ_eq_append_getElem h, List.foldl_append]
  rfl
theorem ev_implSum (x : List Int) (hx : x.length ≤ 16777216) : Ev (fun k => impl_sumOf.f k x) (sumF x) := by
  unfold impl_sumOf.f
  have h := ev_iter (fun k (s : Int) i => impl_sumOf.l0 k s x (x.length : Int) i) x.length (fun i => (x.take i).foldl sumStep 1) (sumF x) ?_ ?_
  · simpa using h
  · refine Ev.succ ?_
    simp only [impl_sumOf.l0, Int.lt_irrefl, if_false, List.take_length]
    exact Ev.now _
  · intro i hi r h
    refine Ev.succ ?_
    simp only [impl_sumOf.l0, rd_get x i hi]
    refine Ev.pos (by omega) (Ev.pos (by omega) (Ev.pos (by omega) ?_))
    simp only [wsucc hi (show x.length ≤ 281474976710656 by omega)]
    rw [sum_take x i hi] at h
    exact h
theorem ev_specSum (x : List Int) (hx : x.length ≤ 16777216) : Ev (fun k => spec_l9Sum.f k x) (sumF x) := by
  unfold spec_l9Sum.f
  have h := ev_iter (fun k (s : Int) i => spec_l9Sum.l0 k x s i) x.length (fun i => (x.take i).foldl sumStep 1) (sumF x) ?_ ?_
  · simpa using h
  · refine Ev.succ ?_
    simp only [spec_l9Sum.l0, Int.lt_irrefl, if_false, List.take_length]
    exact Ev.now _
  · intro i hi r h
    refine Ev.succ ?_
    simp only [spec_l9Sum.l0, rd_get x i hi]
    refine Ev.pos (by omega) (Ev.pos (by omega) ?_)
    simp only [wsucc hi (show x.length ≤ 281474976710656 by omega)]
    rw [sum_take x i hi] at h
    exact h
def headB (o : S37) : List Int := [o.f0 % 256, (o.f1.size : Int) % 256] ++ bytesOf o.f1 ++ [(o.f2.size : Int) % 256] ++ bytesOf o.f2 ++ [(o.f3.length : Int) % 256]
def bodyB (o : S37) : List Int := headB o ++ uidsB o.f3 ++ [o.f4 % 256, o.f5 % 256] ++ twoF o.f6 ++ twoF (o.f7.length : Int) ++ o.f7
def packW (o : S37) : List Int := twoF (wrap64 (((bodyB o).length : Int) + 4)) ++ bodyB o
def packF (o : S37) : List Int := packW o ++ twoF (sumF (packW o))
theorem twoF_length (n : Int) : (twoF n).length = 2 := rfl
theorem headB_length (o : S37) : (headB o).length = 4 + o.f1.size + o.f2.size := by
  simp only [headB, List.length_append, bytesOf_length, List.length_cons, List.length_nil]
  omega
theorem bodyB_length (o : S37) : (bodyB o).length = 10 + o.f1.size + o.f2.size + 2 * o.f3.length + o.f7.length := by
  simp only [bodyB, List.length_append, headB_length, uidsB_length, twoF_length, List.length_cons, List.length_nil]
  omega
theorem packW_length (o : S37) : (packW o).length = 12 + o.f1.size + o.f2.size + 2 * o.f3.length + o.f7.length := by
  simp only [packW, List.length_append, bodyB_length, twoF_length]
  omega
theorem packF_length (o : S37) : (packF o).length = 14 + o.f1.size + o.f2.size + 2 * o.f3.length + o.f7.length := by
  simp only [packF, List.length_append, packW_length, twoF_length]
  omega
theorem ev_packed (o : S37) (ho : okIOp o) : Ev (fun k => impl_packed.f k o.f0 o.f1 o.f2 o.f3 o.f4 o.f5 o.f6 o.f7) (packF o) := by
  obtain ⟨h1, h2, h3, h7⟩ := ho
  unfold impl_packed.f
  simp only [Option.bind_some, List.length_append, bytesOf_length, List.length_cons, List.length_nil]
  refine Ev.pos (by omega) (Ev.pos (by omega) (Ev.pos (by omega) (Ev.pos (by omega) ?_)))
  have h := ev_iter (fun k (s : List Int) i => impl_packed.l0 k s o.f3 (o.f3.length : Int) i o.f0 o.f1 o.f2 o.f3 o.f4 o.f5 o.f6 o.f7) o.f3.length (fun i => headB o ++ uidsB (o.f3.take i)) (packF o) ?_ ?_
  · simpa [headB, uidsB] using h
  · refine Ev.succ ?_
    have hb : ((((headB o ++ uidsB o.f3) ++ [o.f4 % 256, o.f5 % 256]) ++ twoF o.f6) ++ twoF (o.f7.length : Int)) ++ o.f7 = bodyB o := rfl
    have hw : twoF (wrap64 (((bodyB o).length : Int) + 4)) ++ bodyB o = packW o := rfl
    have hf : packW o ++ twoF (sumF (packW o)) = packF o := rfl
    have l1 : (headB o ++ uidsB o.f3).length = 4 + o.f1.size + o.f2.size + 2 * o.f3.length := by simp only [List.length_append, headB_length, uidsB_length]
    have l2 := bodyB_length o
    have l3 := packW_length o
    simp only [impl_packed.l0, impl_two.f, impl_length_byte.f, Int.lt_irrefl, if_false, List.take_length, Option.bind_some]
    change Ev (fun k => if (headB o ++ uidsB o.f3).length + 2 < 140737488355328 then if ((headB o ++ uidsB o.f3) ++ [o.f4 % 256, o.f5 % 256]).length + 2 < 140737488355328 then if (((headB o ++ uidsB o.f3) ++ [o.f4 % 256, o.f5 % 256]) ++ twoF o.f6).length + 2 < 140737488355328 then if ((((headB o ++ uidsB o.f3) ++ [o.f4 % 256, o.f5 % 256]) ++ twoF o.f6) ++ twoF (o.f7.length : Int)).length + o.f7.length < 140737488355328 then if 2 + (bodyB o).length < 140737488355328 then (impl_sumOf.f k (packW o)).bind fun t => if (packW o).length + 2 < 140737488355328 then some (packW o ++ twoF t) else none else none else none else none else none else none) (packF o)
    simp only [List.length_append, headB_length, uidsB_length, twoF_length, bodyB_length, packW_length, List.length_cons, List.length_nil]
    exact Ev.pos (by omega) (Ev.pos (by omega) (Ev.pos (by omega) (Ev.pos (by omega) (Ev.pos (by omega) (Ev.bind (ev_implSum _ (by omega)) (Ev.pos (by omega) (Ev.now _)))))))
  · intro i hi r h
    refine Ev.succ ?_
    simp only [impl_packed.l0, impl_two.f, rd_get o.f3 i hi, Option.bind_some, wsucc hi (show o.f3.length ≤ 281474976710656 by omega)]
    rw [uidsB_succ o.f3 i hi, ← List.append_assoc] at h
    refine Ev.pos (by omega) (Ev.pos (by omega) (Ev.pos (by omega) (Ev.pos ?_ h)))
    simp only [List.length_append, headB_length, uidsB_length, List.length_take, List.length_cons, List.length_nil]
    omega
theorem cpy_two (n : Int) (x : List Int) : cpy ([0, 0] ++ x) (twoF n) = twoF n ++ x := by
  unfold cpy
  rw [List.take_of_length_le (by simp [twoF])]
  rfl
theorem ev_l9Pack (o : S37) (l : List S37) (ho : okIOp o) : Ev (fun k => spec_l9Pack.f k (o :: l)) (packF o) := by
  obtain ⟨h1, h2, h3, h7⟩ := ho
  have hr : rd_T37 (o :: l) 0 = o := rfl
  have hp : 0 < ((o :: l).length : Int) := by simp
  unfold spec_l9Pack.f
  simp only [hr, if_pos hp, Option.bind_some, List.length_append, bytesOf_length, List.length_cons, List.length_nil]
  refine Ev.pos (by omega) (Ev.pos (by omega) (Ev.pos (by omega) (Ev.pos (by omega) (Ev.pos (by omega) (Ev.pos (by omega) (Ev.pos (by omega) ?_))))))
  have h := ev_iter (fun k (s : List Int) i => spec_l9Pack.l0 k (o :: l) s i) o.f3.length (fun i => ([0, 0] ++ headB o) ++ uidsB (o.f3.take i)) (packF o) ?_ ?_
  · simpa [headB, uidsB] using h
  · refine Ev.succ ?_
    have l2 := bodyB_length o
    have l3 := packW_length o
    have hb : (((((([0, 0] ++ headB o) ++ uidsB o.f3) ++ [o.f4 % 256, o.f5 % 256]) ++ twoF o.f6) ++ twoF (o.f7.length : Int)) ++ o.f7) = [0, 0] ++ bodyB o := by simp only [bodyB, List.append_assoc]
    simp only [spec_l9Pack.l0, spec_l9Two.f, hr, if_pos hp, Int.lt_irrefl, if_false, List.take_length, Option.bind_some]
    change Ev (fun k => if (([0, 0] ++ headB o) ++ uidsB o.f3).length + 2 < 140737488355328 then if ((([0, 0] ++ headB o) ++ uidsB o.f3) ++ [o.f4 % 256, o.f5 % 256]).length + 2 < 140737488355328 then if (((([0, 0] ++ headB o) ++ uidsB o.f3) ++ [o.f4 % 256, o.f5 % 256]) ++ twoF o.f6).length + 2 < 140737488355328 then if ((((([0, 0] ++ headB o) ++ uidsB o.f3) ++ [o.f4 % 256, o.f5 % 256]) ++ twoF o.f6) ++ twoF (o.f7.length : Int)).length + o.f7.length < 140737488355328 then (spec_l9Sum.f k (cpy (((((([0, 0] ++ headB o) ++ uidsB o.f3) ++ [o.f4 % 256, o.f5 % 256]) ++ twoF o.f6) ++ twoF (o.f7.length : Int)) ++ o.f7) (twoF (wrap64 (((((((([0, 0] ++ headB o) ++ uidsB o.f3) ++ [o.f4 % 256, o.f5 % 256]) ++ twoF o.f6) ++ twoF (o.f7.length : Int)) ++ o.f7).length : Int) + 2))))).bind fun t => if (cpy (((((([0, 0] ++ headB o) ++ uidsB o.f3) ++ [o.f4 % 256, o.f5 % 256]) ++ twoF o.f6) ++ twoF (o.f7.length : Int)) ++ o.f7) (twoF (wrap64 (((((((([0, 0] ++ headB o) ++ uidsB o.f3) ++ [o.f4 % 256, o.f5 % 256]) ++ twoF o.f6) ++ twoF (o.f7.length : Int)) ++ o.f7).length : Int) + 2)))).length + 2 < 140737488355328 then some (cpy (((((([0, 0] ++ headB o) ++ uidsB o.f3) ++ [o.f4 % 256, o.f5 % 256]) ++ twoF o.f6) ++ twoF (o.f7.length : Int)) ++ o.f7) (twoF (wrap64 (((((((([0, 0] ++ headB o) ++ uidsB o.f3) ++ [o.f4 % 256, o.f5 % 256]) ++ twoF o.f6) ++ twoF (o.f7.length : Int)) ++ o.f7).length : Int) + 2))) ++ twoF t) else none else none else none else none else none) (packF o)
    have hn : wrap64 ((([0, 0] ++ bodyB o).length : Int) + 2) = wrap64 (((bodyB o).length : Int) + 4) := by
      have e1 : (([0, 0] ++ bodyB o).length : Int) = ((bodyB o).length : Int) + 2 := by rw [List.length_append]; simp only [List.length_cons, List.length_nil]; omega
      rw [e1, Int.add_assoc]
      rfl
    rw [hb, cpy_two, hn]
    change Ev (fun k => if (([0, 0] ++ headB o) ++ uidsB o.f3).length + 2 < 140737488355328 then if ((([0, 0] ++ headB o) ++ uidsB o.f3) ++ [o.f4 % 256, o.f5 % 256]).length + 2 < 140737488355328 then if (((([0, 0] ++ headB o) ++ uidsB o.f3) ++ [o.f4 % 256, o.f5 % 256]) ++ twoF o.f6).length + 2 < 140737488355328 then if ((((([0, 0] ++ headB o) ++ uidsB o.f3) ++ [o.f4 % 256, o.f5 % 256]) ++ twoF o.f6) ++ twoF (o.f7.length : Int)).length + o.f7.length < 140737488355328 then (spec_l9Sum.f k (packW o)).bind fun t => if (packW o).length + 2 < 140737488355328 then some (packW o ++ twoF t) else none else none else none else none else none) (packF o)
    simp only [List.length_append, headB_length, uidsB_length, twoF_length, packW_length, List.length_cons, List.length_nil]
    exact Ev.pos (by omega) (Ev.pos (by omega) (Ev.pos (by omega) (Ev.pos (by omega) (Ev.bind (ev_specSum _ (by omega)) (Ev.pos (by omega) (Ev.now _))))))
  · intro i hi r h
    refine Ev.succ ?_
    simp only [spec_l9Pack.l0, spec_l9Two.f, hr, if_pos hp, rd_get o.f3 i hi, Option.bind_some, wsucc hi (show o.f3.length ≤ 281474976710656 by omega)]
    rw [uidsB_succ o.f3 i hi, ← List.append_assoc] at h
    refine Ev.pos (by omega) (Ev.pos (by omega) (Ev.pos ?_ h))
    simp only [List.length_append, headB_length, uidsB_length, List.length_take, List.length_cons, List.length_nil]
    omega
/-- The texts that the laws mark strings with. -/
def mtGo (n : Nat) (s : ByteArray) : ByteArray := if h : n = 0 then (⟨#[109]⟩ : ByteArray) ++ s else mtGo (n / 10) (strOfNums [(wrap64 (48 + (Int.tmod (n : Int) 10))) % 256] ++ s)
termination_by n
decreasing_by omega
def mtx (a : Int) : ByteArray := if a ≤ 0 then (⟨#[109, 48]⟩ : ByteArray) else mtGo a.toNat (⟨#[]⟩ : ByteArray)
theorem ev_mtGo : ∀ (n : Nat) (s : ByteArray), s.size + n ≤ 9223372036854775806 → Ev (fun k => laws_markText.l0 k (n : Int) s) (mtGo n s) := by
  intro n
  induction n using Nat.strongRecOn with
  | _ n ih =>
    intro s hs
    refine Ev.succ ?_
    simp only [laws_markText.l0, Option.bind_some]
    by_cases hn : n = 0
    · subst hn
      rw [mtGo, dif_pos rfl]
      exact Ev.neg (by omega) (Ev.pos (by omega) (Ev.now _))
    · rw [mtGo, dif_neg hn]
      have hz : (strOfNums [(wrap64 (48 + (Int.tmod (n : Int) 10))) % 256]).size = 1 := strOfNums_size _
      have hd : wrap64 (Int.tdiv (n : Int) 10) = ((n / 10 : Nat) : Int) := by
        rw [Int.tdiv_eq_ediv_of_nonneg (by omega), wid (by omega) (by omega)]; omega
      refine Ev.pos (by omega) (Ev.pos (by rw [hz]; omega) ?_)
      rw [hd]
      exact ih (n / 10) (by omega) _ (by rw [ByteArray.size_append, hz]; omega)
theorem ev_markText (a : Int) (h : a ≤ 1152921504606846976) : Ev (fun k => laws_markText.f k a) (mtx a) := by
  unfold laws_markText.f mtx
  by_cases h0 : a ≤ 0
  · rw [if_pos h0]; exact Ev.pos h0 (Ev.now _)
  · rw [if_neg h0]
    refine Ev.neg h0 ?_
    have := ev_mtGo a.toNat (⟨#[]⟩ : ByteArray) (by rw [show (⟨#[]⟩ : ByteArray).size = 0 from rfl]; omega)
    rw [Int.toNat_of_nonneg (by omega)] at this
    exact this
/-- An op marked from a number on. -/
def markO (m : Int) (n3 n7 : Nat) : S37 := ⟨m, mtx (m + 1), mtx (m + 2), (List.range n3).map (fun (i : Nat) => m + 3 + (i : Int)), m + 3 + n3, m + 4 + n3, m + 5 + n3, marksB (m + 6 + n3) n7⟩
theorem ev_markOp1 (o : S37) (m : Int) (ho : okIOp o) (h0 : 0 ≤ m) (h1 : m ≤ 1000000000000000000) : Ev (fun k => laws_markOpS.e k o m) (m + 6 + o.f3.length + o.f7.length, markO m o.f3.length o.f7.length) := by
  obtain ⟨_, _, h3, h7⟩ := ho
  unfold laws_markOpS.e markO
  have e1 : wrap64 (m + 1) = m + 1 := wid (by omega) (by omega)
  have e2 : wrap64 (m + 1 + 1) = m + 2 := by rw [wid (by omega) (by omega)]; omega
  have e3 : wrap64 (m + 2 + 1) = m + 3 := by rw [wid (by omega) (by omega)]; omega
  have e4 : wrap64 (m + 3 + (o.f3.length : Int) + 1) = m + 4 + o.f3.length := by rw [wid (by omega) (by omega)]; omega
  have e5 : wrap64 (m + 4 + (o.f3.length : Int) + 1) = m + 5 + o.f3.length := by rw [wid (by omega) (by omega)]; omega
  have e6 : wrap64 (m + 5 + (o.f3.length : Int) + 1) = m + 6 + o.f3.length := by rw [wid (by omega) (by omega)]; omega
  rw [e1, e2, e3]
  refine Ev.bind (ev_markText (m + 1) (by omega)) (Ev.bind (ev_markText (m + 2) (by omega)) (Ev.bind (ev_markInt64S o.f3 (m + 3) h3 (by omega) (by omega)) ?_))
  simp only [e4, e5, e6]
  exact Ev.bind (ev_markByteB o.f7 (m + 6 + o.f3.length) (by omega) (by omega) (by omega)) (Ev.now _)
/-- Ops marked one behind the other: the number behind them, and they. -/
def marksO : Int → List S37 → Int × List S37
  | m, [] => (m, [])
  | m, o :: l => ((marksO (m + 6 + o.f3.length + o.f7.length) l).1, markO m o.f3.length o.f7.length :: (marksO (m + 6 + o.f3.length + o.f7.length) l).2)
theorem marksO_ge : ∀ (l : List S37) (m : Int), m ≤ (marksO m l).1 ∧ (marksO m l).2.length = l.length
  | [], m => ⟨Int.le_refl _, rfl⟩
  | o :: l, m => by
    have := marksO_ge l (m + 6 + o.f3.length + o.f7.length)
    simp only [marksO, List.length_cons]
    omega
theorem ev_markOpS (x : List S37) (hx : x.length ≤ 1048576) (hin : ∀ y ∈ x, okIOp y) (m : Int) (h0 : 0 ≤ m) (h1 : m ≤ 1048576) : Ev (fun k => laws_markOpS.f k x m) (marksO m x) := by
  unfold laws_markOpS.f
  have key : ∀ (d i : Nat) (a : List S37) (m : Int), i + d = x.length → a.length = i → 0 ≤ m → m ≤ 1048576 + 4194304 * (i : Int) → Ev (fun k => laws_markOpS.l0 k (a ++ x.drop i) m (i : Int)) ((marksO m (x.drop i)).1, a ++ (marksO m (x.drop i)).2) := by
    intro d
    induction d with
    | zero =>
      intro i a m hi ha hm hm'
      rw [List.drop_eq_nil_of_le (by omega)]
      refine Ev.succ ?_
      simp only [laws_markOpS.l0, marksO, List.append_nil]
      exact Ev.neg (by omega) (Ev.now _)
    | succ d ih =>
      intro i a m hi ha hm hm'
      have hl : i < x.length := by omega
      have hok := hin x[i] (List.getElem_mem hl)
      have hok' := hok
      obtain ⟨_, _, h3, h7⟩ := hok'
      rw [List.drop_eq_getElem_cons hl]
      refine Ev.succ ?_
      have hg : rd_T37 (a ++ x[i] :: x.drop (i + 1)) (i : Int) = x[i] := by
        rw [rd_Op_get _ i (by simp; omega), List.getElem_append_right (by omega)]
        simp [ha]
      have hs : (a ++ x[i] :: x.drop (i + 1)).set i (markO m x[i].f3.length x[i].f7.length) = (a ++ [markO m x[i].f3.length x[i].f7.length]) ++ x.drop (i + 1) := by
        rw [List.set_append_right _ _ (by omega), ha, Nat.sub_self, List.set_cons_zero, List.append_assoc]
        rfl
      simp only [laws_markOpS.l0, hg, wsucc hl (show x.length ≤ 281474976710656 by omega), Int.toNat_natCast]
      refine Ev.pos (by simp; omega) (Ev.pos (by omega) (Ev.bind (ev_markOp1 x[i] m hok hm (by omega)) ?_))
      simp only [hs]
      have := ih (i + 1) (a ++ [markO m x[i].f3.length x[i].f7.length]) (m + 6 + x[i].f3.length + x[i].f7.length) (by omega) (by simp; omega) (by omega) (by omega)
      simp only [marksO]
      simp only [List.append_assoc, List.singleton_append] at this ⊢
      exact this
  have := key x.length 0 [] m (by omega) rfl h0 (by omega)
  simpa using this
def badOp (o : S37) : Bool := decide (opFault o ≠ 0)
def allB (x : List S37) : List Int := x.flatMap packF
def packsR (x : List S37) : Int × List Int := match x.find? badOp with
  | some o => (opFault o, [])
  | none => if ((allB x).length : Int) > 8000 then (2, []) else (0, allB x)
theorem allB_succ (x : List S37) (i : Nat) (h : i < x.length) : allB (x.take (i + 1)) = allB (x.take i) ++ packF x[i] := by
  unfold allB
  rw [List.take_succ_eq_append_getElem h, List.flatMap_append, List.flatMap_cons, List.flatMap_nil, List.append_nil]
theorem allB_le (x : List S37) (hin : ∀ y ∈ x, okIOp y) : ∀ i, i ≤ x.length → (allB (x.take i)).length ≤ 8388608 * i
  | 0, _ => by simp [allB]
  | i + 1, h => by
    have := allB_le x hin i (by omega)
    obtain ⟨h1, h2, h3, h7⟩ := hin x[i] (List.getElem_mem _)
    rw [allB_succ x i (by omega), List.length_append, packF_length]
    omega
theorem allB_mono (x : List S37) (i : Nat) (h : i ≤ x.length) : (allB (x.take i)).length ≤ (allB x).length := by
  rw [show (allB x).length = (allB (x.take i ++ x.drop i)).length by rw [List.take_append_drop]]
  unfold allB
  rw [List.flatMap_append, List.length_append]
  omega
theorem ev_packedAll (x : List S37) (hx : x.length ≤ 1048576) (hin : ∀ y ∈ x, okIOp y) : Ev (fun k => impl_packedAll.f k x) (allB x) := by
  unfold impl_packedAll.f
  have h := ev_iter (fun k (s : List Int) i => impl_packedAll.l0 k s x (x.length : Int) i) x.length (fun i => allB (x.take i)) (allB x) ?_ ?_
  · simpa [allB] using h
  · refine Ev.succ ?_
    simp only [impl_packedAll.l0, Int.lt_irrefl, if_false, List.take_length]
    exact Ev.now _
  · intro i hi r h
    have hok := hin x[i] (List.getElem_mem _)
    have hle := allB_le x hin i (by omega)
    refine Ev.succ ?_
    simp only [impl_packedAll.l0, rd_Op_get x i hi]
    refine Ev.pos (by omega) (Ev.pos (by omega) (Ev.pos (by omega) (Ev.bind (ev_packed x[i] hok) ?_)))
    rw [allB_succ x i hi] at h
    obtain ⟨h1, h2, h3, h7⟩ := hok
    refine Ev.pos (by rw [packF_length]; omega) ?_
    simp only [wsucc hi (show x.length ≤ 281474976710656 by omega)]
    exact h
theorem find_drop (x : List S37) (i : Nat) (h : i < x.length) (hf : (x.drop i).find? badOp = x.find? badOp) : (badOp x[i] = true → x.find? badOp = some x[i]) ∧ (¬ badOp x[i] = true → (x.drop (i + 1)).find? badOp = x.find? badOp) := by
  rw [List.drop_eq_getElem_cons h, List.find?_cons] at hf
  constructor
  · intro hb; rw [hb] at hf; exact hf.symm
  · intro hb
    have : badOp x[i] = false := by simpa using hb
    rw [this] at hf
    exact hf
theorem ev_implPackOps (x : List S37) (hx : x.length ≤ 1048576) (hin : ∀ y ∈ x, okIOp y) : Ev (fun k => impl_PackOps.f k x) (packsR x) := by
  unfold impl_PackOps.f
  have key : ∀ (d i : Nat), i + d = x.length → (x.drop i).find? badOp = x.find? badOp → Ev (fun k => impl_PackOps.l0 k x x (x.length : Int) (i : Int)) (packsR x) := by
    intro d
    induction d with
    | zero =>
      intro i hi hf
      rw [List.drop_eq_nil_of_le (by omega)] at hf
      refine Ev.succ ?_
      simp only [impl_PackOps.l0]
      refine Ev.neg (by omega) (Ev.bind (ev_packedAll x hx hin) ?_)
      unfold packsR
      rw [← hf]
      exact Ev.ite (fun _ => Ev.now _) (fun _ => Ev.now _)
    | succ d ih =>
      intro i hi hf
      have hl : i < x.length := by omega
      obtain ⟨f1, f2⟩ := find_drop x i hl hf
      refine Ev.succ ?_
      simp only [impl_PackOps.l0, rd_Op_get x i hl, wsucc hl (show x.length ≤ 281474976710656 by omega)]
      refine Ev.pos (by omega) (Ev.pos (by omega) (Ev.pos (by omega) (Ev.bind (ev_implOpFault x[i] (hin _ (List.getElem_mem hl))) ?_)))
      by_cases hb : opFault x[i] = 0
      · exact Ev.pos hb (ih (i + 1) (by omega) (f2 (by simp [badOp, hb])))
      · have := f1 (by simp [badOp, hb])
        unfold packsR
        rw [this]
        exact Ev.neg hb (Ev.now _)
  exact key x.length 0 (by omega) rfl
theorem ev_specPackOps (x : List S37) (hx : x.length ≤ 1048576) (hin : ∀ y ∈ x, okIOp y) : Ev (fun k => spec_PackOps.f k x) (packsR x) := by
  unfold spec_PackOps.f
  have key : ∀ (d i : Nat) (s : List Int), i + d = x.length → (x.drop i).find? badOp = x.find? badOp → (s.length ≤ 8000 → s = allB (x.take i)) → (8000 < s.length → 8000 < (allB (x.take i)).length) → s.length ≤ 16777216 → Ev (fun k => spec_PackOps.l0 k x s (i : Int)) (packsR x) := by
    intro d
    induction d with
    | zero =>
      intro i s hi hf h1 h2 hs
      rw [List.drop_eq_nil_of_le (by omega)] at hf
      rw [List.take_of_length_le (by omega)] at h1 h2
      refine Ev.succ ?_
      simp only [spec_PackOps.l0]
      refine Ev.neg (by omega) ?_
      unfold packsR
      rw [← hf]
      by_cases hb : (s.length : Int) > 8000
      · have := h2 (by omega)
        have e : (if ((allB x).length : Int) > 8000 then ((2 : Int), ([] : List Int)) else (0, allB x)) = (2, []) := if_pos (by omega)
        simp only [List.find?_nil]
        rw [e]
        exact Ev.pos hb (Ev.now _)
      · have := h1 (by omega)
        subst this
        have e : (if ((allB x).length : Int) > 8000 then ((2 : Int), ([] : List Int)) else (0, allB x)) = (0, allB x) := if_neg hb
        simp only [List.find?_nil]
        rw [e]
        exact Ev.neg hb (Ev.now _)
    | succ d ih =>
      intro i s hi hf h1 h2 hs
      have hl : i < x.length := by omega
      obtain ⟨f1, f2⟩ := find_drop x i hl hf
      have hok := hin x[i] (List.getElem_mem hl)
      refine Ev.succ ?_
      simp only [spec_PackOps.l0, Int.toNat_natCast, List.drop_eq_getElem_cons hl, wsucc hl (show x.length ≤ 281474976710656 by omega)]
      refine Ev.pos (by omega) (Ev.pos (by omega) (Ev.bind (ev_l8Fault x[i] _ hok) ?_))
      by_cases hb : opFault x[i] = 0
      case neg =>
        have := f1 (by simp [badOp, hb])
        unfold packsR
        rw [this]
        exact Ev.neg hb (Ev.now _)
      have f3 := f2 (by simp [badOp, hb])
      refine Ev.pos hb ?_
      have hpl := packF_length x[i]
      have hsu := allB_succ x i hl
      by_cases hc : (s.length : Int) ≤ 8000
      · refine Ev.pos hc (Ev.bind (ev_l9Pack x[i] _ hok) ?_)
        obtain ⟨o1, o2, o3, o7⟩ := hok
        refine Ev.pos (by omega) (ih (i + 1) (s ++ packF x[i]) (by omega) f3 ?_ ?_ ?_)
        · intro _; rw [hsu, h1 (by omega)]
        · intro h; rw [hsu, ← h1 (by omega)]; exact h
        · rw [List.length_append]; omega
      · refine Ev.neg hc (ih (i + 1) s (by omega) f3 (fun h => absurd h (by omega)) ?_ hs)
        intro h
        rw [hsu, List.length_append]
        have := h2 h
        omega
  exact key x.length 0 [] (by omega) rfl (fun _ => by simp [allB]) (fun h => by simp at h) (by simp)
theorem packsR_length (x : List S37) : (packsR x).2.length ≤ 8000 := by
  unfold packsR
  split
  · simp
  · split
    · simp
    · rename_i h; dsimp only; omega
theorem FnExactPackOps : ∀ (l0 : List (S57)), (l0.length * 112 ≤ 140737488351232 ∧ ∀ x1_ ∈ l0, ((Lit.int .i64 x1_.f0).wf = true ∧ x1_.f1.size ≤ 140737488351232 ∧ x1_.f2.size ≤ 140737488351232 ∧ (x1_.f3.length * 8 ≤ 140737488351232 ∧ ∀ x2_ ∈ x1_.f3, (Lit.int .i64 x2_).wf = true) ∧ (Lit.int .i64 x1_.f4).wf = true ∧ (Lit.int .i64 x1_.f5).wf = true ∧ (Lit.int .i64 x1_.f6).wf = true ∧ (x1_.f7.length * 1 ≤ 140737488351232 ∧ ∀ x2_ ∈ x1_.f7, (Lit.int .u8 x2_).wf = true))) → ∃ k, laws_FnExactPackOps.f k l0 = some true := by
  rintro l0 ⟨hlen, hall⟩
  apply Ev.get
  unfold laws_FnExactPackOps.f
  have hbig : ∀ y ∈ l0, bigOp y := fun y hy => by
    obtain ⟨_, b1, b2, ⟨b3, _⟩, _, _, _, b7, _⟩ := hall y hy
    exact ⟨b1, b2, by omega, by omega⟩
  obtain ⟨r, hr, hr'⟩ := ev_szOpS l0 (by omega) hbig 1048576 (by omega) (by omega)
  refine Ev.bind hr ?_
  rcases hr' with h | ⟨h0, _, hl, hok⟩
  · exact Ev.pos h (Ev.now _)
  have hto := ev_toOpS l0 hl hok
  have hl' : (l0.map cvOp).length ≤ 1048576 := by simpa using hl
  have hin := okIOp_cv hok
  have hs := ev_specPackOps _ hl' hin
  have hi := ev_implPackOps _ hl' hin
  have heo := ev_eqOpS _ hl' hin
  have hmo := ev_markOpS _ hl' hin 1 (by omega) (by omega)
  have hge := (marksO_ge (l0.map cvOp) 1).1
  have hpl := packsR_length (l0.map cvOp)
  generalize packsR (l0.map cvOp) = R at hs hi hpl
  obtain ⟨c, x⟩ := R
  simp only at hpl
  have heq := ev_eqBytesResult c x (by omega)
  have hm := ev_markBytesResult c x (by omega)
  have hh := ev_heldBytesResult c x.length (by omega)
  refine Ev.neg (by omega) (Ev.bind hto (Ev.bind hs (Ev.bind hto (Ev.bind hi (Ev.bind heq (Ev.pos rfl ?_))))))
  refine Ev.bind hto (Ev.bind heo (Ev.pos rfl (Ev.bind hmo (Ev.neg (by omega) (Ev.bind heq (Ev.succ ?_))))))
  simp only [laws_FnExactPackOps.j0]
  refine Ev.neg (by simp) (Ev.bind hm (Ev.bind hh (Ev.neg (by omega) (Ev.pos rfl ?_))))
  exact Ev.bind hto (Ev.bind hi (Ev.bind heq (Ev.pos rfl (Ev.bind hh (Ev.neg (by omega) (Ev.pos rfl (Ev.now _)))))))

end Go.Proofs.Ytehdbobpbcjmeaa.Pure

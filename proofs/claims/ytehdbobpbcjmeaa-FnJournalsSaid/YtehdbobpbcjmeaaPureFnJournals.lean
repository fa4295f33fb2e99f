/- The law FnJournals holds for all arguments: what was done is read back from its bytes, as far as they are whole. -/
import Derived.Test.YtehdbobpbcjmeaaPFnJournalsx16
import Derived.Test.YtehdbobpbcjmeaaVFnJournalsU
import Derived.Lib.Bytes
namespace Go.Proofs.Ytehdbobpbcjmeaa.Pure
open Go.RowKit Go.Proofs.Ytehdbobpbcjmeaa.PFnJournals Go.Proofs.YtehdbobpbcjmeaaW.PrintWords Go.Proofs.YtehdbobpbcjmeaaW.PrintLast Go.Proofs.Ytehdbobpbcjmeaa.U
set_option linter.unusedSimpArgs false
set_option linter.unusedVariables false

def okIOp (x : S37) : Prop := x.f1.size ≤ 1048576 ∧ x.f2.size ≤ 1048576 ∧ x.f3.length ≤ 1048576 ∧ x.f7.length ≤ 1048576
theorem rd_Op_get (x : List S37) (i : Nat) (h : i < x.length) : rd_T37 x (i : Int) = x[i] := by simp [rd_T37, List.getD_eq_getElem?_getD, h]
def twoF (n : Int) : List Int := [(wrap64 (Int.tdiv n 256)) % 256, (Int.tmod n 256) % 256]
def uidsB (l : List Int) : List Int := l.flatMap twoF
theorem uidsB_length (l : List Int) : (uidsB l).length = 2 * l.length := by
  induction l with
  | nil => rfl
  | cons a l ih =>
    unfold uidsB at ih ⊢
    rw [List.flatMap_cons, List.length_append, ih, List.length_cons]
    simp only [twoF, List.length_cons, List.length_nil]
    omega
theorem uidsB_succ (l : List Int) (i : Nat) (h : i < l.length) : uidsB (l.take (i + 1)) = uidsB (l.take i) ++ twoF l[i] := by
  unfold uidsB
  rw [List.take_succ_eq_append_getElem h, List.flatMap_append, List.flatMap_cons, List.flatMap_nil, List.append_nil]
def sumStep (s b : Int) : Int := Int.tmod (wrap64 ((wrap64 (s * 31)) + (wrap64 b))) 65521
def sumF (x : List Int) : Int := x.foldl sumStep 1
theorem sum_take (x : List Int) (i : Nat) (h : i < x.length) : (x.take (i + 1)).foldl sumStep 1 = sumStep ((x.take i).foldl sumStep 1) x[i] := by
  rw [List.take_succ_eq_append_getElem h, List.foldl_append]
  rfl
theorem ev_implSum (x : List Int) (hx : x.length ≤ 16777216) : Ev (fun k => impl_sumOf.f k x) (sumF x) := by
  unfold impl_sumOf.f
  have h := ev_iter (fun k (s : Int) i => impl_sumOf.l0 k s x (x.length : Int) i) x.length (fun i => (x.take i).foldl sumStep 1) (sumF x) ?_ ?_
  · simpa using h
  · refine Ev.succ ?_
    simp only [impl_sumOf.l0, Int.lt_irrefl, if_false, List.take_length]
    exact Ev.now _
  · intro i hi r h
    refine Ev.succ ?_
    simp only [impl_sumOf.l0, rd_get x i hi]
    refine Ev.pos (by omega) (Ev.pos (by omega) (Ev.pos (by omega) ?_))
    simp only [wsucc hi (show x.length ≤ 281474976710656 by omega)]
    rw [sum_take x i hi] at h
    exact h
theorem ev_specSum (x : List Int) (hx : x.length ≤ 16777216) : Ev (fun k => spec_l9Sum.f k x) (sumF x) := by
  unfold spec_l9Sum.f
  have h := ev_iter (fun k (s : Int) i => spec_l9Sum.l0 k x s i) x.length (fun i => (x.take i).foldl sumStep 1) (sumF x) ?_ ?_
  · simpa using h
  · refine Ev.succ ?_
    simp only [spec_l9Sum.l0, Int.lt_irrefl, if_false, List.take_length]
    exact Ev.now _
  · intro i hi r h
    refine Ev.succ ?_
    simp only [spec_l9Sum.l0, rd_get x i hi]
    refine Ev.pos (by omega) (Ev.pos (by omega) ?_)
    simp only [wsucc hi (show x.length ≤ 281474976710656 by omega)]
    rw [sum_take x i hi] at h
    exact h
def headB (o : S37) : List Int := [o.f0 % 256, (o.f1.size : Int) % 256] ++ bytesOf o.f1 ++ [(o.f2.size : Int) % 256] ++ bytesOf o.f2 ++ [(o.f3.length : Int) % 256]
def bodyB (o : S37) : List Int := headB o ++ uidsB o.f3 ++ [o.f4 % 256, o.f5 % 256] ++ twoF o.f6 ++ twoF (o.f7.length : Int) ++ o.f7
def packW (o : S37) : List Int := twoF (wrap64 (((bodyB o).length : Int) + 4)) ++ bodyB o
def packF (o : S37) : List Int := packW o ++ twoF (sumF (packW o))
theorem twoF_length (n : Int) : (twoF n).length = 2 := rfl
theorem headB_length (o : S37) : (headB o).length = 4 + o.f1.size + o.f2.size := by
  simp only [headB, List.length_append, bytesOf_length, List.length_cons, List.length_nil]
  omega
theorem bodyB_length (o : S37) : (bodyB o).length = 10 + o.f1.size + o.f2.size + 2 * o.f3.length + o.f7.length := by
  simp only [bodyB, List.length_append, headB_length, uidsB_length, twoF_length, List.length_cons, List.length_nil]
  omega
theorem packW_length (o : S37) : (packW o).length = 12 + o.f1.size + o.f2.size + 2 * o.f3.length + o.f7.length := by
  simp only [packW, List.length_append, bodyB_length, twoF_length]
  omega
theorem packF_length (o : S37) : (packF o).length = 14 + o.f1.size + o.f2.size + 2 * o.f3.length + o.f7.length := by
  simp only [packF, List.length_append, packW_length, twoF_length]
  omega
theorem ev_packed (o : S37) (ho : okIOp o) : Ev (fun k => impl_packed.f k o.f0 o.f1 o.f2 o.f3 o.f4 o.f5 o.f6 o.f7) (packF o) := by
  obtain ⟨h1, h2, h3, h7⟩ := ho
  unfold impl_packed.f
  simp only [Option.bind_some, List.length_append, bytesOf_length, List.length_cons, List.length_nil]
  refine Ev.pos (by omega) (Ev.pos (by omega) (Ev.pos (by omega) (Ev.pos (by omega) ?_)))
  have h := ev_iter (fun k (s : List Int) i => impl_packed.l0 k s o.f3 (o.f3.length : Int) i o.f0 o.f1 o.f2 o.f3 o.f4 o.f5 o.f6 o.f7) o.f3.length (fun i => headB o ++ uidsB (o.f3.take i)) (packF o) ?_ ?_
  · simpa [headB, uidsB] using h
  · refine Ev.succ ?_
    have hb : ((((headB o ++ uidsB o.f3) ++ [o.f4 % 256, o.f5 % 256]) ++ twoF o.f6) ++ twoF (o.f7.length : Int)) ++ o.f7 = bodyB o := rfl
    have hw : twoF (wrap64 (((bodyB o).length : Int) + 4)) ++ bodyB o = packW o := rfl
    have hf : packW o ++ twoF (sumF (packW o)) = packF o := rfl
    have l1 : (headB o ++ uidsB o.f3).length = 4 + o.f1.size + o.f2.size + 2 * o.f3.length := by simp only [List.length_append, headB_length, uidsB_length]
    have l2 := bodyB_length o
    have l3 := packW_length o
    simp only [impl_packed.l0, impl_two.f, impl_length_byte.f, Int.lt_irrefl, if_false, List.take_length, Option.bind_some]
    change Ev (fun k => if (headB o ++ uidsB o.f3).length + 2 < 140737488355328 then if ((headB o ++ uidsB o.f3) ++ [o.f4 % 256, o.f5 % 256]).length + 2 < 140737488355328 then if (((headB o ++ uidsB o.f3) ++ [o.f4 % 256, o.f5 % 256]) ++ twoF o.f6).length + 2 < 140737488355328 then if ((((headB o ++ uidsB o.f3) ++ [o.f4 % 256, o.f5 % 256]) ++ twoF o.f6) ++ twoF (o.f7.length : Int)).length + o.f7.length < 140737488355328 then if 2 + (bodyB o).length < 140737488355328 then (impl_sumOf.f k (packW o)).bind fun t => if (packW o).length + 2 < 140737488355328 then some (packW o ++ twoF t) else none else none else none else none else none else none) (packF o)
    simp only [List.length_append, headB_length, uidsB_length, twoF_length, bodyB_length, packW_length, List.length_cons, List.length_nil]
    exact Ev.pos (by omega) (Ev.pos (by omega) (Ev.pos (by omega) (Ev.pos (by omega) (Ev.pos (by omega) (Ev.bind (ev_implSum _ (by omega)) (Ev.pos (by omega) (Ev.now _)))))))
  · intro i hi r h
    refine Ev.succ ?_
    simp only [impl_packed.l0, impl_two.f, rd_get o.f3 i hi, Option.bind_some, wsucc hi (show o.f3.length ≤ 281474976710656 by omega)]
    rw [uidsB_succ o.f3 i hi, ← List.append_assoc] at h
    refine Ev.pos (by omega) (Ev.pos (by omega) (Ev.pos (by omega) (Ev.pos ?_ h)))
    simp only [List.length_append, headB_length, uidsB_length, List.length_take, List.length_cons, List.length_nil]
    omega
theorem cpy_two (n : Int) (x : List Int) : cpy ([0, 0] ++ x) (twoF n) = twoF n ++ x := by
  unfold cpy
  rw [List.take_of_length_le (by simp [twoF])]
  rfl
theorem ev_l9Pack (o : S37) (l : List S37) (ho : okIOp o) : Ev (fun k => spec_l9Pack.f k (o :: l)) (packF o) := by
  obtain ⟨h1, h2, h3, h7⟩ := ho
  have hr : rd_T37 (o :: l) 0 = o := rfl
  have hp : 0 < ((o :: l).length : Int) := by simp
  unfold spec_l9Pack.f
  simp only [hr, if_pos hp, Option.bind_some, List.length_append, bytesOf_length, List.length_cons, List.length_nil]
  refine Ev.pos (by omega) (Ev.pos (by omega) (Ev.pos (by omega) (Ev.pos (by omega) (Ev.pos (by omega) (Ev.pos (by omega) (Ev.pos (by omega) ?_))))))
  have h := ev_iter (fun k (s : List Int) i => spec_l9Pack.l0 k (o :: l) s i) o.f3.length (fun i => ([0, 0] ++ headB o) ++ uidsB (o.f3.take i)) (packF o) ?_ ?_
  · simpa [headB, uidsB] using h
  · refine Ev.succ ?_
    have l2 := bodyB_length o
    have l3 := packW_length o
    have hb : (((((([0, 0] ++ headB o) ++ uidsB o.f3) ++ [o.f4 % 256, o.f5 % 256]) ++ twoF o.f6) ++ twoF (o.f7.length : Int)) ++ o.f7) = [0, 0] ++ bodyB o := by simp only [bodyB, List.append_assoc]
    simp only [spec_l9Pack.l0, spec_l9Two.f, hr, if_pos hp, Int.lt_irrefl, if_false, List.take_length, Option.bind_some]
    change Ev (fun k => if (([0, 0] ++ headB o) ++ uidsB o.f3).length + 2 < 140737488355328 then if ((([0, 0] ++ headB o) ++ uidsB o.f3) ++ [o.f4 % 256, o.f5 % 256]).length + 2 < 140737488355328 then if (((([0, 0] ++ headB o) ++ uidsB o.f3) ++ [o.f4 % 256, o.f5 % 256]) ++ twoF o.f6).length + 2 < 140737488355328 then if ((((([0, 0] ++ headB o) ++ uidsB o.f3) ++ [o.f4 % 256, o.f5 % 256]) ++ twoF o.f6) ++ twoF (o.f7.length : Int)).length + o.f7.length < 140737488355328 then (spec_l9Sum.f k (cpy (((((([0, 0] ++ headB o) ++ uidsB o.f3) ++ [o.f4 % 256, o.f5 % 256]) ++ twoF o.f6) ++ twoF (o.f7.length : Int)) ++ o.f7) (twoF (wrap64 (((((((([0, 0] ++ headB o) ++ uidsB o.f3) ++ [o.f4 % 256, o.f5 % 256]) ++ twoF o.f6) ++ twoF (o.f7.length : Int)) ++ o.f7).length : Int) + 2))))).bind fun t => if (cpy (((((([0, 0] ++ headB o) ++ uidsB o.f3) ++ [o.f4 % 256, o.f5 % 256]) ++ twoF o.f6) ++ twoF (o.f7.length : Int)) ++ o.f7) (twoF (wrap64 (((((((([0, 0] ++ headB o) ++ uidsB o.f3) ++ [o.f4 % 256, o.f5 % 256]) ++ twoF o.f6) ++ twoF (o.f7.length : Int)) ++ o.f7).length : Int) + 2)))).length + 2 < 140737488355328 then some (cpy (((((([0, 0] ++ headB o) ++ uidsB o.f3) ++ [o.f4 % 256, o.f5 % 256]) ++ twoF o.f6) ++ twoF (o.f7.length : Int)) ++ o.f7) (twoF (wrap64 (((((((([0, 0] ++ headB o) ++ uidsB o.f3) ++ [o.f4 % 256, o.f5 % 256]) ++ twoF o.f6) ++ twoF (o.f7.length : Int)) ++ o.f7).length : Int) + 2))) ++ twoF t) else none else none else none else none else none) (packF o)
    have hn : wrap64 ((([0, 0] ++ bodyB o).length : Int) + 2) = wrap64 (((bodyB o).length : Int) + 4) := by
      have e1 : (([0, 0] ++ bodyB o).length : Int) = ((bodyB o).length : Int) + 2 := by rw [List.length_append]; simp only [List.length_cons, List.length_nil]; omega
      rw [e1, Int.add_assoc]
      rfl
    rw [hb, cpy_two, hn]
    change Ev (fun k => if (([0, 0] ++ headB o) ++ uidsB o.f3).length + 2 < 140737488355328 then if ((([0, 0] ++ headB o) ++ uidsB o.f3) ++ [o.f4 % 256, o.f5 % 256]).length + 2 < 140737488355328 then if (((([0, 0] ++ headB o) ++ uidsB o.f3) ++ [o.f4 % 256, o.f5 % 256]) ++ twoF o.f6).length + 2 < 140737488355328 then if ((((([0, 0] ++ headB o) ++ uidsB o.f3) ++ [o.f4 % 256, o.f5 % 256]) ++ twoF o.f6) ++ twoF (o.f7.length : Int)).length + o.f7.length < 140737488355328 then (spec_l9Sum.f k (packW o)).bind fun t => if (packW o).length + 2 < 140737488355328 then some (packW o ++ twoF t) else none else none else none else none else none) (packF o)
    simp only [List.length_append, headB_length, uidsB_length, twoF_length, packW_length, List.length_cons, List.length_nil]
    exact Ev.pos (by omega) (Ev.pos (by omega) (Ev.pos (by omega) (Ev.pos (by omega) (Ev.bind (ev_specSum _ (by omega)) (Ev.pos (by omega) (Ev.now _))))))
  · intro i hi r h
    refine Ev.succ ?_
    simp only [spec_l9Pack.l0, spec_l9Two.f, hr, if_pos hp, rd_get o.f3 i hi, Option.bind_some, wsucc hi (show o.f3.length ≤ 281474976710656 by omega)]
    rw [uidsB_succ o.f3 i hi, ← List.append_assoc] at h
    refine Ev.pos (by omega) (Ev.pos (by omega) (Ev.pos ?_ h))
    simp only [List.length_append, headB_length, uidsB_length, List.length_take, List.length_cons, List.length_nil]
    omega
def isWord (s : ByteArray) (most : Int) : Bool := (List.range s.size).all (fun i => decide (97 ≤ bt s (i : Int) ∧ bt s (i : Int) ≤ 122)) && decide (1 ≤ (s.size : Int) ∧ (s.size : Int) ≤ most)
def copiesOp (o : S37) : Bool := decide (o.f0 = 5) || decide (o.f0 = 6)
def onlyOp (o : S37) : Bool := (copiesOp o || decide (o.f2.toList = [])) && (((copiesOp o || decide (o.f0 = 4)) || decide (o.f3.length = 0)) && ((decide (o.f0 = 4) || decide (o.f4 = 0)) && ((decide (o.f0 = 4) || (decide (o.f0 = 3) || decide (o.f5 = 0))) && (decide (o.f0 = 3) || (decide (o.f6 = 0) && decide (o.f7.length = 0))))))
def formOp (o : S37) : Bool := decide (1 ≤ o.f0 ∧ o.f0 ≤ 7) && onlyOp o
def nameOp (o : S37) : Bool := isWord o.f1 8 && (!copiesOp o || isWord o.f2 8)
def uidStep (x : List Int) (i : Nat) : Option Bool := if 1 ≤ rd x (i : Int) ∧ rd x (i : Int) ≤ 999 then (if 0 < i ∧ rd x (i : Int) ≤ rd x ((i - 1 : Nat) : Int) then some false else none) else some false
def uidsOk (x : List Int) : Bool := ((List.range x.length).findSome? (uidStep x)).getD true
def rangeOp (o : S37) : Bool := uidsOk o.f3 && ((!decide (o.f0 = 4) || decide (1 ≤ o.f4 ∧ o.f4 ≤ 3)) && (decide (0 ≤ o.f5 ∧ o.f5 ≤ 15) && decide (0 ≤ o.f6 ∧ o.f6 ≤ 9999)))
def lateFault (o : S37) (b : Bool) : Int := if b = true then 3 else if 400 < o.f7.length then 2 else 0
def midFault (o : S37) (b : Bool) : Int := if b = true then 5 else if 6 < o.f3.length then 2 else lateFault o (!rangeOp o)
def opFault (o : S37) : Int := if formOp o = true then midFault o (!nameOp o) else 1
theorem kinds (n : Int) : n = 5 ∨ n = 6 ∨ n = 4 ∨ n = 3 ∨ (n ≠ 5 ∧ n ≠ 6 ∧ n ≠ 4 ∧ n ≠ 3) := by omega
theorem ev_isSmallWord (s : ByteArray) (most : Int) (hs : s.size ≤ 281474976710656) : Ev (fun k => impl_isSmallWord.f k s most) (isWord s most) := by
  unfold impl_isSmallWord.f isWord
  have h := ev_findI (fun k i => impl_isSmallWord.l0 k s most (s.size : Int) i) s.size (fun i => if decide (97 ≤ bt s (i : Int) ∧ bt s (i : Int) ≤ 122) = true then none else some false) (decide (1 ≤ (s.size : Int) ∧ (s.size : Int) ≤ most)) ?_ ?_ ?_
  · rw [find_guard] at h
    by_cases hall : (List.range s.size).all (fun i => decide (97 ≤ bt s (i : Int) ∧ bt s (i : Int) ≤ 122)) = true
    · rw [if_pos hall] at h; rw [hall, Bool.true_and]; exact h
    · rw [if_neg hall] at h; rw [Bool.not_eq_true] at hall; rw [hall, Bool.false_and]; exact h
  · refine Ev.succ ?_
    simp only [impl_isSmallWord.l0, Int.lt_irrefl, if_false]
    by_cases h1 : 1 ≤ (s.size : Int)
    · refine Ev.pos h1 ?_; simp only [h1, true_and]; exact Ev.now _
    · refine Ev.neg h1 ?_; simp only [h1, false_and, decide_false]; exact Ev.now _
  · intro i hi r hr
    by_cases hc : 97 ≤ bt s (i : Int) ∧ bt s (i : Int) ≤ 122
    · rw [if_pos (decide_eq_true hc)] at hr; cases hr
    rw [if_neg (by simpa using hc)] at hr; cases hr
    refine Ev.succ ?_
    simp only [impl_isSmallWord.l0]
    refine Ev.pos (by omega) (Ev.pos (by omega) (Ev.pos (by omega) ?_))
    by_cases h1 : bt s (i : Int) < 97
    · exact Ev.pos h1 (Ev.now _)
    · exact Ev.neg h1 (Ev.pos (by omega) (Ev.now _))
  · intro i hi hr r h
    by_cases hc : 97 ≤ bt s (i : Int) ∧ bt s (i : Int) ≤ 122
    case neg => rw [if_neg (by simpa using hc)] at hr; cases hr
    refine Ev.succ ?_
    simp only [impl_isSmallWord.l0]
    refine Ev.pos (by omega) (Ev.pos (by omega) (Ev.pos (by omega) (Ev.neg (by omega) (Ev.neg (by omega) ?_))))
    simp only [wsucc hi (show s.size ≤ 281474976710656 by omega)]
    exact h
theorem within_eq (a b c : Int) : impl_within.f a b c = some (decide (b ≤ a ∧ a ≤ c)) := by
  unfold impl_within.f
  by_cases h : b ≤ a <;> simp [h]
theorem hasTo_eq (o : S37) : impl_Op_hasTo.f o.f0 o.f1 o.f2 o.f3 o.f4 o.f5 o.f6 o.f7 = some (copiesOp o) := by
  unfold impl_Op_hasTo.f copiesOp
  by_cases h : o.f0 = 5 <;> simp [h]
  by_cases h : o.f0 = 6 <;> simp [h]
theorem hasUids_eq (o : S37) : impl_Op_hasUids.f o.f0 o.f1 o.f2 o.f3 o.f4 o.f5 o.f6 o.f7 = some (copiesOp o || decide (o.f0 = 4)) := by
  unfold impl_Op_hasUids.f
  rw [hasTo_eq]
  cases copiesOp o <;> simp
  by_cases h : o.f0 = 4 <;> simp [h]
theorem isOnly_eq (o : S37) : impl_Op_isOnly.f o.f0 o.f1 o.f2 o.f3 o.f4 o.f5 o.f6 o.f7 = some (onlyOp o) := by
  unfold impl_Op_isOnly.f onlyOp
  rw [hasTo_eq, hasUids_eq]
  rcases kinds o.f0 with h | h | h | h | ⟨h5, h6, h4, h3⟩ <;> by_cases e2 : o.f2.toList = [] <;> by_cases e3 : o.f3.length = 0 <;> by_cases e4 : o.f4 = 0 <;> by_cases e5 : o.f5 = 0 <;> by_cases e6 : o.f6 = 0 <;> by_cases e7 : o.f7.length = 0 <;> simp_all [copiesOp]
theorem ev_isName (s : ByteArray) (hs : s.size ≤ 1048576) : Ev (fun k => impl_isName.f k s) (isWord s 8) := by
  unfold impl_isName.f
  exact Ev.bind (ev_isSmallWord s 8 (by omega)) (Ev.now _)
theorem ev_areUids (x : List Int) (hx : x.length ≤ 1048576) : Ev (fun k => impl_areUids.f k x) (uidsOk x) := by
  unfold impl_areUids.f uidsOk
  refine ev_findI (fun k i => impl_areUids.l0 k x x (x.length : Int) i) x.length (uidStep x) true ?_ ?_ ?_
  · refine Ev.succ ?_
    simp only [impl_areUids.l0, Int.lt_irrefl, if_false]
    exact Ev.now _
  · intro i hi r hr
    refine Ev.succ ?_
    simp only [impl_areUids.l0, impl_isUid.f, within_eq, Option.bind_some]
    refine Ev.pos (by omega) (Ev.pos (by omega) (Ev.pos (by omega) ?_))
    unfold uidStep at hr
    by_cases h1 : 1 ≤ rd x (i : Int) ∧ rd x (i : Int) ≤ 999
    case neg => rw [if_neg h1] at hr; cases hr; exact Ev.neg (by simpa using h1) (Ev.now _)
    rw [if_pos h1] at hr
    refine Ev.pos (decide_eq_true h1) ?_
    by_cases h2 : 0 < i ∧ rd x (i : Int) ≤ rd x ((i - 1 : Nat) : Int)
    case neg => rw [if_neg h2] at hr; cases hr
    rw [if_pos h2] at hr; cases hr
    simp only [wpred h2.1 (show i ≤ 281474976710656 by omega)]
    exact Ev.pos (by omega) (Ev.pos (by omega) (Ev.pos (by omega) (Ev.pos h2.2 (Ev.now _))))
  · intro i hi hr r h
    refine Ev.succ ?_
    simp only [impl_areUids.l0, impl_isUid.f, within_eq, Option.bind_some, wsucc hi (show x.length ≤ 281474976710656 by omega)]
    refine Ev.pos (by omega) (Ev.pos (by omega) (Ev.pos (by omega) ?_))
    unfold uidStep at hr
    by_cases h1 : 1 ≤ rd x (i : Int) ∧ rd x (i : Int) ≤ 999
    case neg => rw [if_neg h1] at hr; cases hr
    rw [if_pos h1] at hr
    refine Ev.pos (decide_eq_true h1) ?_
    by_cases h2 : 0 < i ∧ rd x (i : Int) ≤ rd x ((i - 1 : Nat) : Int)
    · rw [if_pos h2] at hr; cases hr
    by_cases h3 : 0 < i
    · simp only [wpred h3 (show i ≤ 281474976710656 by omega)]
      exact Ev.pos (by omega) (Ev.pos (by omega) (Ev.pos (by omega) (Ev.neg (fun q => h2 ⟨h3, q⟩) h)))
    · exact Ev.neg (by omega) h
theorem ev_implOpFault (o : S37) (ho : okIOp o) : Ev (fun k => impl_OpFault.f k o.f0 o.f1 o.f2 o.f3 o.f4 o.f5 o.f6 o.f7) (opFault o) := by
  have j2 : ∀ b, Ev (fun k => impl_OpFault.j2 k b o.f0 o.f1 o.f2 o.f3 o.f4 o.f5 o.f6 o.f7) (lateFault o b) := by
    intro b
    refine Ev.succ ?_
    simp only [impl_OpFault.j2, lateFault]
    exact Ev.ite (fun _ => Ev.now _) (fun _ => by
      by_cases h : 400 < o.f7.length
      · rw [if_pos h]; exact Ev.pos (by omega) (Ev.now _)
      · rw [if_neg h]; exact Ev.neg (by omega) (Ev.now _))
  have j1 : ∀ b, Ev (fun k => impl_OpFault.j1 k b o.f0 o.f1 o.f2 o.f3 o.f4 o.f5 o.f6 o.f7) (midFault o b) := by
    intro b
    refine Ev.succ ?_
    simp only [impl_OpFault.j1, midFault]
    refine Ev.ite (fun _ => Ev.now _) (fun _ => ?_)
    by_cases h6 : 6 < o.f3.length
    · rw [if_pos h6]; exact Ev.pos (by omega) (Ev.now _)
    rw [if_neg h6]
    refine Ev.neg (by omega) (Ev.bind (ev_areUids o.f3 ho.2.2.1) ?_)
    simp only [impl_areFlags.f, impl_isDate.f, within_eq, Option.bind_some]
    by_cases hu : uidsOk o.f3 = true
    case neg =>
      have : rangeOp o = false := by simp [rangeOp, hu]
      rw [this]; exact Ev.neg hu (j2 true)
    refine Ev.pos hu ?_
    by_cases hf : 0 ≤ o.f5 ∧ o.f5 ≤ 15
    case neg =>
      have e : rangeOp o = false := by simp only [rangeOp, decide_eq_false hf]; simp
      rw [e]
      by_cases h4 : o.f0 = 4
      · refine Ev.pos h4 ?_
        by_cases hm : 1 ≤ o.f4 ∧ o.f4 ≤ 3
        · exact Ev.pos (decide_eq_true hm) (Ev.neg (by simpa using hf) (j2 true))
        · exact Ev.neg (by simpa using hm) (j2 true)
      · exact Ev.neg h4 (Ev.neg (by simpa using hf) (j2 true))
    by_cases h4 : o.f0 = 4
    · refine Ev.pos h4 ?_
      by_cases hm : 1 ≤ o.f4 ∧ o.f4 ≤ 3
      · refine Ev.pos (decide_eq_true hm) (Ev.pos (decide_eq_true hf) ?_)
        have e : rangeOp o = decide (0 ≤ o.f6 ∧ o.f6 ≤ 9999) := by simp only [rangeOp, decide_eq_true hf, decide_eq_true hm, hu]; simp
        rw [e]; exact j2 _
      · have e : rangeOp o = false := by simp only [rangeOp, decide_eq_false hm, decide_eq_true h4]; simp
        rw [e]; exact Ev.neg (by simpa using hm) (j2 true)
    · refine Ev.neg h4 (Ev.pos (decide_eq_true hf) ?_)
      have e : rangeOp o = decide (0 ≤ o.f6 ∧ o.f6 ≤ 9999) := by simp only [rangeOp, decide_eq_true hf, decide_eq_false h4, hu]; simp
      rw [e]; exact j2 _
  have j0 : ∀ b, Ev (fun k => impl_OpFault.j0 k b o.f0 o.f1 o.f2 o.f3 o.f4 o.f5 o.f6 o.f7) (if b = true then 1 else midFault o (!nameOp o)) := by
    intro b
    refine Ev.succ ?_
    simp only [impl_OpFault.j0, hasTo_eq, Option.bind_some]
    refine Ev.ite (fun _ => Ev.now _) (fun _ => Ev.bind (ev_isName o.f1 ho.1) ?_)
    by_cases h1 : isWord o.f1 8 = true
    case neg => rw [show nameOp o = false by simp [nameOp, h1]]; exact Ev.neg h1 (j1 true)
    refine Ev.pos h1 ?_
    by_cases hc : copiesOp o = true
    · refine Ev.pos hc (Ev.bind (ev_isName o.f2 ho.2.1) ?_)
      rw [show nameOp o = isWord o.f2 8 by simp [nameOp, h1, hc]]
      exact j1 _
    · refine Ev.neg hc ?_
      rw [show nameOp o = true by simp [nameOp, h1, hc]]
      exact j1 false
  unfold impl_OpFault.f opFault
  simp only [within_eq, Option.bind_some, isOnly_eq]
  by_cases h1 : 1 ≤ o.f0 ∧ o.f0 ≤ 7
  case neg =>
    rw [show formOp o = false by simp only [formOp, decide_eq_false h1]; simp]
    exact Ev.neg (by simpa using h1) (j0 true)
  refine Ev.pos (decide_eq_true h1) ?_
  have h := j0 (!onlyOp o)
  rw [show formOp o = onlyOp o by simp only [formOp, decide_eq_true h1]; simp]
  cases ho' : onlyOp o <;> simp only [ho'] at h <;> exact h
theorem l1In_eq (a b c : Int) : spec_l1In.f a b c = some (decide (b ≤ a ∧ a ≤ c)) := by
  unfold spec_l1In.f
  by_cases h : b ≤ a <;> simp [h]
theorem ev_l7Name (s : ByteArray) (hs : s.size ≤ 281474976710656) : Ev (fun k => spec_l7Name.f k s) (isWord s 8) := by
  unfold spec_l7Name.f isWord
  have h := ev_findI (fun k i => spec_l7Name.l0 k s i) s.size (fun i => if decide (97 ≤ bt s (i : Int) ∧ bt s (i : Int) ≤ 122) = true then none else some false) (decide (1 ≤ (s.size : Int) ∧ (s.size : Int) ≤ 8)) ?_ ?_ ?_
  · rw [find_guard] at h
    by_cases hall : (List.range s.size).all (fun i => decide (97 ≤ bt s (i : Int) ∧ bt s (i : Int) ≤ 122)) = true
    · rw [if_pos hall] at h; rw [hall, Bool.true_and]; exact h
    · rw [if_neg hall] at h; rw [Bool.not_eq_true] at hall; rw [hall, Bool.false_and]; exact h
  · refine Ev.succ ?_
    simp only [spec_l7Name.l0, Int.lt_irrefl, if_false, l1In_eq, Option.bind_some]
    exact Ev.now _
  · intro i hi r hr
    by_cases hc : 97 ≤ bt s (i : Int) ∧ bt s (i : Int) ≤ 122
    · rw [if_pos (decide_eq_true hc)] at hr; cases hr
    rw [if_neg (by simpa using hc)] at hr; cases hr
    refine Ev.succ ?_
    simp only [spec_l7Name.l0]
    refine Ev.pos (by omega) (Ev.pos (by omega) ?_)
    by_cases h1 : bt s (i : Int) < 97
    · exact Ev.pos h1 (Ev.now _)
    · exact Ev.neg h1 (Ev.pos (by omega) (Ev.now _))
  · intro i hi hr r h
    by_cases hc : 97 ≤ bt s (i : Int) ∧ bt s (i : Int) ≤ 122
    case neg => rw [if_neg (by simpa using hc)] at hr; cases hr
    refine Ev.succ ?_
    simp only [spec_l7Name.l0]
    refine Ev.pos (by omega) (Ev.pos (by omega) (Ev.neg (by omega) (Ev.neg (by omega) ?_)))
    simp only [wsucc hi (show s.size ≤ 281474976710656 by omega)]
    exact h
theorem l8Copies_eq (o : S37) : spec_l8Copies.f o.f0 = some (copiesOp o) := by
  unfold spec_l8Copies.f copiesOp
  by_cases h : o.f0 = 5 <;> simp [h]
  by_cases h : o.f0 = 6 <;> simp [h]
theorem ev_l8Form (o : S37) (l : List S37) : Ev (fun k => spec_l8Form.f k (o :: l)) (formOp o) := by
  have e : rd_T37 (o :: l) 0 = o := rfl
  have hp : (0 : Int) < ((o :: l).length : Int) := by simp only [List.length_cons]; omega
  have yes : ∀ k, spec_l8Form.j0 (k + 1) (o :: l) true = some false := fun k => by simp only [spec_l8Form.j0, if_true]
  have one : ∀ k, spec_l8Form.j1 (k + 1) (o :: l) true = some false := fun k => by simp only [spec_l8Form.j1, if_true]
  refine Ev.at 5 (fun k => ?_)
  unfold spec_l8Form.f
  rw [if_pos hp]
  simp only [e, l1In_eq, l8Copies_eq, Option.bind_some]
  by_cases h1 : 1 ≤ o.f0 ∧ o.f0 ≤ 7
  case neg => rw [if_neg (by simpa using h1), yes]; simp [formOp, decide_eq_false h1]
  rw [if_pos (decide_eq_true h1)]
  have ef : formOp o = onlyOp o := by simp only [formOp, decide_eq_true h1]; simp
  rw [ef]
  unfold onlyOp
  simp only [spec_l8Form.j0, spec_l8Form.j1, if_pos hp, e, l8Copies_eq, Option.bind_some]
  rcases kinds o.f0 with h | h | h | h | ⟨h5, h6, h4, h3⟩ <;> by_cases e2 : o.f2.toList = [] <;> by_cases e3 : o.f3.length = 0 <;> by_cases e4 : o.f4 = 0 <;> by_cases e5 : o.f5 = 0 <;> by_cases e6 : o.f6 = 0 <;> by_cases e7 : o.f7.length = 0 <;> simp_all [copiesOp] <;> omega
theorem ev_l8Uids (x : List Int) (hx : x.length ≤ 1048576) : Ev (fun k => spec_l8Uids.f k x) (uidsOk x) := by
  unfold spec_l8Uids.f uidsOk
  refine ev_findI (fun k i => spec_l8Uids.l0 k x i) x.length (uidStep x) true ?_ ?_ ?_
  · refine Ev.succ ?_
    simp only [spec_l8Uids.l0, Int.lt_irrefl, if_false]
    exact Ev.now _
  · intro i hi r hr
    refine Ev.succ ?_
    simp only [spec_l8Uids.l0, l1In_eq, Option.bind_some]
    refine Ev.pos (by omega) (Ev.pos (by omega) ?_)
    unfold uidStep at hr
    by_cases h1 : 1 ≤ rd x (i : Int) ∧ rd x (i : Int) ≤ 999
    case neg => rw [if_neg h1] at hr; cases hr; exact Ev.neg (by simpa using h1) (Ev.now _)
    rw [if_pos h1] at hr
    refine Ev.pos (decide_eq_true h1) ?_
    by_cases h2 : 0 < i ∧ rd x (i : Int) ≤ rd x ((i - 1 : Nat) : Int)
    case neg => rw [if_neg h2] at hr; cases hr
    rw [if_pos h2] at hr; cases hr
    simp only [wpred h2.1 (show i ≤ 281474976710656 by omega)]
    exact Ev.pos (by omega) (Ev.pos (by omega) (Ev.pos (by omega) (Ev.pos h2.2 (Ev.now _))))
  · intro i hi hr r h
    refine Ev.succ ?_
    simp only [spec_l8Uids.l0, l1In_eq, Option.bind_some, wsucc hi (show x.length ≤ 281474976710656 by omega)]
    refine Ev.pos (by omega) (Ev.pos (by omega) ?_)
    unfold uidStep at hr
    by_cases h1 : 1 ≤ rd x (i : Int) ∧ rd x (i : Int) ≤ 999
    case neg => rw [if_neg h1] at hr; cases hr
    rw [if_pos h1] at hr
    refine Ev.pos (decide_eq_true h1) ?_
    by_cases h2 : 0 < i ∧ rd x (i : Int) ≤ rd x ((i - 1 : Nat) : Int)
    · rw [if_pos h2] at hr; cases hr
    by_cases h3 : 0 < i
    · simp only [wpred h3 (show i ≤ 281474976710656 by omega)]
      exact Ev.pos (by omega) (Ev.pos (by omega) (Ev.pos (by omega) (Ev.neg (fun q => h2 ⟨h3, q⟩) h)))
    · exact Ev.neg (by omega) h
theorem ev_l8Fault (o : S37) (l : List S37) (ho : okIOp o) : Ev (fun k => spec_l8Fault.f k (o :: l)) (opFault o) := by
  have e : rd_T37 (o :: l) 0 = o := rfl
  have hp : (0 : Int) < ((o :: l).length : Int) := by simp only [List.length_cons]; omega
  have j1 : ∀ b, Ev (fun k => spec_l8Fault.j1 k (o :: l) b) (lateFault o b) := by
    intro b
    refine Ev.succ ?_
    simp only [spec_l8Fault.j1, lateFault, e]
    exact Ev.ite (fun _ => Ev.now _) (fun _ => Ev.pos hp (by
      by_cases h : 400 < o.f7.length
      · rw [if_pos h]; exact Ev.pos (by omega) (Ev.now _)
      · rw [if_neg h]; exact Ev.neg (by omega) (Ev.now _)))
  have j0 : ∀ b, Ev (fun k => spec_l8Fault.j0 k (o :: l) b) (midFault o b) := by
    intro b
    refine Ev.succ ?_
    simp only [spec_l8Fault.j0, midFault, e]
    refine Ev.ite (fun _ => Ev.now _) (fun _ => Ev.pos hp ?_)
    by_cases h6 : 6 < o.f3.length
    · rw [if_pos h6]; exact Ev.pos (by omega) (Ev.now _)
    rw [if_neg h6]
    refine Ev.neg (by omega) (Ev.bind (ev_l8Uids o.f3 ho.2.2.1) ?_)
    simp only [l1In_eq, Option.bind_some]
    by_cases hu : uidsOk o.f3 = true
    case neg =>
      have : rangeOp o = false := by simp [rangeOp, hu]
      rw [this]; exact Ev.neg hu (j1 true)
    refine Ev.pos hu ?_
    by_cases hf : 0 ≤ o.f5 ∧ o.f5 ≤ 15
    case neg =>
      have e : rangeOp o = false := by simp only [rangeOp, decide_eq_false hf]; simp
      rw [e]
      by_cases h4 : o.f0 = 4
      · refine Ev.pos h4 ?_
        by_cases hm : 1 ≤ o.f4 ∧ o.f4 ≤ 3
        · exact Ev.pos (decide_eq_true hm) (Ev.neg (by simpa using hf) (j1 true))
        · exact Ev.neg (by simpa using hm) (j1 true)
      · exact Ev.neg h4 (Ev.neg (by simpa using hf) (j1 true))
    by_cases h4 : o.f0 = 4
    · refine Ev.pos h4 ?_
      by_cases hm : 1 ≤ o.f4 ∧ o.f4 ≤ 3
      · refine Ev.pos (decide_eq_true hm) (Ev.pos (decide_eq_true hf) ?_)
        have e : rangeOp o = decide (0 ≤ o.f6 ∧ o.f6 ≤ 9999) := by simp only [rangeOp, decide_eq_true hf, decide_eq_true hm, hu]; simp
        rw [e]; exact j1 _
      · have e : rangeOp o = false := by simp only [rangeOp, decide_eq_false hm, decide_eq_true h4]; simp
        rw [e]; exact Ev.neg (by simpa using hm) (j1 true)
    · refine Ev.neg h4 (Ev.pos (decide_eq_true hf) ?_)
      have e : rangeOp o = decide (0 ≤ o.f6 ∧ o.f6 ≤ 9999) := by simp only [rangeOp, decide_eq_true hf, decide_eq_false h4, hu]; simp
      rw [e]; exact j1 _
  unfold spec_l8Fault.f opFault
  refine Ev.bind (ev_l8Form o l) (Ev.ite (fun _ => Ev.pos hp ?_) (fun _ => Ev.now _))
  simp only [e, l8Copies_eq, Option.bind_some]
  refine Ev.bind (ev_l7Name o.f1 (by have := ho.1; omega)) ?_
  by_cases h1 : isWord o.f1 8 = true
  case neg => rw [show nameOp o = false by simp [nameOp, h1]]; exact Ev.neg h1 (j0 true)
  refine Ev.pos h1 ?_
  by_cases hc : copiesOp o = true
  · refine Ev.pos hc (Ev.bind (ev_l7Name o.f2 (by have := ho.2.1; omega)) ?_)
    rw [show nameOp o = isWord o.f2 8 by simp [nameOp, h1, hc]]
    exact j0 _
  · refine Ev.neg hc ?_
    rw [show nameOp o = true by simp [nameOp, h1, hc]]
    exact j0 false
def sameL {α : Type} (p : α → α → Bool) (x y : List α) : Bool := decide (x.length = y.length) && (x.zip y).all (fun q => p q.1 q.2)
theorem ev_sameL {α : Type} (l : Nat → Int → Option Bool) (x y : List α) (p : α → α → Bool) (hxy : x.length = y.length) (stop : Ev (fun k => l k (x.length : Int)) true)
    (no : ∀ (i : Nat) (hi : i < x.length) (hj : i < y.length), p x[i] y[i] = false → Ev (fun k => l k (i : Int)) false)
    (on : ∀ (i : Nat) (hi : i < x.length) (hj : i < y.length), p x[i] y[i] = true → ∀ r, Ev (fun k => l k ((i + 1 : Nat) : Int)) r → Ev (fun k => l k (i : Int)) r) : Ev (fun k => l k 0) (sameL p x y) := by
  have hlen : (x.zip y).length = x.length := by rw [List.length_zip]; omega
  have h := ev_find l (x.zip y) (fun q => if p q.1 q.2 = true then none else some false) true (by rw [hlen]; exact stop) ?_ ?_
  · rw [find_guard] at h
    unfold sameL
    rw [decide_eq_true hxy, Bool.true_and]
    cases ha : (x.zip y).all (fun q => p q.1 q.2) <;> simp only [ha] at h <;> exact h
  · intro i hi r hr
    rw [hlen] at hi
    simp only [List.getElem_zip] at hr
    cases hp : p x[i] (y[i]'(by omega))
    · simp only [hp] at hr; cases hr; exact no i hi (by omega) hp
    · simp only [hp] at hr; cases hr
  · intro i hi hr r h
    rw [hlen] at hi
    simp only [List.getElem_zip] at hr
    cases hp : p x[i] (y[i]'(by omega))
    · simp only [hp] at hr; cases hr
    · exact on i hi (by omega) hp r h
theorem sameL_ne {α : Type} (p : α → α → Bool) (x y : List α) (h : x.length ≠ y.length) : sameL p x y = false := by unfold sameL; rw [decide_eq_false h]; rfl
theorem sameL_eq (x y : List Int) : sameL (fun a b => decide (a = b)) x y = decide (x = y) := by
  induction x generalizing y with
  | nil => cases y <;> simp [sameL]
  | cons a x ih =>
    cases y with
    | nil => simp [sameL]
    | cons b y =>
      have := ih y
      simp only [sameL] at this
      rw [Bool.eq_iff_iff] at this ⊢
      simp only [sameL, List.length_cons, List.zip_cons_cons, List.all_cons, Bool.and_eq_true, decide_eq_true_eq, List.cons.injEq, Nat.add_right_cancel_iff] at this ⊢
      constructor
      · rintro ⟨h1, h2, h3⟩; exact ⟨h2, this.1 ⟨h1, h3⟩⟩
      · rintro ⟨h1, h2⟩; exact ⟨(this.2 h2).1, h1, (this.2 h2).2⟩
def Bytes (x : List Int) : Prop := ∀ b ∈ x, 0 ≤ b ∧ b ≤ 255
theorem str_inj (x y : List Int) (hx : Bytes x) (hy : Bytes y) : (strOfNums x).toList = (strOfNums y).toList ↔ x = y := by
  constructor
  · rw [Go.Lib.strOfNums_toList, Go.Lib.strOfNums_toList]
    intro h
    have h : x.map (fun n => UInt8.ofNat n.toNat) = y.map (fun n => UInt8.ofNat n.toNat) := h
    induction x generalizing y with
    | nil => cases y with
      | nil => rfl
      | cons b y => simp at h
    | cons a x ih =>
      cases y with
      | nil => simp at h
      | cons b y =>
        simp only [List.map_cons, List.cons.injEq] at h
        have h1 := congrArg UInt8.toNat h.1
        have ha := hx a (List.mem_cons_self ..)
        have hb := hy b (List.mem_cons_self ..)
        simp only [UInt8.toNat_ofNat'] at h1
        rw [ih y (fun z hz => hx z (List.mem_cons_of_mem _ hz)) (fun z hz => hy z (List.mem_cons_of_mem _ hz)) h.2 h.2]
        have : a = b := by omega
        rw [this]
  · intro h; rw [h]
abbrev RSt := List Int × Bool
def oneF (s : RSt) : Int × RSt := if s.2 = true ∨ s.1.length < 1 then (0, (s.1, true)) else (rd s.1 0, (s.1.drop 1, false))
def twoR (s : RSt) : Int × RSt := if s.2 = true ∨ s.1.length < 2 then (0, (s.1, true)) else (rd s.1 0 * 256 + rd s.1 1, (s.1.drop 2, false))
def takeF (s : RSt) (n : Int) : List Int × RSt := if s.2 = true ∨ (s.1.length : Int) < n then (List.replicate n.toNat 0, (s.1, true)) else (s.1.take n.toNat, (s.1.drop n.toNat, false))
def twosF : Nat → RSt → List Int × RSt
  | 0, s => ([], s)
  | n + 1, s => ((twoR s).1 :: (twosF n (twoR s).2).1, (twosF n (twoR s).2).2)
theorem bytes_drop {l : List Int} (h : Bytes l) (n : Nat) : Bytes (l.drop n) := fun x hx => h x (List.mem_of_mem_drop hx)
theorem bytes_take {l : List Int} (h : Bytes l) (n : Nat) : Bytes (l.take n) := fun x hx => h x (List.mem_of_mem_take hx)
theorem bytes_rd {l : List Int} (h : Bytes l) (i : Nat) : 0 ≤ rd l (i : Int) ∧ rd l (i : Int) ≤ 255 := by
  by_cases hi : i < l.length
  · rw [rd_get l i hi]; have := h _ (List.getElem_mem hi); omega
  · have : rd l (i : Int) = 0 := by simp [rd, List.getD_eq_getElem?_getD, List.getElem?_eq_none (Nat.not_lt.1 hi)]
    omega
theorem oneF_bytes {s : RSt} (h : Bytes s.1) : Bytes (oneF s).2.1 ∧ 0 ≤ (oneF s).1 ∧ (oneF s).1 ≤ 255 := by
  unfold oneF
  have := bytes_rd h 0
  split
  · exact ⟨h, by omega, by omega⟩
  · exact ⟨bytes_drop h 1, this⟩
theorem twoR_bytes {s : RSt} (h : Bytes s.1) : Bytes (twoR s).2.1 ∧ 0 ≤ (twoR s).1 ∧ (twoR s).1 ≤ 65535 := by
  unfold twoR
  have h0 := bytes_rd h 0
  have h1 := bytes_rd h 1
  split
  · exact ⟨h, by omega, by omega⟩
  · refine ⟨bytes_drop h 2, ?_, ?_⟩ <;> simp only [Int.natCast_zero, Int.natCast_one] at h0 h1 <;> simp only <;> omega
theorem takeF_bytes {s : RSt} (h : Bytes s.1) (n : Int) : Bytes (takeF s n).2.1 ∧ Bytes (takeF s n).1 ∧ ((takeF s n).1.length : Int) = mx 0 n := by
  unfold takeF
  split
  · refine ⟨h, fun x hx => ?_, ?_⟩
    · rw [List.eq_of_mem_replicate hx]; omega
    · simp only [List.length_replicate]; unfold mx; split <;> omega
  · rename_i hc
    refine ⟨bytes_drop h _, bytes_take h _, ?_⟩
    have : ¬ (s.1.length : Int) < n := fun h_ => hc (.inr h_)
    simp only [List.length_take]; unfold mx; split <;> omega
theorem twosF_bytes {s : RSt} (h : Bytes s.1) (n : Nat) : Bytes (twosF n s).2.1 ∧ (twosF n s).1.length = n := by
  induction n generalizing s with
  | zero => exact ⟨h, rfl⟩
  | succ n ih =>
    have := ih (twoR_bytes h).1
    exact ⟨this.1, by simp only [twosF, List.length_cons, this.2]⟩
theorem one_eq (s : RSt) (h : Bytes s.1) : impl_taker_one.f s.1 s.2 = some ((oneF s).1, (oneF s).2.1, (oneF s).2.2) := by
  have h0 := bytes_rd h 0
  simp only [Int.natCast_zero] at h0
  unfold impl_taker_one.f oneF
  by_cases hc : s.2 = true ∨ s.1.length < 1
  · rw [if_pos hc, if_pos (hc.imp id (fun h_ => by omega))]
  · rw [if_neg hc, if_neg (fun h_ => hc (h_.imp id (fun h_ => by omega))), wid (by omega) (by omega)]
theorem two_eq (s : RSt) (h : Bytes s.1) : impl_taker_two.f s.1 s.2 = some ((twoR s).1, (twoR s).2.1, (twoR s).2.2) := by
  have h0 := bytes_rd h 0
  have h1 := bytes_rd h 1
  simp only [Int.natCast_zero, Int.natCast_one] at h0 h1
  unfold impl_taker_two.f twoR
  by_cases hc : s.2 = true ∨ s.1.length < 2
  · rw [if_pos hc, if_pos (hc.imp id (fun h_ => by omega))]
  · rw [if_neg hc, if_neg (fun h_ => hc (h_.imp id (fun h_ => by omega)))]
    rw [wid (x := rd s.1 0) (by omega) (by omega), wid (x := rd s.1 0 * 256) (by omega) (by omega), wid (x := rd s.1 1) (by omega) (by omega), wid (by omega) (by omega)]
theorem take_eq (s : RSt) (n : Int) (h0 : 0 ≤ n) (h1 : n ≤ 65535) : impl_taker_take.f s.1 s.2 n = some ((takeF s n).1, (takeF s n).2.1, (takeF s n).2.2) := by
  unfold impl_taker_take.f takeF
  rw [if_pos (by omega)]
  split <;> rfl
/-- What the fields of an op tell, from a state on. -/
def parseI (s0 : RSt) : S37 × RSt :=
  let a := oneF s0; let b := oneF a.2; let c := takeF b.2 b.1; let d := oneF c.2; let e := takeF d.2 d.1; let u := oneF e.2; let v := twosF u.1.toNat u.2
  let m := oneF v.2; let f := oneF m.2; let t := twoR f.2; let n := twoR t.2; let x := takeF n.2 n.1
  (⟨a.1, strOfNums c.1, strOfNums e.1, v.1, m.1, f.1, t.1, x.1⟩, x.2)
def readW (l : List Int) : Option (S37 × Int) :=
  let hd := twoR (l, false)
  if hd.2.2 = true ∨ hd.1 > (l.length : Int) then none
  else
    let p := parseI ((l.take (mx 2 hd.1).toNat).drop 2, false)
    if p.2.2 = true then none else if opFault p.1 = 0 ∧ packF p.1 = l.take hd.1.toNat then some (p.1, hd.1) else none
def readT (r : Option (S37 × Int)) : Int × ByteArray × ByteArray × List Int × Int × Int × Int × List Int × Int := match r with
  | none => (0, (⟨#[]⟩ : ByteArray), (⟨#[]⟩ : ByteArray), [], 0, 0, 0, [], 0)
  | some (o, n) => (o.f0, o.f1, o.f2, o.f3, o.f4, o.f5, o.f6, o.f7, n)
def readR (r : Option (S37 × Int)) : Int × Int × Int × ByteArray × ByteArray × List Int × Int × Int × Int × List Int := match r with
  | none => (5, 0, 0, (⟨#[]⟩ : ByteArray), (⟨#[]⟩ : ByteArray), [], 0, 0, 0, [])
  | some (o, n) => (0, n, o.f0, o.f1, o.f2, o.f3, o.f4, o.f5, o.f6, o.f7)
theorem parseI_ok {s : RSt} (h : Bytes s.1) : okIOp (parseI s).1 ∧ (parseI s).1.f1.size ≤ 255 ∧ (parseI s).1.f2.size ≤ 255 ∧ (parseI s).1.f3.length ≤ 255 ∧ (parseI s).1.f7.length ≤ 65535 ∧ Bytes (parseI s).1.f7 := by
  unfold parseI okIOp
  simp only
  have a := oneF_bytes h
  have b := oneF_bytes a.1
  have c := takeF_bytes b.1 (oneF (oneF s).2).1
  generalize takeF (oneF (oneF s).2).2 (oneF (oneF s).2).1 = C at c
  have d := oneF_bytes c.1
  have e := takeF_bytes d.1 (oneF C.2).1
  generalize takeF (oneF C.2).2 (oneF C.2).1 = E at e
  have u := oneF_bytes e.1
  have v := twosF_bytes u.1 (oneF E.2).1.toNat
  generalize twosF (oneF E.2).1.toNat (oneF E.2).2 = V at v
  have m := oneF_bytes v.1
  have f := oneF_bytes m.1
  have t := twoR_bytes f.1
  have n := twoR_bytes t.1
  have x := takeF_bytes n.1 (twoR (twoR (oneF (oneF V.2).2).2).2).1
  generalize takeF (twoR (twoR (oneF (oneF V.2).2).2).2).2 (twoR (twoR (oneF (oneF V.2).2).2).2).1 = X at x
  have mxl : ∀ a b : Int, 0 ≤ a → a ≤ b → mx 0 a ≤ b := fun a b h0 h1 => by unfold mx; split <;> omega
  have c3 := mxl _ 255 b.2.1 b.2.2
  have e3 := mxl _ 255 d.2.1 d.2.2
  have x3 := mxl _ 65535 n.2.1 n.2.2
  rw [strOfNums_size, strOfNums_size]
  refine ⟨⟨?_, ?_, ?_, ?_⟩, ?_, ?_, ?_, ?_, x.2.1⟩ <;> omega
theorem twoF_bytes (n : Int) : Bytes (twoF n) := by
  intro x hx
  simp only [twoF, List.mem_cons, List.not_mem_nil, or_false] at hx
  rcases hx with rfl | rfl <;> omega
theorem bytes_append {a b : List Int} (ha : Bytes a) (hb : Bytes b) : Bytes (a ++ b) := fun x hx => (List.mem_append.1 hx).elim (ha x) (hb x)
theorem bytesOf_bytes (s : ByteArray) : Bytes (bytesOf s) := by
  intro x hx
  simp only [bytesOf, List.mem_map] at hx
  obtain ⟨b, _, rfl⟩ := hx
  have := b.toNat_lt
  omega
theorem packF_bytes (o : S37) (h7 : Bytes o.f7) : Bytes (packF o) := by
  have hu : Bytes (uidsB o.f3) := by
    intro x hx
    simp only [uidsB, List.mem_flatMap] at hx
    obtain ⟨n, _, hx⟩ := hx
    exact twoF_bytes n x hx
  have l2 : ∀ a b : Int, Bytes [a % 256, b % 256] := fun a b x hx => by
    simp only [List.mem_cons, List.not_mem_nil, or_false] at hx
    rcases hx with rfl | rfl <;> omega
  have l1 : ∀ a : Int, Bytes [a % 256] := fun a x hx => by
    simp only [List.mem_cons, List.not_mem_nil, or_false] at hx
    subst hx; omega
  have hh : Bytes (headB o) := bytes_append (bytes_append (bytes_append (bytes_append (l2 _ _) (bytesOf_bytes _)) (l1 _)) (bytesOf_bytes _)) (l1 _)
  have hb : Bytes (bodyB o) := bytes_append (bytes_append (bytes_append (bytes_append (bytes_append hh hu) (l2 _ _)) (twoF_bytes _)) (twoF_bytes _)) h7
  have hw : Bytes (packW o) := bytes_append (twoF_bytes _) hb
  exact bytes_append hw (twoF_bytes _)
theorem equal_eq (x y : List Int) (hx : Bytes x) (hy : Bytes y) : bytes_Equal.f x y = some (decide (x = y)) := by
  unfold bytes_Equal.f
  congr 1
  rw [Bool.eq_iff_iff, beq_iff_eq, str_inj x y hx hy, decide_eq_true_iff]
theorem ev_implLoop (x0 : List Int) (x5 : Int) (u : Nat) (hu : u ≤ 255) (a : Int) (b c : ByteArray) : ∀ (m i : Nat) (acc : List Int) (s : RSt), i + m = u → acc.length = i → Bytes s.1 → ∀ r,
    Ev (fun k => impl_readOp.l0 k x0 x5 (u : Int) (u : Int) (twosF m s).2.1 (twosF m s).2.2 a b c (acc ++ (twosF m s).1) 0 0 0) r → Ev (fun k => impl_readOp.l0 k x0 x5 (u : Int) (i : Int) s.1 s.2 a b c acc 0 0 0) r := by
  intro m
  induction m with
  | zero =>
    intro i acc s hi hl hb r h
    simp only [twosF, List.append_nil] at h
    rw [show i = u by omega]
    exact h
  | succ m ih =>
    intro i acc s hi hl hb r h
    refine Ev.succ ?_
    simp only [impl_readOp.l0]
    refine Ev.pos (by omega) (Ev.bindc (two_eq s hb) (Ev.pos (by omega) ?_))
    have := ih (i + 1) (acc ++ [(twoR s).1]) (twoR s).2 (by omega) (by simp [hl]) (twoR_bytes hb).1 r (by
      rw [List.append_assoc]
      exact h)
    rw [wid (by omega) (by omega)]
    simpa using this
theorem ev_implRead (l : List Int) (hl : l.length ≤ 1048576) (hb : Bytes l) : Ev (fun k => impl_readOp.f k l) (readT (readW l)) := by
  have no : ∀ (x5 : Int) (s : RSt), Ev (fun k => impl_readOp.j0 k l x5 true s.1 s.2) (readT none) := fun x5 s => by
    refine Ev.succ ?_
    simp only [impl_readOp.j0, if_true]
    exact Ev.now _
  unfold impl_readOp.f readW
  refine Ev.bindc (two_eq (l, false) hb) ?_
  have t0 := twoR_bytes (s := (l, false)) hb
  simp only
  by_cases h1 : (twoR (l, false)).2.2 = true
  · rw [if_pos (Or.inl h1)]
    exact Ev.pos h1 (by have := no (twoR (l, false)).1 (twoR (l, false)).2; exact this)
  refine Ev.neg h1 ?_
  simp only [impl_length_byte.f, Option.bind_some]
  by_cases h2 : (twoR (l, false)).1 > (l.length : Int)
  · rw [if_pos (Or.inr h2), decide_eq_true h2]
    exact no (twoR (l, false)).1 (twoR (l, false)).2
  rw [if_neg (by simp [h1]; omega), decide_eq_false h2]
  have hlen : 2 ≤ l.length := by
    have h1' := h1
    unfold twoR at h1'
    by_cases hc : (l, false).2 = true ∨ (l, false).1.length < 2
    · rw [if_pos hc] at h1'; exact absurd rfl h1'
    · have : ¬ l.length < 2 := fun h_ => hc (.inr h_)
      omega
  rw [Bool.eq_false_iff.mpr h1]
  generalize (twoR (l, false)).1 = n at h2 t0
  have hm : 2 ≤ mx 2 n := by unfold mx; split <;> omega
  have hm2 : mx 2 n ≤ (l.length : Int) := by unfold mx; split <;> omega
  have hd : Bytes ((l.take (mx 2 n).toNat).drop 2) := bytes_drop (bytes_take hb _) 2
  have pok := parseI_ok (s := ((l.take (mx 2 n).toNat).drop 2, false)) hd
  refine Ev.succ ?_
  simp only [impl_readOp.j0, Bool.false_eq_true, if_false]
  refine Ev.pos hm (Ev.pos hm2 ?_)
  generalize (l.take (mx 2 n).toNat).drop 2 = D at hd pok
  unfold parseI at pok ⊢
  simp only at pok ⊢
  have a := oneF_bytes (s := (D, false)) hd
  refine Ev.bindc (one_eq (D, false) hd) ?_
  generalize oneF (D, false) = A at a pok
  simp only
  have b := oneF_bytes a.1
  refine Ev.bindc (one_eq A.2 a.1) ?_
  generalize oneF A.2 = B at b pok
  simp only
  have c := takeF_bytes b.1 B.1
  refine Ev.bindc (take_eq B.2 B.1 b.2.1 (by omega)) ?_
  generalize takeF B.2 B.1 = C at c pok
  simp only
  have d := oneF_bytes c.1
  refine Ev.bindc (one_eq C.2 c.1) ?_
  generalize oneF C.2 = E at d pok
  simp only
  have e := takeF_bytes d.1 E.1
  refine Ev.bindc (take_eq E.2 E.1 d.2.1 (by omega)) ?_
  generalize takeF E.2 E.1 = F at e pok
  simp only
  have u := oneF_bytes e.1
  refine Ev.bindc (one_eq F.2 e.1) ?_
  generalize oneF F.2 = U at u pok
  simp only
  obtain ⟨un, hun⟩ := Int.eq_ofNat_of_zero_le u.2.1
  have v := twosF_bytes u.1 un
  rw [hun] at pok ⊢
  simp only [Int.ofNat_eq_natCast, Int.toNat_natCast] at pok ⊢
  refine ev_implLoop l n un (by omega) _ _ _ un 0 [] U.2 (by omega) rfl u.1 _ ?_
  generalize twosF un U.2 = V at v pok
  refine Ev.succ ?_
  simp only [impl_readOp.l0, Int.lt_irrefl, if_false, List.nil_append]
  have m := oneF_bytes v.1
  refine Ev.bindc (one_eq V.2 v.1) ?_
  generalize oneF V.2 = M at m pok
  simp only
  have f := oneF_bytes m.1
  refine Ev.bindc (one_eq M.2 m.1) ?_
  generalize oneF M.2 = G at f pok
  simp only
  have t := twoR_bytes f.1
  refine Ev.bindc (two_eq G.2 f.1) ?_
  generalize twoR G.2 = H at t pok
  simp only [Option.bind_some]
  have q := twoR_bytes t.1
  refine Ev.bindc (two_eq H.2 t.1) ?_
  generalize twoR H.2 = Q at q pok
  simp only
  have x := takeF_bytes q.1 Q.1
  refine Ev.bindc (take_eq Q.2 Q.1 q.2.1 (by omega)) ?_
  generalize takeF Q.2 Q.1 = X at x pok
  simp only [List.nil_append]
  obtain ⟨hok, _, _, _, h7, hb7⟩ := pok
  refine Ev.pos (by simp only [List.length_nil]; omega) ?_
  by_cases hx : X.2.2 = true
  · rw [if_pos hx]; exact Ev.pos hx (Ev.now _)
  rw [if_neg hx]
  refine Ev.neg hx ?_
  have hf := ev_implOpFault (⟨A.1, strOfNums C.1, strOfNums F.1, V.1, M.1, G.1, H.1, X.1⟩ : S37) hok
  have hp := ev_packed (⟨A.1, strOfNums C.1, strOfNums F.1, V.1, M.1, G.1, H.1, X.1⟩ : S37) hok
  have hpb := packF_bytes (⟨A.1, strOfNums C.1, strOfNums F.1, V.1, M.1, G.1, H.1, X.1⟩ : S37) hb7
  simp only at hf hp
  refine Ev.bind hf ?_
  by_cases h0 : opFault ⟨A.1, strOfNums C.1, strOfNums F.1, V.1, M.1, G.1, H.1, X.1⟩ = 0
  case neg => rw [if_neg (fun h_ => h0 h_.1)]; exact Ev.neg h0 (Ev.now _)
  refine Ev.pos h0 (Ev.bind hp (Ev.pos t0.2.1 (Ev.pos (by omega) (Ev.bindc (equal_eq _ _ hpb (bytes_take hb _)) ?_))))
  by_cases he : packF ⟨A.1, strOfNums C.1, strOfNums F.1, V.1, M.1, G.1, H.1, X.1⟩ = l.take n.toNat
  · refine Ev.pos (decide_eq_true he) ?_
    rw [if_pos ⟨h0, he⟩]; exact Ev.now _
  · refine Ev.neg (by simpa using he) ?_
    rw [if_neg (fun h_ => he h_.2)]; exact Ev.now _
theorem readW_some {l : List Int} {o : S37} {n : Int} (hl : l.length ≤ 1048576) (hb : Bytes l) (h : readW l = some (o, n)) : okIOp o ∧ opFault o = 0 ∧ packF o = l.take n.toNat ∧ 14 ≤ n ∧ n ≤ (l.length : Int) ∧ Bytes o.f7 := by
  unfold readW at h
  simp only at h
  split at h
  · cases h
  · rename_i h1
    split at h
    · cases h
    · split at h
      · rename_i h2 h3
        simp only [Option.some.injEq, Prod.mk.injEq] at h
        obtain ⟨rfl, rfl⟩ := h
        have pok := parseI_ok (s := ((l.take (mx 2 (twoR (l, false)).1).toNat).drop 2, false)) (bytes_drop (bytes_take hb _) 2)
        have t0 := twoR_bytes (s := (l, false)) hb
        have hlen := congrArg List.length h3.2
        rw [packF_length, List.length_take] at hlen
        exact ⟨pok.1, h3.1, h3.2, by omega, by omega, pok.2.2.2.2.2⟩
      · cases h
/-- How the reference's reader stands to the program's: where it is right, both are at one place; where it is wrong, it is at the end. -/
def Rel (D : List Int) (at_ : Nat) (w : Bool) (s : RSt) : Prop := at_ ≤ D.length ∧ (w = false → s = (D.drop at_, false)) ∧ (w = true → at_ = D.length ∧ s.2 = true)
theorem byte_eq (D : List Int) (hD : Bytes D) (hl : D.length ≤ 1048576) (at_ : Nat) (w : Bool) (h : at_ ≤ D.length) : spec_l9Byte.f D (at_ : Int) w = some (if at_ = D.length then (0, (at_ : Int), true) else (rd D (at_ : Int), ((at_ + 1 : Nat) : Int), w)) := by
  have h0 := bytes_rd hD at_
  unfold spec_l9Byte.f
  have e1 : wrap64 ((at_ : Int) + 1) = ((at_ + 1 : Nat) : Int) := by rw [wid (by omega) (by omega)]; omega
  have e2 : wrap64 (((at_ + 1 : Nat) : Int) - 1) = (at_ : Int) := by rw [wid (by omega) (by omega)]; omega
  by_cases hc : at_ = D.length
  · rw [if_pos hc, if_pos (by omega)]
  · rw [if_neg hc, if_neg (by omega)]
    simp only [e1, e2]
    rw [if_pos (by omega), if_pos (by omega), wid (by omega) (by omega)]
theorem rd_drop0 (D : List Int) (a : Nat) : rd (D.drop a) 0 = rd D (a : Int) := by simp [rd, List.getD_eq_getElem?_getD]
theorem rd_drop1 (D : List Int) (a : Nat) : rd (D.drop a) 1 = rd D ((a + 1 : Nat) : Int) := by
  have e : ((a : Int) + 1).toNat = a + 1 := by omega
  simp [rd, List.getD_eq_getElem?_getD, e]
theorem step_one (D : List Int) (hD : Bytes D) (hl : D.length ≤ 1048576) (at_ : Nat) (w : Bool) (s : RSt) (h : Rel D at_ w s) :
    ∃ v at1 w1, spec_l9Byte.f D (at_ : Int) w = some (v, ((at1 : Nat) : Int), w1) ∧ Rel D at1 w1 (oneF s).2 ∧ (w1 = false → w = false ∧ v = (oneF s).1) ∧ at1 ≤ at_ + 1 ∧ 0 ≤ v ∧ v ≤ 255 := by
  obtain ⟨hle, hf, ht⟩ := h
  rw [byte_eq D hD hl at_ w hle]
  have h0 := bytes_rd hD at_
  by_cases hc : at_ = D.length
  · rw [if_pos hc]
    refine ⟨0, at_, true, rfl, ⟨hle, by simp, fun _ => ⟨hc, ?_⟩⟩, by simp, by omega, by omega, by omega⟩
    unfold oneF
    cases w with
    | true => rw [if_pos (Or.inl (ht rfl).2)]
    | false => rw [hf rfl, if_pos (Or.inr (by simp only [List.length_drop]; omega))]
  · rw [if_neg hc]
    cases w with
    | true => exact absurd (ht rfl).1 hc
    | false =>
      refine ⟨rd D at_, at_ + 1, false, rfl, ⟨by omega, fun _ => ?_, by simp⟩, fun _ => ⟨rfl, ?_⟩, by omega, h0.1, h0.2⟩
      · rw [hf rfl]
        unfold oneF
        rw [if_neg (by simp only [List.length_drop]; simp; omega)]
        simp only [List.drop_drop]
      · rw [hf rfl]
        unfold oneF
        rw [if_neg (by simp only [List.length_drop]; simp; omega)]
        exact (rd_drop0 D at_).symm
theorem twoR_drop (D : List Int) (a : Nat) : twoR (D.drop a, false) = if a + 2 ≤ D.length then (rd D (a : Int) * 256 + rd D ((a + 1 : Nat) : Int), (D.drop (a + 2), false)) else (0, (D.drop a, true)) := by
  unfold twoR
  by_cases h : a + 2 ≤ D.length
  · rw [if_pos h, if_neg (by simp only [List.length_drop]; simp; omega)]
    simp only [rd_drop0, rd_drop1, List.drop_drop]
  · rw [if_neg h, if_pos (Or.inr (by simp only [List.length_drop]; omega))]
theorem step_two (D : List Int) (hD : Bytes D) (hl : D.length ≤ 1048576) (at_ : Nat) (w : Bool) (s : RSt) (h : Rel D at_ w s) :
    ∃ v at1 w1, spec_l9Word.f D (at_ : Int) w = some (v, ((at1 : Nat) : Int), w1) ∧ Rel D at1 w1 (twoR s).2 ∧ (w1 = false → w = false ∧ v = (twoR s).1) ∧ at1 ≤ at_ + 2 ∧ 0 ≤ v ∧ v ≤ 65535 := by
  obtain ⟨hle, hf, ht⟩ := h
  have h0 := bytes_rd hD at_
  have h1 := bytes_rd hD (at_ + 1)
  unfold spec_l9Word.f
  rw [byte_eq D hD hl at_ w hle, Option.bind_some]
  by_cases hc : at_ = D.length
  · have hbad : (twoR s).2.2 = true := by
      cases w with
      | true => unfold twoR; rw [if_pos (Or.inl (ht rfl).2)]
      | false => rw [hf rfl, twoR_drop, if_neg (by omega)]
    simp only [if_pos hc]
    rw [byte_eq D hD hl at_ true hle, Option.bind_some]
    simp only [if_pos hc]
    exact ⟨_, at_, true, rfl, ⟨hle, by simp, fun _ => ⟨hc, hbad⟩⟩, by simp, by omega, by unfold wrap64; omega, by unfold wrap64; omega⟩
  · simp only [if_neg hc]
    cases w with
    | true => exact absurd (ht rfl).1 hc
    | false =>
      rw [byte_eq D hD hl (at_ + 1) false (by omega), Option.bind_some, hf rfl, twoR_drop]
      have hv : ∀ v1 : Int, 0 ≤ v1 → v1 ≤ 255 → wrap64 ((wrap64 (rd D (at_ : Int) * 256)) + v1) = rd D (at_ : Int) * 256 + v1 := fun v1 p q => by rw [wid (x := rd D (at_ : Int) * 256) (by omega) (by omega), wid (by omega) (by omega)]
      by_cases hc2 : at_ + 1 = D.length
      · simp only [if_pos hc2]
        rw [if_neg (by omega), hv 0 (by omega) (by omega)]
        exact ⟨_, at_ + 1, true, rfl, ⟨by omega, by simp, fun _ => ⟨hc2, rfl⟩⟩, by simp, by omega, by omega, by omega⟩
      · simp only [if_neg hc2]
        rw [if_pos (by omega), hv _ h1.1 h1.2]
        exact ⟨_, at_ + 1 + 1, false, rfl, ⟨by omega, fun _ => rfl, by simp⟩, fun _ => ⟨by trivial, rfl⟩, by omega, by omega, by omega⟩
theorem step_bytes (D : List Int) (hD : Bytes D) (hl : D.length ≤ 1048576) : ∀ (n : Nat) (acc : List Int) (at_ : Nat) (w : Bool) (s : RSt), n ≤ 65535 → acc.length + n ≤ 200000 → Rel D at_ w s →
    ∃ x at1 w1, Ev (fun k => spec_l9Bytes.l0 k (n : Int) acc D (at_ : Int) w) (acc ++ x, ((at1 : Nat) : Int), w1) ∧ Rel D at1 w1 (takeF s (n : Int)).2 ∧ (w1 = false → w = false ∧ x = (takeF s (n : Int)).1) ∧ at1 ≤ at_ + x.length ∧ x.length ≤ n ∧ Bytes x := by
  intro n
  induction n with
  | zero =>
    intro acc at_ w s _ _ h
    refine ⟨[], at_, w, Ev.succ ?_, ?_, ?_, by simp, by simp, by intro b hb; simp at hb⟩
    · simp only [spec_l9Bytes.l0, Int.natCast_zero, Int.lt_irrefl, gt_iff_lt, if_false, List.append_nil]
      exact Ev.now _
    · refine ⟨h.1, fun hw => ?_, fun hw => ⟨(h.2.2 hw).1, ?_⟩⟩
      · rw [h.2.1 hw]
        unfold takeF
        rw [if_neg (by simp)]
        simp
      · unfold takeF
        rw [if_pos (Or.inl (h.2.2 hw).2)]
    · intro hw
      refine ⟨hw, ?_⟩
      rw [h.2.1 hw]
      unfold takeF
      rw [if_neg (by simp)]
      simp
  | succ n ih =>
    intro acc at_ w s hn ha h
    cases w with
    | true =>
      refine ⟨[], at_, true, Ev.succ ?_, ⟨h.1, by simp, fun _ => ⟨(h.2.2 rfl).1, ?_⟩⟩, by simp, by simp, by simp, by intro b hb; simp at hb⟩
      · simp only [spec_l9Bytes.l0, List.append_nil]
        exact Ev.pos (by omega) (Ev.pos trivial (Ev.now _))
      · unfold takeF
        rw [if_pos (Or.inl (h.2.2 rfl).2)]
    | false =>
      have hs := h.2.1 rfl
      have h0 := bytes_rd hD at_
      have hb := byte_eq D hD hl at_ false h.1
      by_cases hc : at_ = D.length
      · rw [if_pos hc] at hb
        have hrel : Rel D at_ true (takeF s ((n + 1 : Nat) : Int)).2 := by
          refine ⟨h.1, by simp, fun _ => ⟨hc, ?_⟩⟩
          rw [hs]
          unfold takeF
          rw [if_pos (Or.inr (by simp only [List.length_drop]; omega))]
        refine ⟨[0], at_, true, Ev.succ ?_, hrel, by simp, by simp, by simp, by intro b hb; simp at hb; subst hb; omega⟩
        simp only [spec_l9Bytes.l0]
        refine Ev.pos (by omega) (Ev.neg (by simp) (Ev.bindc hb (Ev.pos (by omega) ?_)))
        rw [wid (by omega) (by omega), show (((n + 1 : Nat) : Int) - 1) = (n : Int) by omega, show ((0 : Int) % 256) = 0 from rfl]
        refine Ev.succ ?_
        simp only [spec_l9Bytes.l0]
        by_cases hn0 : n = 0
        · exact Ev.neg (by omega) (Ev.now _)
        · exact Ev.pos (by omega) (Ev.pos trivial (Ev.now _))
      · rw [if_neg hc] at hb
        have hle := h.1
        have hr : Rel D (at_ + 1) false (D.drop (at_ + 1), false) := ⟨by omega, fun _ => rfl, by simp⟩
        obtain ⟨x, a1, w1, e, r, f, l1, l2, bx⟩ := ih (acc ++ [rd D (at_ : Int)]) (at_ + 1) false (D.drop (at_ + 1), false) (by omega) (by simp; omega) hr
        have hcons : D.drop at_ = rd D (at_ : Int) :: D.drop (at_ + 1) := by rw [rd_get D at_ (by omega)]; exact List.drop_eq_getElem_cons (by omega)
        refine ⟨rd D (at_ : Int) :: x, a1, w1, Ev.succ ?_, ?_, ?_, by simp only [List.length_cons]; omega, by simp only [List.length_cons]; omega, ?_⟩
        · simp only [spec_l9Bytes.l0]
          refine Ev.pos (by omega) (Ev.neg (by simp) (Ev.bindc hb (Ev.pos (by omega) ?_)))
          rw [wid (by omega) (by omega), show (((n + 1 : Nat) : Int) - 1) = (n : Int) by omega]
          simp only
          rw [show rd D (at_ : Int) % 256 = rd D (at_ : Int) by omega]
          rw [List.append_assoc] at e
          exact e
        · refine ⟨r.1, fun hw => ?_, fun hw => ⟨(r.2.2 hw).1, ?_⟩⟩
          · have e2 := r.2.1 hw
            rw [hs]
            unfold takeF at e2 ⊢
            simp only [Bool.false_eq_true, false_or, List.length_drop, Int.toNat_natCast] at e2 ⊢
            by_cases c : ((D.length - (at_ + 1) : Nat) : Int) < (n : Int)
            · rw [if_pos c] at e2; exact absurd (congrArg Prod.snd e2) (by simp)
            · rw [if_neg c] at e2
              rw [if_neg (by omega)]
              simp only [List.drop_drop] at e2 ⊢
              rw [← e2]
              congr 2
              omega
          · have e2 := (r.2.2 hw).2
            rw [hs]
            unfold takeF at e2 ⊢
            simp only [Bool.false_eq_true, false_or, List.length_drop] at e2 ⊢
            by_cases c : ((D.length - (at_ + 1) : Nat) : Int) < (n : Int)
            · rw [if_pos (by omega)]
            · rw [if_neg c] at e2; exact absurd e2 (by simp)
        · intro hw
          refine ⟨rfl, ?_⟩
          have e2 := (f hw).2
          have e3 := r.2.1 hw
          rw [hs]
          unfold takeF at e2 e3 ⊢
          simp only [Bool.false_eq_true, false_or, List.length_drop, Int.toNat_natCast] at e2 e3 ⊢
          by_cases c : ((D.length - (at_ + 1) : Nat) : Int) < (n : Int)
          · rw [if_pos c] at e3; exact absurd (congrArg Prod.snd e3) (by simp)
          · rw [if_neg c] at e2
            rw [if_neg (by omega), e2, hcons]
            simp
        · intro b hb'
          rcases List.mem_cons.1 hb' with rfl | hb'
          · exact h0
          · exact bx b hb'
theorem step_uids (D : List Int) (hD : Bytes D) (hl : D.length ≤ 1048576) (a : Int) (b c : ByteArray) : ∀ (n : Nat) (acc : List Int) (at_ : Nat) (w : Bool) (s : RSt), n ≤ 255 → acc.length + n ≤ 255 → Rel D at_ w s →
    ∃ x at1 w1, (∀ r, Ev (fun k => spec_l9Read.j1 k D ((at1 : Nat) : Int) w1 a b c (acc ++ x) 0 0 0) r → Ev (fun k => spec_l9Read.l0 k (n : Int) D (at_ : Int) w a b c acc 0 0 0) r) ∧ Rel D at1 w1 (twosF n s).2 ∧ (w1 = false → w = false ∧ x = (twosF n s).1) ∧ at1 ≤ at_ + 2 * x.length ∧ x.length ≤ n := by
  intro n
  induction n with
  | zero =>
    intro acc at_ w s _ _ h
    refine ⟨[], at_, w, fun r hr => Ev.succ ?_, h, fun hw => ⟨hw, rfl⟩, by simp, by simp⟩
    simp only [spec_l9Read.l0, Int.natCast_zero, Int.lt_irrefl, gt_iff_lt, if_false]
    rw [List.append_nil] at hr
    exact hr
  | succ n ih =>
    intro acc at_ w s hn ha h
    cases w with
    | true =>
      have bad : ∀ (m : Nat) (t : RSt), t.2 = true → (twosF m t).2.2 = true := by
        intro m
        induction m with
        | zero => intro t ht; exact ht
        | succ m ih2 => intro t ht; simp only [twosF]; exact ih2 _ (by unfold twoR; rw [if_pos (Or.inl ht)])
      refine ⟨[], at_, true, fun r hr => Ev.succ ?_, ⟨h.1, by simp, fun _ => ⟨(h.2.2 rfl).1, bad _ _ (h.2.2 rfl).2⟩⟩, by simp, by simp, by simp⟩
      simp only [spec_l9Read.l0]
      rw [List.append_nil] at hr
      exact Ev.pos (by omega) (Ev.pos trivial hr)
    | false =>
      obtain ⟨v, a1, w1, e1, r1, f1, l1, p1, q1⟩ := step_two D hD hl at_ false s h
      obtain ⟨x, a2, w2, e2, r2, f2, l2, l3⟩ := ih (acc ++ [v]) a1 w1 _ (by omega) (by simp; omega) r1
      refine ⟨v :: x, a2, w2, fun r hr => Ev.succ ?_, r2, fun hw => ?_, by simp only [List.length_cons]; omega, by simp only [List.length_cons]; omega⟩
      · simp only [spec_l9Read.l0]
        refine Ev.pos (by omega) (Ev.neg (by simp) (Ev.bindc e1 (Ev.pos (by omega) ?_)))
        rw [wid (by omega) (by omega), show (((n + 1 : Nat) : Int) - 1) = (n : Int) by omega]
        exact e2 r (by rw [List.append_assoc]; exact hr)
      · obtain ⟨hw1, hx⟩ := f2 hw
        obtain ⟨_, hv⟩ := f1 hw1
        exact ⟨rfl, by simp only [twosF, hx, hv]⟩
theorem twosF_bad (n : Nat) (s : RSt) (h : s.2 = true) : (twosF n s).2.2 = true := by
  induction n generalizing s with
  | zero => exact h
  | succ n ih => simp only [twosF]; exact ih _ (by unfold twoR; rw [if_pos (Or.inl h)])
theorem step_bytes' (D : List Int) (hD : Bytes D) (hl : D.length ≤ 1048576) (v n' : Int) (at_ : Nat) (w : Bool) (s : RSt) (h0 : 0 ≤ v) (h1 : v ≤ 65535) (hv : w = false → v = n') (h : Rel D at_ w s) :
    ∃ x at1 w1, Ev (fun k => spec_l9Bytes.f k D (at_ : Int) w v) (x, ((at1 : Nat) : Int), w1) ∧ Rel D at1 w1 (takeF s n').2 ∧ (w1 = false → w = false ∧ x = (takeF s n').1) ∧ at1 ≤ at_ + x.length ∧ (x.length : Int) ≤ v ∧ Bytes x := by
  obtain ⟨n, rfl⟩ := Int.eq_ofNat_of_zero_le h0
  obtain ⟨x, a1, w1, e, r, f, l1, l2, b⟩ := step_bytes D hD hl n [] at_ w s (by omega) (by simp; omega) h
  refine ⟨x, a1, w1, e, ?_, fun hw => ⟨(f hw).1, by rw [← hv (f hw).1]; exact (f hw).2⟩, l1, by omega, b⟩
  cases w with
  | false => rw [← hv rfl]; exact r
  | true =>
    refine ⟨r.1, fun hw => absurd (f hw).1 (by simp), fun hw => ⟨(r.2.2 hw).1, ?_⟩⟩
    unfold takeF
    rw [if_pos (Or.inl (h.2.2 rfl).2)]
theorem step_uids' (D : List Int) (hD : Bytes D) (hl : D.length ≤ 1048576) (a : Int) (b c : ByteArray) (v : Int) (n' : Nat) (at_ : Nat) (w : Bool) (s : RSt) (h0 : 0 ≤ v) (h1 : v ≤ 255) (hv : w = false → v.toNat = n') (h : Rel D at_ w s) :
    ∃ x at1 w1, (∀ r, Ev (fun k => spec_l9Read.j1 k D ((at1 : Nat) : Int) w1 a b c x 0 0 0) r → Ev (fun k => spec_l9Read.l0 k v D (at_ : Int) w a b c [] 0 0 0) r) ∧ Rel D at1 w1 (twosF n' s).2 ∧ (w1 = false → w = false ∧ x = (twosF n' s).1) ∧ at1 ≤ at_ + 2 * x.length ∧ x.length ≤ 255 := by
  obtain ⟨n, rfl⟩ := Int.eq_ofNat_of_zero_le h0
  simp only [Int.ofNat_eq_natCast, Int.toNat_natCast] at *
  obtain ⟨x, a1, w1, e, r, f, l1, l2⟩ := step_uids D hD hl a b c n [] at_ w s (by omega) (by simp; omega) h
  refine ⟨x, a1, w1, e, ?_, fun hw => ⟨(f hw).1, by rw [← hv (f hw).1]; exact (f hw).2⟩, l1, by omega⟩
  cases w with
  | false => rw [← hv rfl]; exact r
  | true => exact ⟨r.1, fun hw => absurd (f hw).1 (by simp), fun hw => ⟨(r.2.2 hw).1, twosF_bad _ _ (h.2.2 rfl).2⟩⟩
theorem ev_l9Read (D : List Int) (hD : Bytes D) (hl : D.length ≤ 1048576) (h2 : 2 ≤ D.length) :
    ∃ o : S37, Ev (fun k => spec_l9Read.f k D) (o.f0, o.f1, o.f2, o.f3, o.f4, o.f5, o.f6, o.f7) ∧ okIOp o ∧ Bytes o.f7 ∧
      ((parseI (D.drop 2, false)).2.2 = true ∧ D.length + 2 ≤ 14 + o.f1.size + o.f2.size + 2 * o.f3.length + o.f7.length ∨ (parseI (D.drop 2, false)).2.2 = false ∧ o = (parseI (D.drop 2, false)).1) := by
  have r0 : Rel D 2 false (D.drop 2, false) := ⟨h2, fun _ => rfl, by simp⟩
  unfold parseI
  simp only
  obtain ⟨va, aa, wa, ea, ra, fa, la, pa, qa⟩ := step_one D hD hl 2 false _ r0
  generalize oneF (D.drop 2, false) = A at ra fa ⊢
  obtain ⟨vb, ab, wb, eb, rb, fb, lb, pb, qb⟩ := step_one D hD hl aa wa _ ra
  generalize oneF A.2 = B at rb fb ⊢
  obtain ⟨xc, ac, wc, ec, rc, fc, lc, mc, bc⟩ := step_bytes' D hD hl vb B.1 ab wb _ pb (by omega) (fun hw => (fb hw).2) rb
  generalize takeF B.2 B.1 = C at rc fc ⊢
  obtain ⟨vd, ad, wd, ed, rd_, fd, ld, pd, qd⟩ := step_one D hD hl ac wc _ rc
  generalize oneF C.2 = E at rd_ fd ⊢
  obtain ⟨xe, ae, we, ee, re, fe, le, me, be⟩ := step_bytes' D hD hl vd E.1 ad wd _ pd (by omega) (fun hw => (fd hw).2) rd_
  generalize takeF E.2 E.1 = F at re fe ⊢
  obtain ⟨vu, au, wu, eu, ru, fu, lu, pu, qu⟩ := step_one D hD hl ae we _ re
  generalize oneF F.2 = U at ru fu ⊢
  obtain ⟨xv, av, wv, ev, rv, fv, lv, mv⟩ := step_uids' D hD hl va (strOfNums xc) (strOfNums xe) vu U.1.toNat au wu _ pu qu (fun hw => by rw [(fu hw).2]) ru
  generalize twosF U.1.toNat U.2 = V at rv fv ⊢
  obtain ⟨vm, am, wm, em, rm, fm, lm, pm, qm⟩ := step_one D hD hl av wv _ rv
  generalize oneF V.2 = M at rm fm ⊢
  obtain ⟨vf, af, wf, ef, rf, ff, lf, pf, qf⟩ := step_one D hD hl am wm _ rm
  generalize oneF M.2 = G at rf ff ⊢
  obtain ⟨vt, at_, wt, et, rt, ft, lt, pt, qt⟩ := step_two D hD hl af wf _ rf
  generalize twoR G.2 = H at rt ft ⊢
  obtain ⟨vn, an, wn, en, rn, fn, ln, pn, qn⟩ := step_two D hD hl at_ wt _ rt
  generalize twoR H.2 = Q at rn fn ⊢
  obtain ⟨xx, ax, wx, ex, rx, fx, lx, mx_, bx⟩ := step_bytes' D hD hl vn Q.1 an wn _ pn qn (fun hw => (fn hw).2) rn
  generalize takeF Q.2 Q.1 = X at rx fx ⊢
  refine ⟨⟨va, strOfNums xc, strOfNums xe, xv, vm, vf, vt, xx⟩, ?_, ?_, bx, ?_⟩
  · unfold spec_l9Read.f
    have ea' : spec_l9Byte.f D 2 false = some (va, ((aa : Nat) : Int), wa) := ea
    refine Ev.bindc ea' (Ev.bindc eb (Ev.bind ec (Ev.bindc ed (Ev.bind ee (Ev.bindc eu (ev _ (Ev.succ ?_)))))))
    simp only [spec_l9Read.j1]
    exact Ev.bindc em (Ev.bindc ef (Ev.bindc et (Ev.bindc en (Ev.bind ex (Ev.now _)))))
  · unfold okIOp
    simp only [strOfNums_size]
    omega
  · cases wx with
    | true =>
      refine .inl ⟨(rx.2.2 rfl).2, ?_⟩
      have := (rx.2.2 rfl).1
      simp only [strOfNums_size]
      omega
    | false =>
      refine .inr ⟨by rw [rx.2.1 rfl], ?_⟩
      obtain ⟨hn, ex'⟩ := fx rfl
      obtain ⟨ht, _⟩ := fn hn
      obtain ⟨hf, et'⟩ := ft ht
      obtain ⟨hm, ef'⟩ := ff hf
      obtain ⟨hv, em'⟩ := fm hm
      obtain ⟨hu, ev'⟩ := fv hv
      obtain ⟨he, _⟩ := fu hu
      obtain ⟨hd, ee'⟩ := fe he
      obtain ⟨hc, _⟩ := fd hd
      obtain ⟨hb, ec'⟩ := fc hc
      obtain ⟨ha, _⟩ := fb hb
      obtain ⟨_, ea'⟩ := fa ha
      rw [ea', ec', ee', ev', em', ef', et', ex']
theorem readW_head {l : List Int} {o : S37} {n : Int} (h : readW l = some (o, n)) : n = (twoR (l, false)).1 ∧ (twoR (l, false)).2.2 = false := by
  unfold readW at h
  simp only at h
  split at h
  · cases h
  · rename_i h1
    split at h
    · cases h
    · split at h
      · simp only [Option.some.injEq, Prod.mk.injEq] at h
        exact ⟨h.2.symm, Bool.eq_false_iff.mpr (fun h_ => h1 (.inl h_))⟩
      · cases h
theorem ev_specReadOp (l : List Int) (hl : l.length ≤ 1048576) (hb : Bytes l) : Ev (fun k => spec_ReadOp.f k l) (readR (readW l)) := by
  have no : ∀ x, Ev (fun k => spec_ReadOp.j0 k l x true) (readR none) := fun x => by
    refine Ev.succ ?_
    simp only [spec_ReadOp.j0, if_true]
    exact Ev.now _
  have h0 := bytes_rd hb 0
  have h1 := bytes_rd hb 1
  simp only [Int.natCast_zero, Int.natCast_one] at h0 h1
  unfold spec_ReadOp.f
  by_cases hc : l.length < 2
  · refine Ev.pos (by omega) ?_
    have : readW l = none := by
      unfold readW twoR
      rw [if_pos (Or.inr hc)]
      simp
    rw [this]
    exact Ev.now _
  have ht : twoR (l, false) = (rd l 0 * 256 + rd l 1, (l.drop 2, false)) := by
    unfold twoR
    rw [if_neg (by simpa using hc)]
  refine Ev.neg (by omega) (Ev.pos (by omega) (Ev.pos (by omega) ?_))
  rw [wid (x := rd l 0) (by omega) (by omega), wid (x := rd l 0 * 256) (by omega) (by omega), wid (x := rd l 1) (by omega) (by omega), wid (x := rd l 0 * 256 + rd l 1) (by omega) (by omega)]
  have hsome : ∀ o m, readW l = some (o, m) → m = rd l 0 * 256 + rd l 1 ∧ 14 ≤ m ∧ m ≤ (l.length : Int) := fun o m h => by
    have a := readW_head h
    have b := readW_some hl hb h
    rw [ht] at a
    exact ⟨a.1, b.2.2.2.1, b.2.2.2.2.1⟩
  have hdef : ¬ (rd l 0 * 256 + rd l 1 > (l.length : Int)) → readW l = (let p := parseI ((l.take (mx 2 (rd l 0 * 256 + rd l 1)).toNat).drop 2, false); if p.2.2 = true then none else if opFault p.1 = 0 ∧ packF p.1 = l.take (rd l 0 * 256 + rd l 1).toNat then some (p.1, rd l 0 * 256 + rd l 1) else none) := fun h => by
    unfold readW
    rw [ht]
    simp only [Bool.false_eq_true, false_or]
    rw [if_neg h]
  generalize hN : rd l 0 * 256 + rd l 1 = N at hsome hdef ⊢
  have hN0 : 0 ≤ N := by omega
  by_cases c1 : N < 2
  · have : readW l = none := by
      cases h : readW l with
      | none => rfl
      | some p => have := hsome p.1 p.2 (by rw [h]); omega
    rw [this]
    exact Ev.pos c1 (no N)
  refine Ev.neg c1 ?_
  by_cases c2 : N > (l.length : Int)
  · have : readW l = none := by
      cases h : readW l with
      | none => rfl
      | some p => have := hsome p.1 p.2 (by rw [h]); omega
    rw [this, decide_eq_true c2]
    exact no N
  rw [decide_eq_false c2, hdef c2]
  have hm : mx 2 N = N := by unfold mx; split <;> omega
  rw [hm]
  have hlen : (l.take N.toNat).length = N.toNat := by rw [List.length_take]; omega
  obtain ⟨o, er, ok, b7, hcase⟩ := ev_l9Read (l.take N.toNat) (bytes_take hb _) (by omega) (by omega)
  refine Ev.succ ?_
  simp only [spec_ReadOp.j0, Bool.false_eq_true, if_false]
  refine Ev.pos hN0 (Ev.pos (by omega) (Ev.bind er (Ev.bind (ev_l8Fault o [] ok) ?_)))
  have hstr := str_inj (packF o) (l.take N.toNat) (packF_bytes o b7) (bytes_take hb _)
  rcases hcase with ⟨hbad, hle⟩ | ⟨hgood, ho⟩
  · rw [if_pos hbad]
    by_cases c3 : opFault o = 0
    case neg => exact Ev.neg c3 (Ev.now _)
    refine Ev.pos c3 (Ev.bind (ev_l9Pack o [] ok) (Ev.neg (fun h_ => ?_) (Ev.now _)))
    have e := congrArg List.length (hstr.1 h_)
    rw [packF_length] at e
    omega
  · rw [if_neg (by rw [hgood]; simp), ← ho]
    by_cases c3 : opFault o = 0
    case neg => rw [if_neg (fun h_ => c3 h_.1)]; exact Ev.neg c3 (Ev.now _)
    refine Ev.pos c3 (Ev.bind (ev_l9Pack o [] ok) ?_)
    by_cases c4 : packF o = l.take N.toNat
    · refine Ev.pos (hstr.2 c4) ?_
      rw [if_pos ⟨c3, c4⟩]
      exact Ev.now _
    · refine Ev.neg (fun h_ => c4 (hstr.1 h_)) ?_
      rw [if_neg (fun h_ => c4 h_.2)]
      exact Ev.now _
theorem rd_byte (b : List Int) (hb : ∀ x ∈ b, 0 ≤ x ∧ x ≤ 255) (q : Int) (h0 : 0 ≤ q) (h1 : q < b.length) : 0 ≤ rd b q ∧ rd b q ≤ 255 := by
  obtain ⟨i, rfl⟩ : ∃ i : Nat, q = i := ⟨q.toNat, by omega⟩
  rw [rd_get b i (by omega)]
  exact hb _ (List.getElem_mem _)
theorem tmod_bd (a n : Int) (h0 : 0 ≤ a) (hn : 0 < n) : 0 ≤ Int.tmod a n ∧ Int.tmod a n < n := ⟨Int.tmod_nonneg _ h0, Int.tmod_lt_of_pos _ hn⟩
theorem next_ok (b : List Int) (hb : ∀ x ∈ b, 0 ≤ x ∧ x ≤ 255) (hl : b.length ≤ 1048576) (p n : Int) (hp0 : 0 ≤ p) (hp1 : p ≤ 100000) (hn0 : 1 ≤ n) (hn1 : n ≤ 100000) : ∃ v, spec_l1Next.f b p n = some (v, p + 1) ∧ 0 ≤ v ∧ v < n := by
  have e1 : wrap64 (p + 1) = p + 1 := wid (by omega) (by omega)
  have e2 : wrap64 (p + 1 - 1) = p := by rw [wid (by omega) (by omega)]; omega
  have fin : ∀ W : Int, 0 ≤ W → ∃ v, some (Int.tmod W n, p + 1) = some (v, p + 1) ∧ 0 ≤ v ∧ v < n := fun W hW => ⟨_, rfl, tmod_bd W n hW (by omega)⟩
  unfold spec_l1Next.f
  rw [if_neg (by omega)]
  simp only [e1, e2]
  by_cases hb0 : (b.length : Int) = 0
  · rw [if_pos hb0, if_neg (by omega)]
    exact fin _ (by rw [wid (by omega) (by omega)]; omega)
  rw [if_neg hb0]
  have hq := tmod_bd p b.length hp0 (by omega)
  rw [if_pos hq.1, if_pos hq.2]
  have hr := rd_byte b hb _ hq.1 hq.2
  have hd0 : 0 ≤ Int.tdiv p (b.length : Int) := Int.tdiv_nonneg hp0 (by omega)
  have hd1 : Int.tdiv p (b.length : Int) ≤ p := Int.tdiv_le_self _ hp0
  by_cases hn : n > 200
  · have e3 : wrap64 (p + 1) = p + 1 := e1
    have hq' := tmod_bd (p + 1) b.length (by omega) (by omega)
    have hr' := rd_byte b hb _ hq'.1 hq'.2
    rw [if_pos hn, if_pos hq'.1, if_pos hq'.2, if_neg (by omega)]
    apply fin
    generalize rd b (Int.tmod p b.length) = r at hr ⊢
    generalize rd b (Int.tmod (p + 1) b.length) = r' at hr' ⊢
    generalize Int.tdiv p (b.length : Int) = d at hd0 hd1 ⊢
    rw [wid (x := r) (by omega) (by omega), wid (x := r') (by omega) (by omega), wid (x := d) (by omega) (by omega), wid (x := d * 37) (by omega) (by omega), wid (x := r + d * 37) (by omega) (by omega), wid (x := (r + d * 37) * 251) (by omega) (by omega), wid (x := r' * 13) (by omega) (by omega), wid (x := (r + d * 37) * 251 + r' * 13) (by omega) (by omega), wid (by omega) (by omega)]
    omega
  · rw [if_neg hn, if_neg (by omega)]
    apply fin
    generalize rd b (Int.tmod p b.length) = r at hr ⊢
    generalize Int.tdiv p (b.length : Int) = d at hd0 hd1 ⊢
    rw [wid (x := r) (by omega) (by omega), wid (x := d) (by omega) (by omega), wid (x := d * 37) (by omega) (by omega), wid (by omega) (by omega)]
    omega
theorem pick_ok (b : List Int) (hb : ∀ x ∈ b, 0 ≤ x ∧ x ≤ 255) (hl : b.length ≤ 1048576) (p : Int) (hp0 : 0 ≤ p) (hp1 : p ≤ 100000) (l : List Int) (hn0 : 1 ≤ l.length) (hn1 : l.length ≤ 100000) : ∃ v, spec_l1Pick.f b p l = some (v, p + 1) ∧ v ∈ l := by
  obtain ⟨v, hv, h0, h1⟩ := next_ok b hb hl p l.length hp0 hp1 (by omega) (by omega)
  unfold spec_l1Pick.f
  rw [hv]
  obtain ⟨i, rfl⟩ : ∃ i : Nat, v = i := ⟨v.toNat, by omega⟩
  refine ⟨l[i]'(by omega), ?_, List.getElem_mem _⟩
  simp only [Option.bind_some]
  rw [if_pos h0, if_pos h1, rd_get l i (by omega)]
theorem Ev.bind2 {α β : Type} {g : Nat → Option β} {f : Nat → β → Option α} {b : β} {r : α} (h : Ev g b) (k : Ev (fun n => f n b) r) : Ev (fun n => (g n).bind (f n)) r := by
  obtain ⟨m, hm⟩ := h
  obtain ⟨m', hm'⟩ := k
  exact ⟨max m m', fun n hn => by show (g n).bind (f n) = some r; rw [hm n (by omega), Option.bind_some]; exact hm' n (by omega)⟩
theorem evex_bind {α β : Type} {P : α → Prop} {Q : β → Prop} {g : Nat → Option β} {f : Nat → β → Option α} (h : ∃ b, Ev g b ∧ Q b) (k : ∀ b, Q b → ∃ r, Ev (fun n => f n b) r ∧ P r) : ∃ r, Ev (fun n => (g n).bind (f n)) r ∧ P r := by
  obtain ⟨b, hb, hq⟩ := h
  obtain ⟨r, hr, hp⟩ := k b hq
  exact ⟨r, Ev.bind2 hb hr, hp⟩
theorem evex_succ {α : Type} {P : α → Prop} {g : Nat → Option α} (h : ∃ r, Ev (fun k => g (k + 1)) r ∧ P r) : ∃ r, Ev g r ∧ P r := by
  obtain ⟨r, hr, hp⟩ := h
  exact ⟨r, Ev.succ hr, hp⟩
theorem evex_ite {α : Type} {P : α → Prop} {c : Prop} [Decidable c] {g f : Nat → Option α} (h : c → ∃ r, Ev g r ∧ P r) (k : ¬ c → ∃ r, Ev f r ∧ P r) : ∃ r, Ev (fun n => if c then g n else f n) r ∧ P r := by
  by_cases hc : c
  · simp only [if_pos hc]; exact h hc
  · simp only [if_neg hc]; exact k hc
theorem evex_pos {α : Type} {P : α → Prop} {c : Prop} [Decidable c] {g f : Nat → Option α} (hc : c) (h : ∃ r, Ev g r ∧ P r) : ∃ r, Ev (fun n => if c then g n else f n) r ∧ P r := by simp only [if_pos hc]; exact h
theorem evex_neg {α : Type} {P : α → Prop} {c : Prop} [Decidable c] {g f : Nat → Option α} (hc : ¬ c) (h : ∃ r, Ev f r ∧ P r) : ∃ r, Ev (fun n => if c then g n else f n) r ∧ P r := by simp only [if_neg hc]; exact h
theorem evex_const {α : Type} {P : α → Prop} {o : Option α} {r : α} (h : o = some r) (hp : P r) : ∃ r, Ev (fun _ => o) r ∧ P r := ⟨r, Ev.const h, hp⟩
theorem evex_bindc {α β : Type} {P : α → Prop} {o : Option β} {f : Nat → β → Option α} {b : β} (h : o = some b) (k : ∃ r, Ev (fun n => f n b) r ∧ P r) : ∃ r, Ev (fun n => o.bind (f n)) r ∧ P r := by subst h; exact k
def Src (b : List Int) : Prop := (∀ x ∈ b, 0 ≤ x ∧ x ≤ 255) ∧ b.length ≤ 1048576
theorem nextS {b : List Int} (hb : Src b) {p n : Int} (hp0 : 0 ≤ p) (hp1 : p ≤ 100000) (hn0 : 1 ≤ n) (hn1 : n ≤ 100000) : ∃ v, spec_l1Next.f b p n = some (v, p + 1) ∧ 0 ≤ v ∧ v < n := next_ok b hb.1 hb.2 p n hp0 hp1 hn0 hn1
theorem next0 (b : List Int) (p n : Int) (hp0 : 0 ≤ p) (hp1 : p ≤ 100000) (hn : n < 1) : spec_l1Next.f b p n = some (0, p + 1) := by
  unfold spec_l1Next.f
  rw [if_pos hn, wid (by omega) (by omega)]
theorem nextA {b : List Int} (hb : Src b) {p n : Int} (hp0 : 0 ≤ p) (hp1 : p ≤ 100000) (hn1 : n ≤ 100000) : ∃ v, spec_l1Next.f b p n = some (v, p + 1) ∧ 0 ≤ v ∧ (1 ≤ n → v < n) ∧ (n < 1 → v = 0) := by
  by_cases h : 1 ≤ n
  · obtain ⟨v, h1, h2, h3⟩ := nextS hb hp0 hp1 h hn1
    exact ⟨v, h1, h2, fun _ => h3, fun h4 => by omega⟩
  · exact ⟨0, next0 b p n hp0 hp1 (by omega), Int.le_refl _, fun h4 => absurd h4 h, fun _ => rfl⟩
theorem pickS {b : List Int} (hb : Src b) {p : Int} (hp0 : 0 ≤ p) (hp1 : p ≤ 100000) (l : List Int) (hn0 : 1 ≤ l.length) (hn1 : l.length ≤ 100000) : ∃ v, spec_l1Pick.f b p l = some (v, p + 1) ∧ v ∈ l := pick_ok b hb.1 hb.2 p hp0 hp1 l hn0 hn1
theorem chanceS {b : List Int} (hb : Src b) {p n : Int} (hp0 : 0 ≤ p) (hp1 : p ≤ 100000) (hn0 : 1 ≤ n) (hn1 : n ≤ 100000) : ∃ c, spec_l1Chance.f b p n = some (c, p + 1) := by
  obtain ⟨v, h, _⟩ := nextS hb hp0 hp1 hn0 hn1
  exact ⟨_, by unfold spec_l1Chance.f; rw [h]; rfl⟩
theorem uidsS {b : List Int} (hb : Src b) : ∀ (m : Nat) (acc : List Int) (p : Int), m ≤ 5 → acc.length ≤ 5 - m → 0 ≤ p → p + m ≤ 95000 → ∃ r, Ev (fun k => spec_l8DrawUids.l0 k acc (6 - (m : Int)) b p) r ∧ (r.1.length ≤ 5 ∧ p ≤ r.2 ∧ r.2 ≤ p + m) := by
  intro m
  induction m with
  | zero =>
    intro acc p hm ha h0 h1
    refine evex_succ ?_
    simp only [spec_l8DrawUids.l0]
    exact evex_neg (by omega) (evex_const rfl ⟨by simpa using ha, Int.le_refl _, by simp⟩)
  | succ m ih =>
    intro acc p hm ha h0 h1
    obtain ⟨c, hc⟩ := chanceS hb h0 (by omega) (n := 2) (by omega) (by omega)
    have e : wrap64 ((6 - ((m + 1 : Nat) : Int)) + 1) = 6 - (m : Int) := by rw [wid (by omega) (by omega)]; omega
    refine evex_succ ?_
    simp only [spec_l8DrawUids.l0]
    refine evex_pos (by omega) (evex_bindc hc ?_)
    simp only [e]
    refine evex_ite (fun _ => evex_pos (by omega) ?_) (fun _ => ?_)
    · obtain ⟨r, h2, h3⟩ := ih (acc ++ [6 - ((m + 1 : Nat) : Int)]) (p + 1) (by omega) (by simp; omega) (by omega) (by omega)
      exact ⟨r, h2, by omega⟩
    · obtain ⟨r, h2, h3⟩ := ih acc (p + 1) (by omega) (by omega) (by omega) (by omega)
      exact ⟨r, h2, by omega⟩
theorem bytes_snoc {l : List Int} (h : Bytes l) (x : Int) : Bytes (l ++ [x % 256]) := fun y hy => (List.mem_append.1 hy).elim (h y) (fun h2 => by simp only [List.mem_singleton] at h2; omega)
theorem someL {b : List Int} (hb : Src b) : ∀ (m : Nat) (acc : List Int) (p : Int), m ≤ 100 → acc.length ≤ 200 - m → Bytes acc → 0 ≤ p → p + 2 * m ≤ 95000 → ∃ r, Ev (fun k => spec_l1Some.l0 k (m : Int) acc b p) r ∧ (Bytes r.1 ∧ r.1.length = acc.length + m ∧ r.2 = p + 2 * m) := by
  intro m
  induction m with
  | zero =>
    intro acc p hm ha hB h0 h1
    refine evex_succ ?_
    simp only [spec_l1Some.l0]
    exact evex_neg (by omega) (evex_const rfl ⟨hB, by simp, by simp⟩)
  | succ m ih =>
    intro acc p hm ha hB h0 h1
    obtain ⟨v, hv, _⟩ := nextS hb h0 (by omega) (n := 256) (by omega) (by omega)
    obtain ⟨c, hc, _⟩ := pickS hb (p := p + 1) (by omega) (by omega) ([v, 97, 32, 10, 61, 122] : List Int) (by simp) (by simp)
    have e : wrap64 (((m + 1 : Nat) : Int) - 1) = (m : Int) := by rw [wid (by omega) (by omega)]; omega
    refine evex_succ ?_
    simp only [spec_l1Some.l0]
    refine evex_pos (by omega) (evex_bindc hv (evex_bindc hc (evex_pos (by omega) ?_)))
    simp only [e]
    obtain ⟨r, h2, h3, h4, h5⟩ := ih (acc ++ [c % 256]) (p + 1 + 1) (by omega) (by simp; omega) (bytes_snoc hB c) (by omega) (by omega)
    exact ⟨r, h2, h3, by rw [h4]; simp; omega, by omega⟩
theorem someS {b : List Int} (hb : Src b) {p n : Int} (h0 : 0 ≤ p) (h1 : p ≤ 90000) (hn0 : 0 ≤ n) (hn1 : n ≤ 100) : ∃ r, Ev (fun k => spec_l1Some.f k b p n) r ∧ (Bytes r.1 ∧ (r.1.length : Int) = n ∧ r.2 = p + 2 * n) := by
  obtain ⟨m, rfl⟩ : ∃ m : Nat, n = m := ⟨n.toNat, by omega⟩
  obtain ⟨r, h2, h3, h4, h5⟩ := someL hb m [] p (by omega) (by simp) (fun _ h => absurd h (by simp)) h0 (by omega)
  exact ⟨r, h2, h3, by rw [h4]; simp, h5⟩
theorem baseS {v : Int} (h0 : 0 ≤ v) (h1 : v < 64) : ∃ c, spec_l1Base.f v = some c := ⟨_, by unfold spec_l1Base.f; rw [if_pos h0, if_pos h1]⟩
theorem hexS {v : Int} (h0 : 0 ≤ v) (h1 : v < 16) : ∃ c, spec_l1Hex.f v = some c := ⟨_, by unfold spec_l1Hex.f; rw [if_pos h0, if_pos h1]⟩
theorem son_size (l : List Int) : (strOfNums l).size = l.length := by simp [strOfNums, ByteArray.size]
/-- The letters of three bytes: what follows is handed the longer text. -/
theorem enc_j2 (x acc : List Int) (i : Nat) (v : Int) (hv0 : 0 ≤ v) (hv1 : v < 16777216) (hi : i ≤ 2000) (ha : acc.length ≤ 100000) (B : Nat)
    (k : ∀ a2 : List Int, a2.length = acc.length + 4 → ∃ r, Ev (fun k => spec_l1Encode.l0 k x a2 ((i + 3 : Nat) : Int)) r ∧ r.size ≤ B) : ∃ r, Ev (fun k => spec_l1Encode.j2 k x acc (i : Int) v) r ∧ r.size ≤ B := by
  have d1 : wrap64 (Int.tdiv v 262144) = v / 262144 := by rw [Int.tdiv_eq_ediv_of_nonneg hv0, wid (by omega) (by omega)]
  have d2 : wrap64 (Int.tdiv v 4096) = v / 4096 := by rw [Int.tdiv_eq_ediv_of_nonneg hv0, wid (by omega) (by omega)]
  have d3 : wrap64 (Int.tdiv v 64) = v / 64 := by rw [Int.tdiv_eq_ediv_of_nonneg hv0, wid (by omega) (by omega)]
  obtain ⟨c1, e1⟩ := baseS (v := v / 262144) (by omega) (by omega)
  have t2 := tmod_bd (v / 4096) 64 (by omega) (by omega)
  have t3 := tmod_bd (v / 64) 64 (by omega) (by omega)
  have t4 := tmod_bd v 64 hv0 (by omega)
  obtain ⟨c2, e2⟩ := baseS t2.1 t2.2
  obtain ⟨c3, e3⟩ := baseS t3.1 t3.2
  obtain ⟨c4, e4⟩ := baseS t4.1 t4.2
  have w3 : wrap64 ((i : Int) + 3) = ((i + 3 : Nat) : Int) := by rw [wid (by omega) (by omega)]; omega
  refine evex_succ ?_
  simp only [spec_l1Encode.j2, d1, d2, d3, w3]
  refine evex_bindc e1 (evex_bindc e2 (evex_bindc e3 (evex_bindc e4 (evex_bindc rfl ?_))))
  have go : ∀ y : List Int, y.length = 4 → ∃ r, Ev (fun n => if acc.length + y.length < 140737488355328 then spec_l1Encode.l0 n x (acc ++ y) ((i + 3 : Nat) : Int) else none) r ∧ r.size ≤ B := fun y hy => evex_pos (by omega) (k _ (by simp [hy]))
  refine evex_ite (fun _ => evex_pos (by simp) (evex_bindc rfl ?_)) (fun _ => ?_)
  · refine evex_ite (fun _ => evex_pos (by simp) (evex_bindc rfl ?_)) (fun _ => ?_)
    · exact go _ (by simp)
    · exact go _ (by simp)
  · refine evex_ite (fun _ => evex_pos (by simp) (evex_bindc rfl ?_)) (fun _ => ?_)
    · exact go _ (by simp)
    · exact go _ (by simp)
theorem rdB {x : List Int} (hx : Bytes x) (i : Nat) (h : i < x.length) : 0 ≤ rd x (i : Int) ∧ rd x (i : Int) ≤ 255 := rd_byte x hx i (by omega) (by omega)
theorem encL {x : List Int} (hx : Bytes x) (hl : x.length ≤ 1000) : ∀ (m i : Nat) (acc : List Int), x.length ≤ i + m → i ≤ 1003 → acc.length + 4 * m ≤ 50000 → ∃ r, Ev (fun k => spec_l1Encode.l0 k x acc (i : Int)) r ∧ r.size ≤ acc.length + 4 * m := by
  intro m
  induction m using Nat.strongRecOn with
  | ind m ih =>
  intro i acc him hi ha
  refine evex_succ ?_
  simp only [spec_l1Encode.l0]
  have w1 : wrap64 ((i : Int) + 1) = ((i + 1 : Nat) : Int) := by rw [wid (by omega) (by omega)]; omega
  have w2 : wrap64 ((i : Int) + 2) = ((i + 2 : Nat) : Int) := by rw [wid (by omega) (by omega)]; omega
  refine evex_ite (fun hc => ?_) (fun _ => evex_const rfl (by rw [son_size]; omega))
  have hil : i < x.length := by omega
  have r0 := rdB hx i hil
  have k2 : ∀ a2 : List Int, a2.length = acc.length + 4 → ∃ r, Ev (fun k => spec_l1Encode.l0 k x a2 ((i + 3 : Nat) : Int)) r ∧ r.size ≤ acc.length + 4 * m := by
    intro a2 h2
    obtain ⟨r, h3, h4⟩ := ih (m - 1) (by omega) (i + 3) a2 (by omega) (by omega) (by omega)
    exact ⟨r, h3, by omega⟩
  have j1 : ∀ v : Int, 0 ≤ v → v ≤ 16777216 - 256 → ∃ r, Ev (fun k => spec_l1Encode.j1 k x acc (i : Int) v) r ∧ r.size ≤ acc.length + 4 * m := by
    intro v hv0 hv1
    refine evex_succ ?_
    simp only [spec_l1Encode.j1, w2]
    refine evex_ite (fun h2 => evex_pos (by omega) ?_) (fun _ => enc_j2 x acc i v hv0 (by omega) (by omega) (by omega) _ k2)
    have r2 := rdB hx (i + 2) (by omega)
    rw [wid (x := rd x ((i + 2 : Nat) : Int)) (by omega) (by omega), wid (by omega) (by omega)]
    exact enc_j2 x acc i _ (by omega) (by omega) (by omega) (by omega) _ k2
  refine evex_pos (by omega) ?_
  simp only [w1]
  rw [wid (x := rd x (i : Int)) (by omega) (by omega), wid (x := rd x (i : Int) * 65536) (by omega) (by omega)]
  refine evex_ite (fun h1 => evex_pos (by omega) ?_) (fun _ => j1 _ (by omega) (by omega))
  have r1 := rdB hx (i + 1) (by omega)
  rw [wid (x := rd x ((i + 1 : Nat) : Int)) (by omega) (by omega), wid (x := rd x ((i + 1 : Nat) : Int) * 256) (by omega) (by omega), wid (by omega) (by omega)]
  exact j1 _ (by omega) (by omega)
theorem encS {x : List Int} (hx : Bytes x) (hl : x.length ≤ 1000) : ∃ r, Ev (fun k => spec_l1Encode.f k x) r ∧ r.size ≤ 4 * x.length := by
  obtain ⟨r, h, h2⟩ := encL hx hl x.length 0 [] (by omega) (by omega) (by simp; omega)
  exact ⟨r, h, by simpa using h2⟩
theorem quoL {x : List Int} (hx : Bytes x) (hl : x.length ≤ 1000) : ∀ (m i : Nat) (acc : List Int), i + m = x.length → acc.length + 3 * m ≤ 50000 → ∃ r, Ev (fun k => spec_l1Quoted.l0 k x acc (i : Int)) r ∧ r.size ≤ acc.length + 3 * m := by
  intro m
  induction m with
  | zero =>
    intro i acc him ha
    refine evex_succ ?_
    simp only [spec_l1Quoted.l0]
    exact evex_neg (by omega) (evex_const rfl (by rw [son_size]; omega))
  | succ m ih =>
    intro i acc him ha
    have w1 : wrap64 ((i : Int) + 1) = ((i + 1 : Nat) : Int) := by rw [wid (by omega) (by omega)]; omega
    have r0 := rdB hx i (by omega)
    obtain ⟨c1, e1⟩ := hexS (v := (Int.tdiv (rd x (i : Int)) 16) % 256) (by omega) (by rw [Int.tdiv_eq_ediv_of_nonneg r0.1]; omega)
    have t2 := tmod_bd (rd x (i : Int)) 16 r0.1 (by omega)
    obtain ⟨c2, e2⟩ := hexS t2.1 t2.2
    have j2 : ∀ c : Bool, ∃ r, Ev (fun k => spec_l1Quoted.j2 k x acc (i : Int) (rd x (i : Int)) c) r ∧ r.size ≤ acc.length + 3 * (m + 1) := by
      intro c
      refine evex_succ ?_
      simp only [spec_l1Quoted.j2, w1]
      refine evex_ite (fun _ => evex_pos (by omega) ?_) (fun _ => evex_bindc e1 (evex_bindc e2 (evex_bindc rfl (evex_pos (by simp; omega) ?_))))
      · obtain ⟨r, h3, h4⟩ := ih (i + 1) (acc ++ [rd x (i : Int)]) (by omega) (by simp; omega)
        exact ⟨r, h3, by simp at h4; omega⟩
      · obtain ⟨r, h3, h4⟩ := ih (i + 1) (acc ++ [61, c1, c2]) (by omega) (by simp; omega)
        exact ⟨r, h3, by simp at h4; omega⟩
    have j1 : ∀ c : Bool, ∃ r, Ev (fun k => spec_l1Quoted.j1 k x acc (i : Int) (rd x (i : Int)) c) r ∧ r.size ≤ acc.length + 3 * (m + 1) := by
      intro c
      refine evex_succ ?_
      simp only [spec_l1Quoted.j1]
      refine evex_ite (fun _ => evex_ite (fun _ => evex_ite (fun _ => evex_ite (fun _ => j2 _) (fun _ => j2 _)) (fun _ => j2 _)) (fun _ => evex_ite (fun _ => j2 _) (fun _ => j2 _))) (fun _ => evex_ite (fun _ => j2 _) (fun _ => j2 _))
    refine evex_succ ?_
    simp only [spec_l1Quoted.l0, w1]
    refine evex_pos (by omega) (evex_pos (by omega) ?_)
    refine evex_ite (fun _ => evex_ite (fun _ => evex_pos (by omega) (j1 _)) (fun _ => j1 _)) (fun _ => evex_ite (fun _ => evex_ite (fun _ => evex_pos (by omega) (j1 _)) (fun _ => j1 _)) (fun _ => j1 _))
theorem quoS {x : List Int} (hx : Bytes x) (hl : x.length ≤ 1000) : ∃ r, Ev (fun k => spec_l1Quoted.f k x) r ∧ r.size ≤ 3 * x.length := by
  obtain ⟨r, h, h2⟩ := quoL hx hl x.length 0 [] (by omega) (by simp; omega)
  exact ⟨r, h, by simpa using h2⟩
theorem inS (a b c : Int) : ∃ r, spec_l1In.f a b c = some r := by
  unfold spec_l1In.f
  by_cases h : a ≥ b
  · exact ⟨_, if_pos h⟩
  · exact ⟨_, if_neg h⟩
theorem cyrS (a : Int) : ∃ r, Ev (fun k => spec_l2Cyrillic.f k a) r ∧ True := by
  have j0 : ∀ c : Bool, ∃ r, Ev (fun k => spec_l2Cyrillic.j0 k a c) r ∧ True := by
    intro c
    obtain ⟨d, hd⟩ := inS a 1025 1119
    refine evex_succ ?_
    simp only [spec_l2Cyrillic.j0]
    refine evex_ite (fun _ => evex_const rfl trivial) (fun _ => evex_ite (fun _ => evex_const rfl trivial) (fun _ => evex_ite (fun _ => evex_const rfl trivial) (fun _ => evex_bindc hd ?_)))
    exact evex_ite (fun _ => evex_ite (fun _ => evex_const rfl trivial) (fun _ => evex_ite (fun _ => evex_const rfl trivial) (fun _ => evex_ite (fun _ => evex_const rfl trivial) (fun _ => evex_const rfl trivial)))) (fun _ => evex_const rfl trivial)
  obtain ⟨d, hd⟩ := inS a 0 160
  simp only [spec_l2Cyrillic.f]
  exact evex_bindc hd (evex_ite (fun _ => j0 _) (fun _ => j0 _))
theorem hasS (e a : Int) : ∃ r, Ev (fun k => spec_l2Has.f k e a) r ∧ True := by
  obtain ⟨d, hd⟩ := inS a 0 127
  obtain ⟨d', hd'⟩ := inS a 0 255
  simp only [spec_l2Has.f]
  exact evex_ite (fun _ => evex_bindc hd (evex_const rfl trivial)) (fun _ => evex_ite (fun _ => evex_bindc hd' (evex_const rfl trivial)) (fun _ => evex_ite (fun _ => evex_bind (cyrS a) (fun _ _ => evex_const rfl trivial)) (fun _ => evex_const rfl trivial)))
def Few (l : List Int) : Prop := Bytes l ∧ l.length ≤ 3
theorem few1 (a : Int) : Few [a % 256] := ⟨fun y hy => by simp only [List.mem_singleton] at hy; omega, by simp⟩
theorem few2 (a b : Int) : Few [a % 256, b % 256] := ⟨fun y hy => by simp only [List.mem_cons, List.not_mem_nil, or_false] at hy; omega, by simp⟩
theorem few3 (a b c : Int) : Few [a % 256, b % 256, c % 256] := ⟨fun y hy => by simp only [List.mem_cons, List.not_mem_nil, or_false] at hy; omega, by simp⟩
theorem bytS (e a : Int) : ∃ r, Ev (fun k => spec_l2Bytes.f k e a) r ∧ Few r := by
  have j0 : ∀ c : Bool, ∃ r, Ev (fun k => spec_l2Bytes.j0 k a e c) r ∧ Few r := by
    intro c
    refine evex_succ ?_
    simp only [spec_l2Bytes.j0]
    exact evex_ite (fun _ => evex_const rfl (few1 _)) (fun _ => evex_ite (fun _ => evex_bind (cyrS a) (fun _ _ => evex_const rfl (few1 _))) (fun _ => evex_ite (fun _ => evex_const rfl (few2 _ _)) (fun _ => evex_ite (fun _ => evex_const rfl (few1 _)) (fun _ => evex_ite (fun _ => evex_const rfl (few2 _ _)) (fun _ => evex_const rfl (few3 _ _ _))))))
  simp only [spec_l2Bytes.f]
  exact evex_ite (fun _ => j0 _) (fun _ => j0 _)
theorem bytes_app {a b : List Int} (ha : Bytes a) (hb : Bytes b) : Bytes (a ++ b) := fun x hx => (List.mem_append.1 hx).elim (ha x) (hb x)
theorem bytes_nil : Bytes [] := fun _ h => absurd h (by simp)
theorem enc2S (e : Int) (x : List Int) (hl : x.length ≤ 1000) : ∃ r, Ev (fun k => spec_l2Encode.f k e x) r ∧ (Bytes r.1 ∧ r.1.length ≤ 400) := by
  have L : ∀ (m i : Nat) (acc : List Int), i + m = x.length → acc.length ≤ 3 * i → Bytes acc → ∃ r, Ev (fun k => spec_l2Encode.l0 k e x acc (i : Int)) r ∧ (Bytes r.1 ∧ r.1.length ≤ 400) := by
    intro m
    induction m with
    | zero =>
      intro i acc him ha hB
      refine evex_succ ?_
      simp only [spec_l2Encode.l0]
      exact evex_neg (by omega) (evex_ite (fun _ => evex_const rfl ⟨bytes_nil, by simp⟩) (fun h => evex_const rfl ⟨hB, by simp only; omega⟩))
    | succ m ih =>
      intro i acc him ha hB
      have w1 : wrap64 ((i : Int) + 1) = ((i + 1 : Nat) : Int) := by rw [wid (by omega) (by omega)]; omega
      refine evex_succ ?_
      simp only [spec_l2Encode.l0, w1]
      refine evex_pos (by omega) (evex_pos (by omega) (evex_bind (hasS e (rd x i)) (fun c _ => evex_ite (fun _ => evex_bind (bytS e (rd x i)) (fun l h => evex_pos (by have := h.2; omega) ?_)) (fun _ => evex_const rfl ⟨bytes_nil, by simp⟩))))
      exact ih (i + 1) (acc ++ l) (by omega) (by have := h.2; simp; omega) (bytes_app hB h.1)
  exact L x.length 0 [] (by omega) (by simp) bytes_nil
theorem selfS (x : List Int) (hl : x.length ≤ 1000) : ∃ r, Ev (fun k => spec_l4Self.f k x) r ∧ True := by
  have L : ∀ (m i : Nat), i + m = x.length → ∃ r, Ev (fun k => spec_l4Self.l0 k x (i : Int)) r ∧ True := by
    intro m
    induction m with
    | zero =>
      intro i him
      refine evex_succ ?_
      simp only [spec_l4Self.l0]
      exact evex_neg (by omega) (evex_const rfl trivial)
    | succ m ih =>
      intro i him
      have w1 : wrap64 ((i : Int) + 1) = ((i + 1 : Nat) : Int) := by rw [wid (by omega) (by omega)]; omega
      obtain ⟨d, hd⟩ := inS (rd x i) 32 126
      refine evex_succ ?_
      simp only [spec_l4Self.l0, w1]
      refine evex_pos (by omega) (evex_pos (by omega) (evex_bindc hd (evex_ite (fun _ => evex_ite (fun h0 => ?_) (fun _ => ih (i + 1) (by omega))) (fun _ => evex_const rfl trivial))))
      have w2 : wrap64 ((i : Int) - 1) = (i : Int) - 1 := by rw [wid (by omega) (by omega)]
      simp only [w2]
      exact evex_pos (by omega) (evex_pos (by omega) (evex_ite (fun _ => evex_ite (fun _ => evex_const rfl trivial) (fun _ => ih (i + 1) (by omega))) (fun _ => ih (i + 1) (by omega))))
  exact L x.length 0 (by omega)
theorem enc4S (x : List Int) (hl : x.length ≤ 1000) : ∃ r, Ev (fun k => spec_l4Encode.f k x) r ∧ r.1.size ≤ 400 := by
  simp only [spec_l4Encode.f]
  refine evex_bind (enc2S 4 x hl) (fun q hq => evex_ite (fun _ => evex_bind (selfS x hl) (fun c _ => evex_ite (fun _ => evex_const rfl (by simp only; rw [son_size]; exact hq.2)) (fun _ => evex_bind (encS hq.1 (by have := hq.2; omega)) (fun t ht => ?_)))) (fun _ => evex_const rfl (by simp only; decide)))
  have hs := hq.2
  refine evex_pos (by omega) (evex_pos (by rw [ByteArray.size_append, show (⟨#[61, 63, 117, 116, 102, 45, 56, 63, 66, 63]⟩ : ByteArray).size = 10 from rfl]; omega) (evex_ite (fun _ => evex_const rfl (by simp only; decide)) (fun h => evex_const rfl (by simp only; omega))))
theorem codesS {b : List Int} (hb : Src b) {p : Int} (h0 : 0 ≤ p) (h1 : p ≤ 90000) : ∃ r, Ev (fun k => spec_l2Codes.f k b p) r ∧ (r.1.length ≤ 5 ∧ p ≤ r.2 ∧ r.2 ≤ p + 6) := by
  have L : ∀ (m : Nat) (acc : List Int) (p : Int), m ≤ 5 → acc.length + m ≤ 5 → 0 ≤ p → p + m ≤ 95000 → ∃ r, Ev (fun k => spec_l2Codes.l0 k acc (m : Int) b p) r ∧ (r.1.length ≤ 5 ∧ p ≤ r.2 ∧ r.2 ≤ p + m) := by
    intro m
    induction m with
    | zero =>
      intro acc p hm ha h0 h1
      refine evex_succ ?_
      simp only [spec_l2Codes.l0]
      exact evex_neg (by omega) (evex_const rfl ⟨by simpa using ha, Int.le_refl _, by simp⟩)
    | succ m ih =>
      intro acc p hm ha h0 h1
      obtain ⟨c, hc, _⟩ := pickS hb h0 (by omega) ([97, 66, 32, 228, 1078, 1046, 8470, 167, 8364, 127, 160, 1037] : List Int) (by simp) (by simp)
      have e : wrap64 (((m + 1 : Nat) : Int) - 1) = (m : Int) := by rw [wid (by omega) (by omega)]; omega
      refine evex_succ ?_
      simp only [spec_l2Codes.l0]
      refine evex_pos (by omega) (evex_bindc hc (evex_pos (by omega) ?_))
      simp only [e]
      obtain ⟨r, h2, h3⟩ := ih (acc ++ [c]) (p + 1) (by omega) (by simp; omega) (by omega) (by omega)
      exact ⟨r, h2, by omega⟩
  obtain ⟨v, hv, h2, h3⟩ := nextS hb h0 (by omega) (n := 6) (by omega) (by omega)
  simp only [spec_l2Codes.f]
  refine evex_bindc hv ?_
  obtain ⟨m, rfl⟩ : ∃ m : Nat, v = m := ⟨v.toNat, by omega⟩
  obtain ⟨r, h4, h5⟩ := L m [] (p + 1) (by omega) (by simp; omega) (by omega) (by omega)
  exact ⟨r, h4, by omega⟩
theorem copS (a : Int) : ∃ c, spec_l8Copies.f a = some c := by
  unfold spec_l8Copies.f
  by_cases h : a = 5
  · exact ⟨_, if_pos h⟩
  · exact ⟨_, if_neg h⟩
theorem lenB (s : ByteArray) : (bytesOf s).length = s.size := bytesOf_length s
def lit (l : List Int) : Prop := Bytes l ∧ l.length ≤ 200
theorem leafS {b : List Int} (hb : Src b) {p : Int} (h0 : 0 ≤ p) (h1 : p ≤ 80000) : ∃ r, Ev (fun k => spec_l5Leaf.f k b p) r ∧ (Bytes r.1 ∧ r.1.length ≤ 700 ∧ p ≤ r.2 ∧ r.2 ≤ p + 40) := by
  obtain ⟨v1, e1, a1, a2⟩ := nextS hb h0 (by omega) (n := 8) (by omega) (by omega)
  simp only [spec_l5Leaf.f]
  refine evex_bindc e1 (evex_bind (someS hb (p := p + 1) (by omega) (by omega) (n := v1) a1 (by omega)) (fun q hq => ?_))
  obtain ⟨q1, q2, q3⟩ := hq
  obtain ⟨v2, e2, b1, b2⟩ := nextS hb (p := q.2) (by omega) (by omega) (n := 6) (by omega) (by omega)
  refine evex_bindc e2 ?_
  have fin : ∀ (l m : List Int), Bytes l → l.length ≤ 200 → Bytes m → m.length ≤ 500 → ∃ r, Ev (fun _ => if l.length + m.length < 140737488355328 then some (l ++ m, q.2 + 1) else none) r ∧ (Bytes r.1 ∧ r.1.length ≤ 700 ∧ p ≤ r.2 ∧ r.2 ≤ p + 40) := fun l m hl hll hm hml => evex_pos (by omega) (evex_const rfl ⟨bytes_app hl hm, by simp; omega, by simp only; omega, by simp only; omega⟩)
  refine evex_ite (fun _ => evex_bindc rfl ?_) (fun _ => evex_ite (fun _ => evex_bindc rfl ?_) (fun _ => evex_ite (fun _ => ?_) (fun _ => evex_ite (fun _ => evex_bindc rfl ?_) (fun _ => evex_ite (fun _ => evex_bindc rfl (evex_bindc rfl ?_)) (fun _ => ?_)))))
  · refine evex_bind (encS q1 (by omega)) (fun t ht => evex_pos (by omega) (evex_bindc rfl ?_))
    exact fin _ _ (by unfold Bytes; decide) (by decide) (bytesOf_bytes t) (by rw [lenB]; omega)
  · refine evex_bind (quoS q1 (by omega)) (fun t ht => evex_pos (by omega) (evex_bindc rfl ?_))
    exact fin _ _ (by unfold Bytes; decide) (by decide) (bytesOf_bytes t) (by rw [lenB]; omega)
  · refine evex_bind (enc2S 3 _ (by simp)) (fun t ht => evex_bindc rfl ?_)
    exact fin _ _ (by unfold Bytes; decide) (by decide) ht.1 (by have := ht.2; omega)
  · exact fin _ _ (by unfold Bytes; decide) (by decide) q1 (by omega)
  · exact fin _ _ (by unfold Bytes; decide) (by decide) (by unfold Bytes; decide) (by decide)
  · refine evex_bind (codesS hb (p := q.2 + 1) (by omega) (by omega)) (fun c hc => evex_bind (enc4S c.1 (by omega)) (fun t ht => ?_))
    have e9 : (⟨#[83, 117, 98, 106, 101, 99, 116, 58, 32]⟩ : ByteArray).size = 9 := rfl
    have e10 : (⟨#[10, 10]⟩ : ByteArray).size = 2 := rfl
    refine evex_pos (by omega) (evex_pos (by rw [ByteArray.size_append, e9]; omega) (evex_pos (by simp only [ByteArray.size_append, e9, e10]; omega) (evex_const rfl ⟨bytes_app (bytesOf_bytes _) q1, ?_, ?_, ?_⟩)))
    · simp only [List.length_append, lenB, ByteArray.size_append, e9, e10]; omega
    · simp only; omega
    · simp only; omega
def okT (lo hi : Int) (r : Int × ByteArray × ByteArray × List Int × Int × Int × Int × List Int × Int) : Prop := r.2.1.size ≤ 8 ∧ r.2.2.1.size ≤ 8 ∧ r.2.2.2.1.length ≤ 7 ∧ Bytes r.2.2.2.2.2.2.2.1 ∧ r.2.2.2.2.2.2.2.1.length ≤ 700 ∧ lo ≤ r.2.2.2.2.2.2.2.2 ∧ r.2.2.2.2.2.2.2.2 ≤ hi
theorem okT_mono {a b c d : Int} {r : Int × ByteArray × ByteArray × List Int × Int × Int × Int × List Int × Int} (h : okT a b r) (h1 : c ≤ a) (h2 : b ≤ d) : okT c d r := ⟨h.1, h.2.1, h.2.2.1, h.2.2.2.1, h.2.2.2.2.1, by have := h.2.2.2.2.2.1; omega, by have := h.2.2.2.2.2.2; omega⟩
theorem evex_imp {α : Type} {P Q : α → Prop} {g : Nat → Option α} (h : ∃ r, Ev g r ∧ P r) (k : ∀ r, P r → Q r) : ∃ r, Ev g r ∧ Q r := by
  obtain ⟨r, h1, h2⟩ := h
  exact ⟨r, h1, k r h2⟩
theorem d8_3 {b : List Int} (hb : Src b) (p f0 : Int) (f1 f2 : ByteArray) (f3 : List Int) (f4 f5 f6 : Int) (h0 : 0 ≤ p) (h1 : p ≤ 70000) (s1 : f1.size ≤ 8) (s2 : f2.size ≤ 8) (s3 : f3.length ≤ 7) : ∃ r, Ev (fun k => spec_l8Draw.j3 k b p f0 f1 f2 f3 f4 f5 f6) r ∧ okT p (p + 50) r := by
  obtain ⟨v1, e1, a1, a2⟩ := nextS hb h0 (by omega) (n := 16) (by omega) (by omega)
  obtain ⟨v2, e2, b1, b2⟩ := nextS hb (p := p + 1) (by omega) (by omega) (n := 50) (by omega) (by omega)
  refine evex_succ ?_
  simp only [spec_l8Draw.j3]
  refine evex_ite (fun _ => evex_bindc e1 (evex_bindc e2 (evex_bind (leafS hb (p := p + 1 + 1) (by omega) (by omega)) (fun q hq => evex_const rfl ⟨s1, s2, s3, hq.1, hq.2.1, ?_, ?_⟩)))) (fun _ => evex_const rfl ⟨s1, s2, s3, bytes_nil, by simp, Int.le_refl _, ?_⟩)
  · have := hq.2.2; simp only; omega
  · have := hq.2.2; simp only; omega
  · simp only; omega
theorem d8_2 {b : List Int} (hb : Src b) (p f0 : Int) (f1 f2 : ByteArray) (f3 : List Int) (f4 f5 f6 : Int) (h0 : 0 ≤ p) (h1 : p ≤ 60000) (s1 : f1.size ≤ 8) (s2 : f2.size ≤ 8) (s3 : f3.length ≤ 7) : ∃ r, Ev (fun k => spec_l8Draw.j2 k b p f0 f1 f2 f3 f4 f5 f6) r ∧ okT p (p + 60) r := by
  obtain ⟨v1, e1, a1, a2⟩ := nextS hb h0 (by omega) (n := 3) (by omega) (by omega)
  obtain ⟨v2, e2, b1, b2⟩ := nextS hb (p := p + 1) (by omega) (by omega) (n := 16) (by omega) (by omega)
  refine evex_succ ?_
  simp only [spec_l8Draw.j2]
  refine evex_ite (fun _ => evex_bindc e1 (evex_bindc e2 (evex_imp (d8_3 hb (p + 1 + 1) _ f1 f2 f3 _ _ _ (by omega) (by omega) s1 s2 s3) (fun r h => okT_mono h (by omega) (by omega))))) (fun _ => evex_imp (d8_3 hb p _ f1 f2 f3 _ _ _ (by omega) (by omega) s1 s2 s3) (fun r h => okT_mono h (by omega) (by omega)))
theorem d8_1 {b : List Int} (hb : Src b) (c : Bool) (p f0 : Int) (f1 f2 : ByteArray) (f4 f5 f6 : Int) (h0 : 0 ≤ p) (h1 : p ≤ 50000) (s1 : f1.size ≤ 8) (s2 : f2.size ≤ 8) : ∃ r, Ev (fun k => spec_l8Draw.j1 k c b p f0 f1 f2 f4 f5 f6) r ∧ okT p (p + 70) r := by
  refine evex_succ ?_
  simp only [spec_l8Draw.j1]
  refine evex_ite (fun _ => ?_) (fun _ => evex_imp (d8_2 hb p _ f1 f2 [] _ _ _ (by omega) (by omega) s1 s2 (by simp)) (fun r h => okT_mono h (by omega) (by omega)))
  have hu : ∃ r, Ev (fun k => spec_l8DrawUids.f k b p) r ∧ (r.1.length ≤ 5 ∧ p ≤ r.2 ∧ r.2 ≤ p + 5) := evex_imp (uidsS hb 5 [] p (by omega) (by simp) h0 (by omega)) (fun r h => by omega)
  exact evex_bind hu (fun q hq => evex_imp (d8_2 hb q.2 _ f1 f2 q.1 _ _ _ (by omega) (by omega) s1 s2 (by omega)) (fun r h => okT_mono h (by omega) (by omega)))
theorem d8_0 {b : List Int} (hb : Src b) (p f0 : Int) (f1 f2 : ByteArray) (f4 f5 f6 : Int) (h0 : 0 ≤ p) (h1 : p ≤ 50000) (s1 : f1.size ≤ 8) (s2 : f2.size ≤ 8) : ∃ r, Ev (fun k => spec_l8Draw.j0 k b p f0 f1 f2 f4 f5 f6) r ∧ okT p (p + 70) r := by
  obtain ⟨c, hc⟩ := copS f0
  refine evex_succ ?_
  simp only [spec_l8Draw.j0]
  exact evex_bindc hc (evex_ite (fun _ => d8_1 hb _ p _ f1 f2 _ _ _ h0 h1 s1 s2) (fun _ => d8_1 hb _ p _ f1 f2 _ _ _ h0 h1 s1 s2))
theorem draw8 {b : List Int} (hb : Src b) {p : Int} (h0 : 0 ≤ p) (h1 : p ≤ 40000) : ∃ r, Ev (fun k => spec_l8Draw.f k b p) r ∧ okT p (p + 80) r := by
  obtain ⟨v1, e1, _⟩ := pickS hb h0 (by omega) ([1, 2, 3, 3, 3, 4, 4, 5, 6, 7] : List Int) (by simp) (by simp)
  obtain ⟨v2, e2, b1, b2⟩ := nextS hb (p := p + 1) (by omega) (by omega) (n := 4) (by omega) (by omega)
  obtain ⟨v3, e3, c1, c2⟩ := nextS hb (p := p + 1 + 1) (by omega) (by omega) (n := 3) (by omega) (by omega)
  obtain ⟨c, hc⟩ := copS v1
  simp only [spec_l8Draw.f]
  refine evex_bindc e1 (evex_bindc rfl (evex_bindc e2 (evex_pos b1 (evex_pos (by simpa using b2) (evex_bindc hc ?_)))))
  have s1 : (rdOf ByteArray.empty ([(⟨#[105, 110]⟩ : ByteArray), (⟨#[111, 108, 100]⟩ : ByteArray), (⟨#[98, 111, 120]⟩ : ByteArray), (⟨#[105, 110]⟩ : ByteArray)] : List ByteArray) v2).size ≤ 8 := by
    rcases (by omega : v2 = 0 ∨ v2 = 1 ∨ v2 = 2 ∨ v2 = 3) with rfl | rfl | rfl | rfl <;> decide
  have s2 : (rdOf ByteArray.empty ([(⟨#[111, 108, 100]⟩ : ByteArray), (⟨#[105, 110]⟩ : ByteArray), (⟨#[98, 111, 120]⟩ : ByteArray)] : List ByteArray) v3).size ≤ 8 := by
    rcases (by omega : v3 = 0 ∨ v3 = 1 ∨ v3 = 2) with rfl | rfl | rfl <;> decide
  refine evex_ite (fun _ => evex_bindc rfl (evex_bindc e3 (evex_pos c1 (evex_pos (by simpa using c2) ?_)))) (fun _ => ?_)
  · exact evex_imp (d8_0 hb (p + 1 + 1 + 1) _ _ _ _ _ _ (by omega) (by omega) s1 s2) (fun r h => okT_mono h (by omega) (by omega))
  · exact evex_imp (d8_0 hb (p + 1 + 1) _ _ _ _ _ _ (by omega) (by omega) s1 (by decide)) (fun r h => okT_mono h (by omega) (by omega))
theorem bent8 {b : List Int} (hb : Src b) {p : Int} (h0 : 0 ≤ p) (h1 : p ≤ 30000) : ∃ r, Ev (fun k => spec_l8Bent.f k b p) r ∧ okT p (p + 90) r := by
  simp only [spec_l8Bent.f]
  refine evex_bind (draw8 hb h0 (by omega)) (fun q hq => ?_)
  obtain ⟨q1, q2, q3, q4, q5, q6, q7⟩ := hq
  obtain ⟨v1, e1, a1, a2⟩ := nextS hb (p := q.2.2.2.2.2.2.2.2) (by omega) (by omega) (n := 12) (by omega) (by omega)
  obtain ⟨w1, f1, _⟩ := pickS hb (p := q.2.2.2.2.2.2.2.2 + 1) (by omega) (by omega) ([0, 3, 4, 8] : List Int) (by simp) (by simp)
  obtain ⟨w2, f2, _⟩ := pickS hb (p := q.2.2.2.2.2.2.2.2 + 1) (by omega) (by omega) ([0, 3, 1000] : List Int) (by simp) (by simp)
  obtain ⟨w3, f3, _⟩ := pickS hb (p := q.2.2.2.2.2.2.2.2 + 1) (by omega) (by omega) ([16, (-1), 1] : List Int) (by simp) (by simp)
  obtain ⟨v2, e2, b1, b2⟩ := nextS hb (p := q.2.2.2.2.2.2.2.2 + 1) (by omega) (by omega) (n := 2) (by omega) (by omega)
  have s1 : (rdOf ByteArray.empty ([(⟨#[]⟩ : ByteArray), (⟨#[65]⟩ : ByteArray)] : List ByteArray) v2).size ≤ 8 := by
    rcases (by omega : v2 = 0 ∨ v2 = 1) with rfl | rfl <;> decide
  have u1 : p ≤ q.2.2.2.2.2.2.2.2 + 1 := by omega
  have u2 : q.2.2.2.2.2.2.2.2 + 1 ≤ p + 90 := by omega
  have u3 : p ≤ q.2.2.2.2.2.2.2.2 + 1 + 1 := by omega
  have u4 : q.2.2.2.2.2.2.2.2 + 1 + 1 ≤ p + 90 := by omega
  refine evex_bindc e1 (evex_ite (fun _ => evex_bindc f1 (evex_const rfl ⟨q1, q2, q3, q4, q5, u3, u4⟩)) (fun _ => evex_ite (fun _ => evex_bindc rfl (evex_bindc e2 (evex_pos b1 (evex_pos (by simpa using b2) (evex_const rfl ⟨s1, q2, q3, q4, q5, u3, u4⟩))))) (fun _ => evex_ite (fun _ => evex_bindc f2 (evex_const rfl ⟨q1, q2, by simp, q4, q5, u3, u4⟩)) (fun _ => evex_ite (fun _ => evex_bindc f3 (evex_const rfl ⟨q1, q2, q3, q4, q5, u3, u4⟩)) (fun _ => evex_ite (fun _ => evex_const rfl ⟨q1, q2, by simp, q4, q5, u1, u2⟩) (fun _ => evex_const rfl ⟨q1, q2, q3, q4, q5, u1, u2⟩))))))
def okD (o : S37) : Prop := o.f1.size ≤ 8 ∧ o.f2.size ≤ 8 ∧ o.f3.length ≤ 7 ∧ Bytes o.f7 ∧ o.f7.length ≤ 700
theorem okD.ok {o : S37} (h : okD o) : okIOp o := ⟨by have := h.1; omega, by have := h.2.1; omega, by have := h.2.2.1; omega, by have := h.2.2.2.2; omega⟩
theorem okD.len {o : S37} (h : okD o) : (packF o).length ≤ 1000 := by
  rw [packF_length]
  obtain ⟨h1, h2, h3, _, h5⟩ := h
  omega
theorem bits_byte (a c : Int) : 0 ≤ Go.bits .xor .u8 a c ∧ Go.bits .xor .u8 a c ≤ 255 := by
  unfold Go.bits
  simp only [IntKind.wrap_u8]
  omega
theorem bytes_set {l : List Int} (h : Bytes l) (i : Nat) (v : Int) (h0 : 0 ≤ v) (h1 : v ≤ 255) : Bytes (l.set i v) := fun x hx => (List.mem_or_eq_of_mem_set hx).elim (h x) (fun e => by subst e; exact ⟨h0, h1⟩)
theorem oneF_cons (a : Int) (l : List Int) : oneF (a :: l, false) = (a, (l, false)) := by
  unfold oneF
  rw [if_neg (by simp)]
  simp [rd]
theorem twoF_eq {n : Int} (h0 : 0 ≤ n) (h1 : n ≤ 65535) : twoF n = [n / 256, n % 256] := by
  unfold twoF
  rw [Int.tdiv_eq_ediv_of_nonneg h0, Int.tmod_eq_emod_of_nonneg h0, wid (by omega) (by omega)]
  simp only [List.cons.injEq, and_true]
  omega
theorem twoR_two {n : Int} (h0 : 0 ≤ n) (h1 : n ≤ 65535) (l : List Int) : twoR (twoF n ++ l, false) = (n, (l, false)) := by
  rw [twoF_eq h0 h1]
  unfold twoR
  rw [if_neg (by simp)]
  simp only [rd, List.cons_append, List.nil_append, Prod.mk.injEq, and_true]
  constructor
  · simp; omega
  · simp
theorem takeF_app (x l : List Int) {n : Int} (hn : n = (x.length : Int)) : takeF (x ++ l, false) n = (x, (l, false)) := by
  subst hn
  unfold takeF
  rw [if_neg (by simp; omega)]
  simp
theorem twosF_app : ∀ (x l : List Int), (∀ u ∈ x, 0 ≤ u ∧ u ≤ 65535) → twosF x.length (uidsB x ++ l, false) = (x, (l, false))
  | [], l, _ => rfl
  | a :: x, l, h => by
    have ha := h a (by simp)
    have e : uidsB (a :: x) ++ l = twoF a ++ (uidsB x ++ l) := by unfold uidsB; rw [List.flatMap_cons, List.append_assoc]
    rw [e, List.length_cons]
    simp only [twosF, twoR_two ha.1 ha.2, twosF_app x l (fun u hu => h u (List.mem_cons_of_mem _ hu))]
theorem son_bytes (s : ByteArray) : strOfNums (bytesOf s) = s := by
  unfold strOfNums bytesOf
  rw [List.map_map]
  have : (fun n => UInt8.ofNat n.toNat) ∘ (fun b : UInt8 => (b.toNat : Int)) = id := by funext b; simp
  rw [this, List.map_id]
def okB (o : S37) : Prop := 0 ≤ o.f0 ∧ o.f0 ≤ 255 ∧ o.f1.size ≤ 255 ∧ o.f2.size ≤ 255 ∧ o.f3.length ≤ 255 ∧ (∀ u ∈ o.f3, 0 ≤ u ∧ u ≤ 65535) ∧ 0 ≤ o.f4 ∧ o.f4 ≤ 255 ∧ 0 ≤ o.f5 ∧ o.f5 ≤ 255 ∧ 0 ≤ o.f6 ∧ o.f6 ≤ 65535 ∧ o.f7.length ≤ 400
theorem body_app (o : S37) (t : List Int) : bodyB o ++ t = o.f0 % 256 :: ((o.f1.size : Int) % 256 :: (bytesOf o.f1 ++ ((o.f2.size : Int) % 256 :: (bytesOf o.f2 ++ ((o.f3.length : Int) % 256 :: (uidsB o.f3 ++ (o.f4 % 256 :: (o.f5 % 256 :: (twoF o.f6 ++ (twoF (o.f7.length : Int) ++ (o.f7 ++ t))))))))))) := by
  simp [bodyB, headB, List.append_assoc]
theorem parse_body (o : S37) (h : okB o) (t : List Int) : parseI (bodyB o ++ t, false) = (o, (t, false)) := by
  obtain ⟨a1, a2, a3, a4, a5, a6, a7, a8, a9, a10, a11, a12, a13⟩ := h
  rw [body_app]
  have m1 : (o.f3.length : Int) % 256 = (o.f3.length : Int) := by omega
  unfold parseI
  simp only [oneF_cons]
  rw [takeF_app (bytesOf o.f1) _ (by rw [bytesOf_length]; omega)]
  simp only [oneF_cons]
  rw [takeF_app (bytesOf o.f2) _ (by rw [bytesOf_length]; omega)]
  simp only [oneF_cons, m1, Int.toNat_natCast]
  rw [twosF_app _ _ a6]
  simp only [oneF_cons]
  rw [twoR_two a11 a12]
  simp only
  rw [twoR_two (by omega) (by omega)]
  simp only
  rw [takeF_app o.f7 _ rfl]
  simp only [son_bytes]
  rw [show o.f0 % 256 = o.f0 by omega, show o.f4 % 256 = o.f4 by omega, show o.f5 % 256 = o.f5 by omega]
theorem packW_eq (o : S37) (h : okB o) : packW o = twoF ((packF o).length : Int) ++ bodyB o := by
  obtain ⟨a1, a2, a3, a4, a5, a6, a7, a8, a9, a10, a11, a12, a13⟩ := h
  unfold packW
  rw [packF_length, bodyB_length, wid (by omega) (by omega)]
  congr 2
  omega
theorem pack_len_le (o : S37) (h : okB o) : (packF o).length ≤ 2000 := by
  obtain ⟨a1, a2, a3, a4, a5, a6, a7, a8, a9, a10, a11, a12, a13⟩ := h
  rw [packF_length]
  omega
theorem packF_head (o : S37) (h : okB o) : packF o = twoF ((packF o).length : Int) ++ (bodyB o ++ twoF (sumF (packW o))) := by
  have e := packW_eq o h
  conv => lhs; unfold packF
  rw [← List.append_assoc, ← e]
theorem readW_pack (o : S37) (h : okB o) (hf : opFault o = 0) (rest : List Int) : readW (packF o ++ rest) = some (o, ((packF o).length : Int)) := by
  have hl := pack_len_le o h
  have h14 : 14 ≤ (packF o).length := by rw [packF_length]; omega
  have e := packF_head o h
  have e1 : packF o ++ rest = twoF ((packF o).length : Int) ++ ((bodyB o ++ twoF (sumF (packW o))) ++ rest) := by rw [← List.append_assoc, ← e]
  have hd : twoR (packF o ++ rest, false) = (((packF o).length : Int), ((bodyB o ++ twoF (sumF (packW o))) ++ rest, false)) := by
    rw [e1, twoR_two (by omega) (by omega)]
  unfold readW
  simp only [hd]
  rw [if_neg (by simp; omega)]
  have hm : (mx 2 ((packF o).length : Int)).toNat = (packF o).length := by simp only [mx]; split <;> omega
  rw [hm, List.take_left' rfl]
  have hdrop : (packF o).drop 2 = bodyB o ++ twoF (sumF (packW o)) := by
    rw [e]
    exact List.drop_left' (twoF_length _)
  rw [hdrop, parse_body o h]
  simp [hf]
/-! One byte changed: the sum tells it. -/
theorem ev_slicesEqual_byte (x y : List Int) (hx : x.length ≤ 1048576) : Ev (fun k => slices_Equal_byte_byte.f k x y) (decide (x = y)) := by
  unfold slices_Equal_byte_byte.f
  by_cases hl : x.length = y.length
  case neg =>
    have : decide (x = y) = false := decide_eq_false (fun h => hl (by rw [h]))
    rw [this]
    exact Ev.neg (by omega) (Ev.now _)
  refine Ev.pos (by omega) ?_
  rw [← sameL_eq]
  refine ev_sameL (fun k i => slices_Equal_byte_byte.l0 k x y (x.length : Int) i) x y _ hl ?_ ?_ ?_
  · refine Ev.succ ?_
    simp only [slices_Equal_byte_byte.l0, Int.lt_irrefl, if_false]
    exact Ev.now _
  · intro i hi hj hp
    refine Ev.succ ?_
    simp only [slices_Equal_byte_byte.l0, rd_get x i hi, rd_get y i hj]
    exact Ev.pos (by omega) (Ev.pos (by omega) (Ev.pos (by omega) (Ev.pos (by omega) (Ev.neg (of_decide_eq_false hp) (Ev.now _)))))
  · intro i hi hj hp r h
    refine Ev.succ ?_
    simp only [slices_Equal_byte_byte.l0, rd_get x i hi, rd_get y i hj, wsucc hi (show x.length ≤ 281474976710656 by omega)]
    exact Ev.pos (by omega) (Ev.pos (by omega) (Ev.pos (by omega) (Ev.pos (by omega) (Ev.pos (of_decide_eq_true hp) h))))
theorem ev_slicesEqual_int64 (x y : List Int) (hx : x.length ≤ 1048576) : Ev (fun k => slices_Equal_int64_int64.f k x y) (decide (x = y)) := by
  unfold slices_Equal_int64_int64.f
  by_cases hl : x.length = y.length
  case neg =>
    have : decide (x = y) = false := decide_eq_false (fun h => hl (by rw [h]))
    rw [this]
    exact Ev.neg (by omega) (Ev.now _)
  refine Ev.pos (by omega) ?_
  rw [← sameL_eq]
  refine ev_sameL (fun k i => slices_Equal_int64_int64.l0 k x y (x.length : Int) i) x y _ hl ?_ ?_ ?_
  · refine Ev.succ ?_
    simp only [slices_Equal_int64_int64.l0, Int.lt_irrefl, if_false]
    exact Ev.now _
  · intro i hi hj hp
    refine Ev.succ ?_
    simp only [slices_Equal_int64_int64.l0, rd_get x i hi, rd_get y i hj]
    exact Ev.pos (by omega) (Ev.pos (by omega) (Ev.pos (by omega) (Ev.pos (by omega) (Ev.neg (of_decide_eq_false hp) (Ev.now _)))))
  · intro i hi hj hp r h
    refine Ev.succ ?_
    simp only [slices_Equal_int64_int64.l0, rd_get x i hi, rd_get y i hj, wsucc hi (show x.length ≤ 281474976710656 by omega)]
    exact Ev.pos (by omega) (Ev.pos (by omega) (Ev.pos (by omega) (Ev.pos (by omega) (Ev.pos (of_decide_eq_true hp) h))))
def sameOp (a b : S37) : Bool := decide (a.f0 = b.f0) && (decide (a.f1.toList = b.f1.toList) && (decide (a.f2.toList = b.f2.toList) && (decide (a.f3 = b.f3) && (decide (a.f4 = b.f4) && (decide (a.f5 = b.f5) && (decide (a.f6 = b.f6) && decide (a.f7 = b.f7)))))))
theorem ev_implsameOp (a b : S37) (ha : okIOp a) : Ev (fun k => impl_sameOp.f k a.f0 a.f1 a.f2 a.f3 a.f4 a.f5 a.f6 a.f7 b.f0 b.f1 b.f2 b.f3 b.f4 b.f5 b.f6 b.f7) (sameOp a b) := by
  unfold impl_sameOp.f sameOp
  by_cases h0 : a.f0 = b.f0
  case neg => rw [decide_eq_false h0]; exact Ev.neg h0 (Ev.now _)
  by_cases h1 : a.f1.toList = b.f1.toList
  case neg => rw [decide_eq_true h0, decide_eq_false h1]; exact Ev.pos h0 (Ev.neg h1 (Ev.now _))
  by_cases h2 : a.f2.toList = b.f2.toList
  case neg => rw [decide_eq_true h0, decide_eq_true h1, decide_eq_false h2]; exact Ev.pos h0 (Ev.pos h1 (Ev.neg h2 (Ev.now _)))
  rw [decide_eq_true h0, decide_eq_true h1, decide_eq_true h2]
  simp only [Bool.true_and]
  refine Ev.pos h0 (Ev.pos h1 (Ev.pos h2 (Ev.bind (ev_slicesEqual_int64 a.f3 b.f3 ha.2.2.1) ?_)))
  by_cases h3 : a.f3 = b.f3
  case neg => rw [decide_eq_false h3]; exact Ev.neg (by simp) (Ev.now _)
  rw [decide_eq_true h3]
  refine Ev.pos rfl ?_
  by_cases h4 : a.f4 = b.f4
  case neg => rw [decide_eq_false h4]; exact Ev.neg h4 (Ev.now _)
  by_cases h5 : a.f5 = b.f5
  case neg => rw [decide_eq_true h4, decide_eq_false h5]; exact Ev.pos h4 (Ev.neg h5 (Ev.now _))
  by_cases h6 : a.f6 = b.f6
  case neg => rw [decide_eq_true h4, decide_eq_true h5, decide_eq_false h6]; exact Ev.pos h4 (Ev.pos h5 (Ev.neg h6 (Ev.now _)))
  rw [decide_eq_true h4, decide_eq_true h5, decide_eq_true h6]
  simp only [Bool.true_and]
  exact Ev.pos h4 (Ev.pos h5 (Ev.pos h6 (Ev.bind (ev_slicesEqual_byte a.f7 b.f7 ha.2.2.2) (Ev.now _))))
theorem ev_implSameOps (x y : List S37) (hx : ∀ a ∈ x, okIOp a) (hl : x.length ≤ 1048576) : Ev (fun k => impl_SameOps.f k x y) (sameL sameOp x y) := by
  unfold impl_SameOps.f
  refine Ev.bind ?_ (Ev.now _)
  unfold impl_Op_v0.f
  by_cases hxy : x.length = y.length
  case neg => rw [sameL_ne _ _ _ hxy]; exact Ev.neg (by omega) (Ev.now _)
  refine Ev.pos (by omega) ?_
  refine ev_sameL (fun k i => impl_Op_v0.l0 k y x (x.length : Int) i) x y sameOp hxy ?_ ?_ ?_
  · refine Ev.succ ?_
    simp only [impl_Op_v0.l0, Int.lt_irrefl, if_false]
    exact Ev.now _
  · intro i hi hj hq
    refine Ev.succ ?_
    simp only [impl_Op_v0.l0, rd_Op_get x i hi, rd_Op_get y i hj]
    exact Ev.pos (by omega) (Ev.pos (by omega) (Ev.pos (by omega) (Ev.pos (by omega) (Ev.bind (ev_implsameOp _ _ (hx _ (List.getElem_mem hi))) (Ev.neg (by simp [hq]) (Ev.now _))))))
  · intro i hi hj hq r h
    refine Ev.succ ?_
    simp only [impl_Op_v0.l0, rd_Op_get x i hi, rd_Op_get y i hj, wsucc hi (show x.length ≤ 281474976710656 by omega)]
    exact Ev.pos (by omega) (Ev.pos (by omega) (Ev.pos (by omega) (Ev.pos (by omega) (Ev.bind (ev_implsameOp _ _ (hx _ (List.getElem_mem hi))) (Ev.pos hq h)))))
theorem uids_rng {x : List Int} (h : uidsOk x = true) : ∀ u ∈ x, 1 ≤ u ∧ u ≤ 999 := by
  intro u hu
  obtain ⟨i, hi, rfl⟩ := List.getElem_of_mem hu
  have hs : ∀ r, uidStep x i = some r → r = false := by
    intro r hr
    unfold uidStep at hr
    split at hr
    · split at hr
      · exact (Option.some.inj hr).symm
      · cases hr
    · exact (Option.some.inj hr).symm
  have hn : uidStep x i = none := by
    unfold uidsOk at h
    cases hf : (List.range x.length).findSome? (uidStep x) with
    | none => exact List.findSome?_eq_none_iff.1 hf i (List.mem_range.2 hi)
    | some r =>
      rw [hf] at h
      obtain ⟨a, _, ha⟩ := List.exists_of_findSome?_eq_some hf
      have : r = false := by
        unfold uidStep at ha
        split at ha
        · split at ha
          · exact (Option.some.inj ha).symm
          · cases ha
        · exact (Option.some.inj ha).symm
      rw [this] at h
      cases h
  unfold uidStep at hn
  split at hn
  · rename_i h2
    rw [rd_get x i hi] at h2
    exact h2
  · cases hn
theorem okB_of {o : S37} (hD : okD o) (h : opFault o = 0) : okB o := by
  unfold opFault at h
  split at h
  · rename_i hform
    unfold midFault at h
    split at h
    · cases h
    · split at h
      · cases h
      · rename_i hn
        unfold lateFault at h
        split at h
        · cases h
        · split at h
          · cases h
          · rename_i hr h4
            have hr' : rangeOp o = true := by simpa using hr
            simp only [formOp, Bool.and_eq_true, decide_eq_true_eq] at hform
            simp only [rangeOp, Bool.and_eq_true, Bool.or_eq_true, Bool.not_eq_true', decide_eq_true_eq, decide_eq_false_iff_not] at hr'
            obtain ⟨hf0, honly⟩ := hform
            simp only [onlyOp, Bool.and_eq_true, Bool.or_eq_true, decide_eq_true_eq] at honly
            obtain ⟨hu, hm, hfl, hda⟩ := hr'
            have hu' := uids_rng hu
            have h44 : 0 ≤ o.f4 ∧ o.f4 ≤ 255 := by
              rcases hm with hm | hm
              · have := honly.2.2.1
                rcases this with h5 | h5 <;> omega
              · omega
            exact ⟨by omega, by omega, by have := hD.1; omega, by have := hD.2.1; omega, by omega, fun u hm => by have := hu' u hm; omega, h44.1, h44.2, by omega, by omega, by omega, by omega, by omega⟩
  · cases h
theorem lwAt_ok {b : List Int} (hb : Src b) (a n : Int) (a0 : 0 ≤ a) (a1 : a ≤ 1000) (n0 : 2 ≤ n) (n1 : n ≤ 100000) : ∃ v, laws_lwAt.f b a n = some v ∧ 0 ≤ v ∧ v < n := by
  have fin : ∀ W : Int, 0 ≤ W → ∃ v, some (Int.tmod W n) = some v ∧ 0 ≤ v ∧ v < n := fun W hW => ⟨_, rfl, tmod_bd W n hW (by omega)⟩
  unfold laws_lwAt.f
  rw [if_neg (by omega)]
  by_cases hb0 : (b.length : Int) = 0
  · rw [if_pos hb0, if_neg (by omega)]
    exact fin _ (by rw [wid (by omega) (by omega)]; omega)
  rw [if_neg hb0]
  have hq := tmod_bd a b.length a0 (by omega)
  rw [if_pos hq.1, if_pos hq.2]
  have hr := rd_byte b hb.1 _ hq.1 hq.2
  have hd0 : 0 ≤ Int.tdiv a (b.length : Int) := Int.tdiv_nonneg a0 (by omega)
  have hd1 : Int.tdiv a (b.length : Int) ≤ a := Int.tdiv_le_self _ a0
  have e3 : wrap64 (a + 1) = a + 1 := wid (by omega) (by omega)
  by_cases hn : n > 200
  · have hq' := tmod_bd (a + 1) b.length (by omega) (by omega)
    have hr' := rd_byte b hb.1 _ hq'.1 hq'.2
    rw [if_pos hn, e3, if_pos hq'.1, if_pos hq'.2, if_neg (by omega)]
    apply fin
    generalize rd b (Int.tmod a b.length) = r at hr ⊢
    generalize rd b (Int.tmod (a + 1) b.length) = r' at hr' ⊢
    generalize Int.tdiv a (b.length : Int) = d at hd0 hd1 ⊢
    rw [wid (x := r) (by omega) (by omega), wid (x := r') (by omega) (by omega), wid (x := d) (by omega) (by omega), wid (x := d * 3) (by omega) (by omega), wid (x := r + d * 3) (by omega) (by omega), wid (x := (r + d * 3) * 251) (by omega) (by omega), wid (by omega) (by omega)]
    omega
  · rw [if_neg hn, if_neg (by omega)]
    apply fin
    generalize rd b (Int.tmod a b.length) = r at hr ⊢
    generalize Int.tdiv a (b.length : Int) = d at hd0 hd1 ⊢
    rw [wid (x := r) (by omega) (by omega), wid (x := d) (by omega) (by omega), wid (x := d * 3) (by omega) (by omega), wid (by omega) (by omega)]
    omega
theorem same_refl (l : List Int) : laws_lwSame.f l l = some true := by unfold laws_lwSame.f; simp
theorem sameOp_refl (o : S37) : sameOp o o = true := by simp [sameOp]
/-- The ops from a place on, and the place behind them. -/
def readJ : Nat → List Int → Nat → List S37 × Nat
  | 0, _, a => ([], a)
  | f + 1, l, a => match readW (l.drop a) with
    | none => ([], a)
    | some (o, n) => (o :: (readJ f l (a + n.toNat)).1, (readJ f l (a + n.toNat)).2)
theorem readW_nil : readW [] = none := by
  unfold readW twoR
  simp
theorem readJ_ok (l : List Int) (hl : l.length ≤ 1048576) (hb : Bytes l) : ∀ (f a : Nat), a ≤ l.length → (∀ o ∈ (readJ f l a).1, okIOp o) ∧ a + 14 * (readJ f l a).1.length ≤ (readJ f l a).2 ∧ (readJ f l a).2 ≤ l.length
  | 0, a, h => by simp [readJ, h]
  | f + 1, a, h => by
    unfold readJ
    cases hw : readW (l.drop a) with
    | none => simp [h]
    | some p =>
      obtain ⟨o, n⟩ := p
      have := readW_some (l := l.drop a) (by rw [List.length_drop]; omega) (bytes_drop hb a) hw
      rw [List.length_drop] at this
      have ih := readJ_ok l hl hb f (a + n.toNat) (by omega)
      simp only
      refine ⟨fun x hx => ?_, by simp only [List.length_cons]; omega, ih.2.2⟩
      rcases List.mem_cons.1 hx with rfl | hx
      · exact this.1
      · exact ih.1 x hx
theorem ev_implReadOps (l : List Int) (hl : l.length ≤ 1048576) (hb : Bytes l) : Ev (fun k => impl_readOps.f k l) ((readJ (l.length + 1) l 0).1, ((readJ (l.length + 1) l 0).2 : Int)) := by
  unfold impl_readOps.f
  have key : ∀ (f a : Nat) (acc : List S37), a ≤ l.length → l.length - a < f → acc.length ≤ a → Ev (fun k => impl_readOps.l0 k l acc (a : Int)) (acc ++ (readJ f l a).1, ((readJ f l a).2 : Int)) := by
    intro f
    induction f with
    | zero => intro a acc _ h2 _; omega
    | succ f ih =>
      intro a acc h1 h2 h3
      have hr := ev_implRead (l.drop a) (by rw [List.length_drop]; omega) (bytes_drop hb a)
      refine Ev.succ ?_
      simp only [impl_readOps.l0, Int.toNat_natCast]
      refine Ev.pos (by omega) (Ev.pos (by omega) (Ev.bind hr ?_))
      unfold readJ
      cases hw : readW (l.drop a) with
      | none => rw [List.append_nil]; exact Ev.pos rfl (Ev.now _)
      | some p =>
        obtain ⟨o, n⟩ := p
        have := readW_some (l := l.drop a) (by rw [List.length_drop]; omega) (bytes_drop hb a) hw
        rw [List.length_drop] at this
        simp only [readT]
        refine Ev.neg (by omega) (Ev.pos (by omega) ?_)
        have e := ih (a + n.toNat) (acc ++ [o]) (by omega) (by omega) (by simp only [List.length_append, List.length_cons, List.length_nil]; omega)
        rw [wid (by omega) (by omega), show (a : Int) + n = ((a + n.toNat : Nat) : Int) by omega]
        rw [List.append_assoc] at e
        exact e
  have := key (l.length + 1) 0 [] (by omega) (by omega) (by simp)
  exact this
theorem ev_specJournal (l : List Int) (hl : l.length ≤ 1048576) (hb : Bytes l) : Ev (fun k => spec_l9Journal.f k l) ((readJ (l.length + 1) l 0).1, ((readJ (l.length + 1) l 0).2 : Int)) := by
  unfold spec_l9Journal.f
  have key : ∀ (f a : Nat) (acc : List S37), a ≤ l.length → l.length - a < f → acc.length ≤ a → Ev (fun k => spec_l9Journal.l0 k l acc (a : Int)) (acc ++ (readJ f l a).1, ((readJ f l a).2 : Int)) := by
    intro f
    induction f with
    | zero => intro a acc _ h2 _; omega
    | succ f ih =>
      intro a acc h1 h2 h3
      refine Ev.succ ?_
      simp only [spec_l9Journal.l0, Int.toNat_natCast]
      by_cases hc : (a : Int) < (l.length : Int)
      case neg =>
        unfold readJ
        rw [List.drop_eq_nil_of_le (by omega), readW_nil, List.append_nil]
        exact Ev.neg hc (Ev.now _)
      have hr := ev_specReadOp (l.drop a) (by rw [List.length_drop]; omega) (bytes_drop hb a)
      refine Ev.pos hc (Ev.pos (by omega) (Ev.pos (by omega) (Ev.bind hr ?_)))
      unfold readJ
      cases hw : readW (l.drop a) with
      | none => rw [List.append_nil]; exact Ev.neg (by simp [readR]) (Ev.now _)
      | some p =>
        obtain ⟨o, n⟩ := p
        have := readW_some (l := l.drop a) (by rw [List.length_drop]; omega) (bytes_drop hb a) hw
        rw [List.length_drop] at this
        simp only [readR]
        refine Ev.pos (by first | rfl | trivial) (Ev.pos (by omega) ?_)
        have e := ih (a + n.toNat) (acc ++ [o]) (by omega) (by omega) (by simp only [List.length_append, List.length_cons, List.length_nil]; omega)
        rw [wid (by omega) (by omega), show (a : Int) + n = ((a + n.toNat : Nat) : Int) by omega]
        rw [List.append_assoc] at e
        exact e
  have := key (l.length + 1) 0 [] (by omega) (by omega) (by simp)
  exact this
def journalR (l : List Int) : Int × Int × List S37 := if (l.length : Int) > 8000 then (2, 0, []) else (0, ((readJ (l.length + 1) l 0).2 : Int), (readJ (l.length + 1) l 0).1)
theorem ev_implReadJournal (l : List Int) (hl : l.length ≤ 1048576) (hb : Bytes l) : Ev (fun k => impl_ReadJournal.f k l) (journalR l) := by
  unfold impl_ReadJournal.f journalR
  exact Ev.ite (fun _ => Ev.now _) (fun _ => Ev.bind (ev_implReadOps l hl hb) (Ev.now _))
theorem ev_specReadJournal (l : List Int) (hl : l.length ≤ 1048576) (hb : Bytes l) : Ev (fun k => spec_ReadJournal.f k l) (journalR l) := by
  unfold spec_ReadJournal.f journalR
  exact Ev.ite (fun _ => Ev.now _) (fun _ => Ev.bind (ev_specJournal l hl hb) (Ev.now _))
def badOp (o : S37) : Bool := decide (opFault o ≠ 0)
def allB (x : List S37) : List Int := x.flatMap packF
def packsR (x : List S37) : Int × List Int := match x.find? badOp with
  | some o => (opFault o, [])
  | none => if ((allB x).length : Int) > 8000 then (2, []) else (0, allB x)
theorem allB_succ (x : List S37) (i : Nat) (h : i < x.length) : allB (x.take (i + 1)) = allB (x.take i) ++ packF x[i] := by
  unfold allB
  rw [List.take_succ_eq_append_getElem h, List.flatMap_append, List.flatMap_cons, List.flatMap_nil, List.append_nil]
theorem allB_le (x : List S37) (hin : ∀ y ∈ x, okIOp y) : ∀ i, i ≤ x.length → (allB (x.take i)).length ≤ 8388608 * i
  | 0, _ => by simp [allB]
  | i + 1, h => by
    have := allB_le x hin i (by omega)
    obtain ⟨h1, h2, h3, h7⟩ := hin x[i] (List.getElem_mem _)
    rw [allB_succ x i (by omega), List.length_append, packF_length]
    omega
theorem ev_packedAll (x : List S37) (hx : x.length ≤ 1048576) (hin : ∀ y ∈ x, okIOp y) : Ev (fun k => impl_packedAll.f k x) (allB x) := by
  unfold impl_packedAll.f
  have h := ev_iter (fun k (s : List Int) i => impl_packedAll.l0 k s x (x.length : Int) i) x.length (fun i => allB (x.take i)) (allB x) ?_ ?_
  · simpa [allB] using h
  · refine Ev.succ ?_
    simp only [impl_packedAll.l0, Int.lt_irrefl, if_false, List.take_length]
    exact Ev.now _
  · intro i hi r h
    have hok := hin x[i] (List.getElem_mem _)
    have hle := allB_le x hin i (by omega)
    refine Ev.succ ?_
    simp only [impl_packedAll.l0, rd_Op_get x i hi]
    refine Ev.pos (by omega) (Ev.pos (by omega) (Ev.pos (by omega) (Ev.bind (ev_packed x[i] hok) ?_)))
    rw [allB_succ x i hi] at h
    obtain ⟨h1, h2, h3, h7⟩ := hok
    refine Ev.pos (by rw [packF_length]; omega) ?_
    simp only [wsucc hi (show x.length ≤ 281474976710656 by omega)]
    exact h
theorem find_drop (x : List S37) (i : Nat) (h : i < x.length) (hf : (x.drop i).find? badOp = x.find? badOp) : (badOp x[i] = true → x.find? badOp = some x[i]) ∧ (¬ badOp x[i] = true → (x.drop (i + 1)).find? badOp = x.find? badOp) := by
  rw [List.drop_eq_getElem_cons h, List.find?_cons] at hf
  constructor
  · intro hb; rw [hb] at hf; exact hf.symm
  · intro hb
    have : badOp x[i] = false := by simpa using hb
    rw [this] at hf
    exact hf
theorem ev_implPackOps (x : List S37) (hx : x.length ≤ 1048576) (hin : ∀ y ∈ x, okIOp y) : Ev (fun k => impl_PackOps.f k x) (packsR x) := by
  unfold impl_PackOps.f
  have key : ∀ (d i : Nat), i + d = x.length → (x.drop i).find? badOp = x.find? badOp → Ev (fun k => impl_PackOps.l0 k x x (x.length : Int) (i : Int)) (packsR x) := by
    intro d
    induction d with
    | zero =>
      intro i hi hf
      rw [List.drop_eq_nil_of_le (by omega)] at hf
      refine Ev.succ ?_
      simp only [impl_PackOps.l0]
      refine Ev.neg (by omega) (Ev.bind (ev_packedAll x hx hin) ?_)
      unfold packsR
      rw [← hf]
      exact Ev.ite (fun _ => Ev.now _) (fun _ => Ev.now _)
    | succ d ih =>
      intro i hi hf
      have hl : i < x.length := by omega
      obtain ⟨f1, f2⟩ := find_drop x i hl hf
      refine Ev.succ ?_
      simp only [impl_PackOps.l0, rd_Op_get x i hl, wsucc hl (show x.length ≤ 281474976710656 by omega)]
      refine Ev.pos (by omega) (Ev.pos (by omega) (Ev.pos (by omega) (Ev.bind (ev_implOpFault x[i] (hin _ (List.getElem_mem hl))) ?_)))
      by_cases hb : opFault x[i] = 0
      · exact Ev.pos hb (ih (i + 1) (by omega) (f2 (by simp [badOp, hb])))
      · have := f1 (by simp [badOp, hb])
        unfold packsR
        rw [this]
        exact Ev.neg hb (Ev.now _)
  exact key x.length 0 (by omega) rfl
theorem ev_specPackOps (x : List S37) (hx : x.length ≤ 1048576) (hin : ∀ y ∈ x, okIOp y) : Ev (fun k => spec_PackOps.f k x) (packsR x) := by
  unfold spec_PackOps.f
  have key : ∀ (d i : Nat) (s : List Int), i + d = x.length → (x.drop i).find? badOp = x.find? badOp → (s.length ≤ 8000 → s = allB (x.take i)) → (8000 < s.length → 8000 < (allB (x.take i)).length) → s.length ≤ 16777216 → Ev (fun k => spec_PackOps.l0 k x s (i : Int)) (packsR x) := by
    intro d
    induction d with
    | zero =>
      intro i s hi hf h1 h2 hs
      rw [List.drop_eq_nil_of_le (by omega)] at hf
      rw [List.take_of_length_le (by omega)] at h1 h2
      refine Ev.succ ?_
      simp only [spec_PackOps.l0]
      refine Ev.neg (by omega) ?_
      unfold packsR
      rw [← hf]
      by_cases hb : (s.length : Int) > 8000
      · have := h2 (by omega)
        have e : (if ((allB x).length : Int) > 8000 then ((2 : Int), ([] : List Int)) else (0, allB x)) = (2, []) := if_pos (by omega)
        simp only [List.find?_nil]
        rw [e]
        exact Ev.pos hb (Ev.now _)
      · have := h1 (by omega)
        subst this
        have e : (if ((allB x).length : Int) > 8000 then ((2 : Int), ([] : List Int)) else (0, allB x)) = (0, allB x) := if_neg hb
        simp only [List.find?_nil]
        rw [e]
        exact Ev.neg hb (Ev.now _)
    | succ d ih =>
      intro i s hi hf h1 h2 hs
      have hl : i < x.length := by omega
      obtain ⟨f1, f2⟩ := find_drop x i hl hf
      have hok := hin x[i] (List.getElem_mem hl)
      refine Ev.succ ?_
      simp only [spec_PackOps.l0, Int.toNat_natCast, List.drop_eq_getElem_cons hl, wsucc hl (show x.length ≤ 281474976710656 by omega)]
      refine Ev.pos (by omega) (Ev.pos (by omega) (Ev.bind (ev_l8Fault x[i] _ hok) ?_))
      by_cases hb : opFault x[i] = 0
      case neg =>
        have := f1 (by simp [badOp, hb])
        unfold packsR
        rw [this]
        exact Ev.neg hb (Ev.now _)
      have f3 := f2 (by simp [badOp, hb])
      refine Ev.pos hb ?_
      have hpl := packF_length x[i]
      have hsu := allB_succ x i hl
      by_cases hc : (s.length : Int) ≤ 8000
      · refine Ev.pos hc (Ev.bind (ev_l9Pack x[i] _ hok) ?_)
        obtain ⟨o1, o2, o3, o7⟩ := hok
        refine Ev.pos (by omega) (ih (i + 1) (s ++ packF x[i]) (by omega) f3 ?_ ?_ ?_)
        · intro _; rw [hsu, h1 (by omega)]
        · intro h; rw [hsu, ← h1 (by omega)]; exact h
        · rw [List.length_append]; omega
      · refine Ev.neg hc (ih (i + 1) s (by omega) f3 (fun h => absurd h (by omega)) ?_ hs)
        intro h
        rw [hsu, List.length_append]
        have := h2 h
        omega
  exact key x.length 0 [] (by omega) rfl (fun _ => by simp [allB]) (fun h => by simp at h) (by simp)
theorem readW_cuts (o : S37) (h : okB o) (c : Nat) (hc : c < (packF o).length) : readW ((packF o).take c) = none := by
  have hl := pack_len_le o h
  have h14 : 14 ≤ (packF o).length := by rw [packF_length]; omega
  have e := packF_head o h
  generalize hB : bodyB o ++ twoF (sumF (packW o)) = B at e
  generalize hn : (packF o).length = n at e hl h14 hc ⊢
  by_cases h2 : c < 2
  · unfold readW
    have hd : (twoR ((packF o).take c, false)).2.2 = true := by
      unfold twoR
      rw [if_pos (by right; rw [List.length_take]; omega)]
    simp only
    rw [if_pos (Or.inl hd)]
  · have e1 : (packF o).take c = twoF (n : Int) ++ B.take (c - 2) := by
      rw [e, List.take_append, twoF_length, List.take_of_length_le (by rw [twoF_length]; omega)]
    unfold readW
    rw [e1, twoR_two (by omega) (by omega)]
    simp only
    rw [if_pos]
    right
    rw [List.length_append, twoF_length, List.length_take]
    omega
theorem readJ_packs (l : List Int) (hl : l.length ≤ 1048576) (hb : Bytes l) : ∀ (f a : Nat), a ≤ l.length → allB (readJ f l a).1 = (l.drop a).take ((readJ f l a).2 - a) ∧ ∀ o ∈ (readJ f l a).1, opFault o = 0
  | 0, a, h => by simp [readJ, allB]
  | f + 1, a, h => by
    unfold readJ
    cases hw : readW (l.drop a) with
    | none => simp [allB]
    | some p =>
      obtain ⟨o, n⟩ := p
      have hs := readW_some (l := l.drop a) (by rw [List.length_drop]; omega) (bytes_drop hb a) hw
      have hs5 := hs.2.2.2.2.1
      rw [List.length_drop] at hs5
      have ih := readJ_packs l hl hb f (a + n.toNat) (by omega)
      have ok := readJ_ok l hl hb f (a + n.toNat) (by omega)
      refine ⟨?_, fun x hx => ?_⟩
      · simp only
        have e : allB (o :: (readJ f l (a + n.toNat)).1) = packF o ++ allB (readJ f l (a + n.toNat)).1 := by simp [allB]
        rw [e, ih.1, hs.2.2.1, ← List.drop_drop, ← List.take_add]
        congr 1
        omega
      · rcases List.mem_cons.1 hx with rfl | hx
        · exact hs.2.1
        · exact ih.2 x hx
theorem readJ_pre : ∀ (x : List S37) (_ : ∀ o ∈ x, okB o ∧ opFault o = 0) (pre : List Int) (c f : Nat), c ≤ (allB x).length → c < 14 * f → ∃ m u, m ≤ x.length ∧ u ≤ c ∧ (c = (allB x).length → m = x.length ∧ u = c) ∧ readJ f (pre ++ (allB x).take c) pre.length = (x.take m, pre.length + u)
  | [], _, pre, c, f, hc, hf => by
    obtain ⟨f', rfl⟩ : ∃ f', f = f' + 1 := ⟨f - 1, by omega⟩
    refine ⟨0, 0, by simp, by omega, fun h => ⟨rfl, ?_⟩, ?_⟩
    · simp [allB] at h; omega
    · unfold readJ
      have : (pre ++ (allB []).take c).drop pre.length = [] := by simp [allB]
      rw [this, readW_nil]
      simp
  | o :: x, hx, pre, c, f, hc, hf => by
    obtain ⟨f', rfl⟩ : ∃ f', f = f' + 1 := ⟨f - 1, by omega⟩
    have ho := hx o (by simp)
    have e : allB (o :: x) = packF o ++ allB x := by simp [allB]
    have h14 : 14 ≤ (packF o).length := by rw [packF_length]; omega
    rw [e] at hc ⊢
    by_cases hp : (packF o).length ≤ c
    · have e2 : (packF o ++ allB x).take c = packF o ++ (allB x).take (c - (packF o).length) := by
        rw [List.take_append, List.take_of_length_le hp]
      obtain ⟨m, u, h1, h2, h3, h4⟩ := readJ_pre x (fun y hy => hx y (List.mem_cons_of_mem _ hy)) (pre ++ packF o) (c - (packF o).length) f' (by rw [List.length_append] at hc; omega) (by omega)
      refine ⟨m + 1, (packF o).length + u, by simp; omega, by omega, fun h => ?_, ?_⟩
      · rw [List.length_append] at h
        have := h3 (by omega)
        exact ⟨by simp; omega, by omega⟩
      · unfold readJ
        rw [e2, List.drop_left' rfl, readW_pack o ho.1 ho.2]
        simp only [Int.toNat_natCast]
        rw [← List.append_assoc, ← List.length_append, h4]
        simp only [List.take_succ_cons, List.length_append, Prod.mk.injEq, true_and]
        omega
    · have e2 : (packF o ++ allB x).take c = (packF o).take c := by rw [List.take_append_of_le_length (by omega)]
      refine ⟨0, 0, by simp, by omega, fun h => ?_, ?_⟩
      · rw [List.length_append] at h; omega
      · unfold readJ
        rw [e2, List.drop_left' rfl, readW_cuts o ho.1 c (by omega)]
        simp
theorem find_none (x : List S37) (h : ∀ o ∈ x, opFault o = 0) : x.find? badOp = none := by
  rw [List.find?_eq_none]
  intro o ho
  simp [badOp, h o ho]
theorem packsR_ok (x : List S37) (h : ∀ o ∈ x, opFault o = 0) (hl : (allB x).length ≤ 8000) : packsR x = (0, allB x) := by
  unfold packsR
  rw [find_none x h]
  simp only
  rw [if_neg (by omega)]
theorem packsR_zero (x : List S37) (h : (packsR x).1 = 0) : (∀ o ∈ x, opFault o = 0) ∧ packsR x = (0, allB x) ∧ (allB x).length ≤ 8000 := by
  unfold packsR at h ⊢
  cases hf : x.find? badOp with
  | some o =>
    rw [hf] at h
    have hb := List.find?_some hf
    simp only [badOp, decide_eq_true_eq] at hb
    exact absurd h hb
  | none =>
    rw [hf] at h
    simp only at h ⊢
    split at h
    · cases h
    · rename_i h8
      rw [if_neg h8]
      refine ⟨fun o ho => ?_, rfl, by omega⟩
      have := List.find?_eq_none.1 hf o ho
      simpa [badOp] using this
theorem sameL_refl (x : List S37) : sameL sameOp x x = true := by
  unfold sameL
  simp only [decide_true, Bool.true_and, List.all_eq_true]
  intro q hq
  have : q.1 = q.2 := by
    obtain ⟨i, hi, rfl⟩ := List.getElem_of_mem hq
    simp
  rw [this]
  exact sameOp_refl _
theorem drawOps {b : List Int} (hb : Src b) : ∃ r, Ev (fun k => spec_DrawPackOps.f k b) r ∧ (r.length ≤ 10 ∧ ∀ o ∈ r, okD o) := by
  have L : ∀ (m : Nat) (acc : List S37) (p : Int), m ≤ 5 → acc.length + m ≤ 6 → (∀ o ∈ acc, okD o) → 0 ≤ p → p + 80 * m ≤ 20000 → ∃ r, Ev (fun k => spec_DrawPackOps.l0 k acc (m : Int) b p) r ∧ (r.length ≤ 10 ∧ ∀ o ∈ r, okD o) := by
    intro m
    induction m with
    | zero =>
      intro acc p hm ha hk h0 h1
      obtain ⟨c, hc⟩ := chanceS hb h0 (by omega) (n := 8) (by omega) (by omega)
      refine evex_succ ?_
      simp only [spec_DrawPackOps.l0]
      refine evex_neg (by omega) (evex_bindc hc (evex_ite (fun _ => evex_bind (bent8 hb (p := p + 1) (by omega) (by omega)) (fun q hq => evex_pos (by omega) (evex_const rfl ⟨by simp; omega, fun o ho => ?_⟩))) (fun _ => evex_const rfl ⟨by omega, hk⟩)))
      rcases List.mem_append.1 ho with ho | ho
      · exact hk o ho
      · simp only [List.mem_singleton] at ho
        subst ho
        exact ⟨hq.1, hq.2.1, hq.2.2.1, hq.2.2.2.1, hq.2.2.2.2.1⟩
    | succ m ih =>
      intro acc p hm ha hk h0 h1
      have e : wrap64 (((m + 1 : Nat) : Int) - 1) = (m : Int) := by rw [wid (by omega) (by omega)]; omega
      refine evex_succ ?_
      simp only [spec_DrawPackOps.l0, e]
      refine evex_pos (by omega) (evex_bind (draw8 hb h0 (by omega)) (fun q hq => evex_pos (by omega) ?_))
      refine ih _ _ (by omega) (by simp; omega) (fun o ho => ?_) (by have := hq.2.2.2.2.2.1; omega) (by have := hq.2.2.2.2.2.2; omega)
      rcases List.mem_append.1 ho with ho | ho
      · exact hk o ho
      · simp only [List.mem_singleton] at ho
        subst ho
        exact ⟨hq.1, hq.2.1, hq.2.2.1, hq.2.2.2.1, hq.2.2.2.2.1⟩
  obtain ⟨v, hv, v0, v1⟩ := nextS hb (p := 0) (by omega) (by omega) (n := 5) (by omega) (by omega)
  simp only [spec_DrawPackOps.f, spec_l1Source.f]
  refine evex_bindc rfl (evex_bindc hv ?_)
  obtain ⟨m, rfl⟩ : ∃ m : Nat, v = m := ⟨v.toNat, by omega⟩
  exact L m [] (0 + 1) (by omega) (by simp; omega) (fun _ h => absurd h (by simp)) (by omega) (by omega)
theorem drawJournal {b : List Int} (hb : Src b) : ∃ r, Ev (fun k => spec_DrawReadJournal.f k b) r ∧ (Bytes r ∧ r.length ≤ 8000) := by
  have L : ∀ (m : Nat) (acc : List Int) (p : Int), m ≤ 5 → acc.length + 1000 * m ≤ 6000 → Bytes acc → 0 ≤ p → p + 80 * m ≤ 20000 → ∃ r, Ev (fun k => spec_DrawReadJournal.l0 k acc (m : Int) b p) r ∧ (Bytes r ∧ r.length ≤ 8000) := by
    intro m
    induction m with
    | zero =>
      intro acc p hm ha hk h0 h1
      obtain ⟨v, hv, _⟩ := nextS hb h0 (by omega) (n := 5) (by omega) (by omega)
      obtain ⟨v2, hv2, c1, c2, _⟩ := nextA hb (p := p + 1) (by omega) (by omega) (n := (acc.length : Int)) (by omega)
      have e : wrap64 ((acc.length : Int) + 1) = (acc.length : Int) + 1 := by rw [wid (by omega) (by omega)]
      obtain ⟨v3, hv3, d1, d2, _⟩ := nextA hb (p := p + 1) (by omega) (by omega) (n := (acc.length : Int) + 1) (by omega)
      refine evex_succ ?_
      simp only [spec_DrawReadJournal.l0, e]
      have d3 := d2 (by omega)
      refine evex_neg (by omega) (evex_bindc hv (evex_ite (fun _ => evex_ite (fun h => evex_bindc hv2 (evex_pos c1 (evex_pos (c2 (by omega)) (evex_const rfl ⟨bytes_set hk _ _ (bits_byte _ _).1 (bits_byte _ _).2, by simp; omega⟩)))) (fun _ => evex_const rfl ⟨hk, by omega⟩)) (fun _ => evex_ite (fun _ => evex_bindc hv3 (evex_pos d1 (evex_pos (by omega) (evex_const rfl ⟨bytes_take hk _, by simp; omega⟩)))) (fun _ => evex_const rfl ⟨hk, by omega⟩))))
    | succ m ih =>
      intro acc p hm ha hk h0 h1
      have e : wrap64 (((m + 1 : Nat) : Int) - 1) = (m : Int) := by rw [wid (by omega) (by omega)]; omega
      refine evex_succ ?_
      simp only [spec_DrawReadJournal.l0, e]
      refine evex_pos (by omega) (evex_bind (draw8 hb h0 (by omega)) (fun q hq => ?_))
      have hD : okD (⟨q.1, q.2.1, q.2.2.1, q.2.2.2.1, q.2.2.2.2.1, q.2.2.2.2.2.1, q.2.2.2.2.2.2.1, q.2.2.2.2.2.2.2.1⟩ : S37) := ⟨hq.1, hq.2.1, hq.2.2.1, hq.2.2.2.1, hq.2.2.2.2.1⟩
      refine evex_bind ⟨_, ev_l9Pack _ [] hD.ok, rfl⟩ (fun y hy => ?_)
      subst hy
      have yl := hD.len
      have yb := packF_bytes _ hD.2.2.2.1
      generalize packF (⟨q.1, q.2.1, q.2.2.1, q.2.2.2.1, q.2.2.2.2.1, q.2.2.2.2.2.1, q.2.2.2.2.2.2.1, q.2.2.2.2.2.2.2.1⟩ : S37) = y at yl yb ⊢
      exact evex_pos (by omega) (ih _ _ (by omega) (by simp; omega) (bytes_app hk yb) (by have := hq.2.2.2.2.2.1; omega) (by have := hq.2.2.2.2.2.2; omega))
  obtain ⟨v, hv, v0, v1⟩ := nextS hb (p := 0) (by omega) (by omega) (n := 5) (by omega) (by omega)
  simp only [spec_DrawReadJournal.f, spec_l1Source.f]
  refine evex_bindc rfl (evex_bindc hv ?_)
  obtain ⟨m, rfl⟩ : ∃ m : Nat, v = m := ⟨v.toNat, by omega⟩
  exact L m [] (0 + 1) (by omega) (by simp; omega) bytes_nil (by omega) (by omega)
theorem allB_bytes (x : List S37) (h : ∀ o ∈ x, Bytes o.f7) : Bytes (allB x) := by
  intro z hz
  unfold allB at hz
  obtain ⟨o, ho, hz⟩ := List.mem_flatMap.1 hz
  exact packF_bytes o (h o ho) z hz
theorem lwAt_small {b : List Int} (hb : Src b) (n : Int) (n0 : 1 ≤ n) (n1 : n ≤ 100000) : ∃ v, laws_lwAt.f b 3 n = some v ∧ 0 ≤ v ∧ v < n := by
  by_cases h : 2 ≤ n
  · exact lwAt_ok hb 3 n (by omega) (by omega) h n1
  · exact ⟨0, by unfold laws_lwAt.f; rw [if_pos (by omega)], by omega, by omega⟩
theorem journals_j0 (l0 : List Int) (hS : Src l0) : Ev (fun k => laws_FnJournals.j0 k l0 false) true := by
  obtain ⟨x, hxE, hxl, hxD⟩ := drawOps hS
  have hok : ∀ y ∈ x, okIOp y := fun y hy => (hxD y hy).ok
  have hp := ev_implPackOps x (by omega) hok
  have hsp := ev_specPackOps x (by omega) hok
  refine Ev.succ ?_
  simp only [laws_FnJournals.j0]
  refine Ev.neg (by simp) (Ev.bind hxE (Ev.bind hp ?_))
  by_cases h0 : (packsR x).1 = 0
  · obtain ⟨hf, hP, hl8⟩ := packsR_zero x h0
    have hall : ∀ o ∈ x, okB o ∧ opFault o = 0 := fun o ho => ⟨okB_of (hxD o ho) (hf o ho), hf o ho⟩
    have hB := allB_bytes x (fun o ho => (hxD o ho).2.2.2.1)
    obtain ⟨v, hv, v0, v1⟩ := lwAt_small hS (((allB x).length : Int) + 1) (by omega) (by omega)
    obtain ⟨c, rfl⟩ : ∃ c : Nat, v = c := ⟨v.toNat, by omega⟩
    obtain ⟨m1, u1, a1, a2, a3, a4⟩ := readJ_pre x hall [] (allB x).length ((allB x).length + 1) (Nat.le_refl _) (by omega)
    obtain ⟨rfl, rfl⟩ := a3 rfl
    rw [List.take_of_length_le (Nat.le_refl _), List.nil_append, List.take_of_length_le (Nat.le_refl _)] at a4
    have tl : ((allB x).take c).length = c := by rw [List.length_take]; omega
    obtain ⟨m2, u2, b1, b2, _, b4⟩ := readJ_pre x hall [] c (((allB x).take c).length + 1) (by omega) (by omega)
    rw [List.nil_append] at b4
    have r1 := ev_implReadJournal (allB x) (by omega) hB
    have r2 := ev_implReadJournal ((allB x).take c) (by omega) (bytes_take hB c)
    have j1 : journalR (allB x) = (0, ((allB x).length : Int), x) := by
      unfold journalR
      rw [if_neg (by omega), show (0 : Nat) = ([] : List Int).length from List.length_nil.symm, a4, List.length_nil, Nat.zero_add]
    have j2 : journalR ((allB x).take c) = (0, (u2 : Int), x.take m2) := by
      unfold journalR
      rw [if_neg (by omega), show (0 : Nat) = ([] : List Int).length from List.length_nil.symm, b4, List.length_nil, Nat.zero_add]
    rw [j1] at r1
    rw [j2] at r2
    have s1 := ev_implSameOps x x hok (by omega)
    have s2 := ev_implSameOps (x.take m2) (x.take m2) (fun y hy => hok y (List.mem_of_mem_take hy)) (by rw [List.length_take]; omega)
    rw [sameL_refl] at s1 s2
    have w1 : wrap64 (((allB x).length : Int) + 1) = ((allB x).length : Int) + 1 := by rw [wid (by omega) (by omega)]
    have hv' : laws_lwAt.f l0 3 (wrap64 (((allB x).length : Int) + 1)) = some (c : Int) := by rw [w1]; exact hv
    have t2 : (x.take m2).length = m2 := by rw [List.length_take]; omega
    have s2' : Ev (fun k => impl_SameOps.f k (x.take m2) (x.take (((x.take m2).length : Nat) : Int).toNat)) true := by
      rw [Int.toNat_natCast, t2]
      exact s2
    have r2' : Ev (fun k => impl_ReadJournal.f k ((allB x).take ((c : Nat) : Int).toNat)) (0, (u2 : Int), x.take m2) := by
      rw [Int.toNat_natCast]
      exact r2
    have c1 : 0 ≤ (c : Int) := by omega
    have c2 : (c : Int) ≤ ((allB x).length : Int) := by omega
    have c3 : ((x.take m2).length : Int) ≤ (x.length : Int) := by omega
    have c4 : 0 ≤ ((x.take m2).length : Int) := by omega
    have c5 : decide ((u2 : Int) ≤ (c : Int)) = true := decide_eq_true (by omega)
    rw [hP]
    dsimp only
    refine Ev.pos rfl (Ev.bind r1 (Ev.bindc hv' (Ev.pos c1 (Ev.pos c2 (Ev.bind r2' (Ev.pos rfl (Ev.bind s1 (Ev.pos rfl (Ev.pos rfl (Ev.pos c3 (Ev.pos c4 (Ev.bind s2' (Ev.pos rfl ?_)))))))))))))
    exact Ev.const (by rw [c5])
  · have h1 : (packsR x).1 ≠ 0 := h0
    exact Ev.neg h1 (Ev.bind hsp (Ev.const (by simp)))
theorem FnJournals : ∀ (l0 : List Int), (l0.length * 1 ≤ 140737488351232 ∧ ∀ x1_ ∈ l0, (Lit.int .u8 x1_).wf = true) → ∃ k, laws_FnJournals.f k l0 = some true := by
  rintro l0 ⟨_, hw⟩
  apply Ev.get
  have hb : Bytes l0 := fun x hx => by have := hw x hx; simp only [Lit.wf, Bool.and_eq_true, decide_eq_true_eq] at this; exact this
  unfold laws_FnJournals.f
  by_cases hbig : (l0.length : Int) > 1048576
  · exact Ev.bindc (b := true) (by unfold laws_lwBig.f; rw [decide_eq_true hbig]) (Ev.pos rfl (Ev.now _))
  have hS : Src l0 := ⟨hb, by omega⟩
  obtain ⟨data, hE, hB, hL⟩ := drawJournal hS
  have hj := journals_j0 l0 hS
  have hi := ev_implReadJournal data (by omega) hB
  have hs := ev_specReadJournal data (by omega) hB
  have hR : journalR data = (0, ((readJ (data.length + 1) data 0).2 : Int), (readJ (data.length + 1) data 0).1) := by unfold journalR; rw [if_neg (by omega)]
  have hok := readJ_ok data (by omega) hB (data.length + 1) 0 (by omega)
  have hpk := readJ_packs data (by omega) hB (data.length + 1) 0 (by omega)
  rw [hR] at hi hs
  generalize readJ (data.length + 1) data 0 = J at hi hs hok hpk
  clear hR
  have e0 : allB J.1 = data.take J.2 := by simpa using hpk.1
  have hP : packsR J.1 = (0, allB J.1) := packsR_ok J.1 hpk.2 (by rw [e0, List.length_take]; omega)
  have hp := ev_implPackOps J.1 (by omega) hok.1
  rw [hP, e0] at hp
  refine Ev.bindc (b := false) (by unfold laws_lwBig.f; rw [decide_eq_false hbig]) (Ev.neg (by simp) (Ev.bind hE (Ev.bind hi (Ev.pos rfl (Ev.neg (by simp only; omega) (Ev.neg (by simp only; omega) (Ev.bind hs (Ev.pos rfl (Ev.bind hp (Ev.pos (by simp only; omega) (Ev.pos (by simp only; omega) (Ev.bindc (same_refl _) hj))))))))))))

end Go.Proofs.Ytehdbobpbcjmeaa.Pure

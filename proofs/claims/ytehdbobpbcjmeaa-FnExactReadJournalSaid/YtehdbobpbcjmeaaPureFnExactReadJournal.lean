/- For every bytes of at most a mebibyte, the program reads the journal just as the reference does, writes into none of them and keeps none; its answer owns its memory. -/
import Derived.Test.YtehdbobpbcjmeaaPFnExactReadJournalx11
import Derived.Test.YtehdbobpbcjmeaaVFnExactReadJournalU
import Derived.Lib.Bytes
namespace Go.Proofs.Ytehdbobpbcjmeaa.Pure
open Go.RowKit Go.Proofs.Ytehdbobpbcjmeaa.PFnExactReadJournal Go.Proofs.YtehdbobpbcjmeaaW.PrintWords Go.Proofs.YtehdbobpbcjmeaaW.PrintLast Go.Proofs.Ytehdbobpbcjmeaa.U
set_option linter.unusedSimpArgs false
set_option linter.unusedVariables false

theorem ev_toByteS (x : List Int) (hx : x.length ≤ 1048576) : Ev (fun k => laws_toByteS.f k x) x := by
  unfold laws_toByteS.f
  have h := ev_copy (fun k y i => laws_toByteS.l0 k x y i) x (fun a => a) (fun y => y) ?_ ?_ (List.replicate x.length 0) (by simp)
  · simp only [List.map_id'] at h
    refine Ev.pos (by omega) (Ev.pos (by omega) ?_)
    simp only [Int.toNat_natCast]
    exact h
  · refine Ev.succ ?_
    simp only [laws_toByteS.l0, Int.lt_irrefl, if_false]
    exact Ev.now _
  · intro i hi y hy r h
    refine Ev.succ ?_
    simp only [laws_toByteS.l0]
    refine Ev.pos (by omega) (Ev.pos (by omega) (Ev.pos (by omega) ?_))
    simp only [Int.toNat_natCast, rd_get x i hi, wsucc hi (show x.length ≤ 281474976710656 by omega)]
    exact h
def okIOp (x : S37) : Prop := x.f1.size ≤ 1048576 ∧ x.f2.size ≤ 1048576 ∧ x.f3.length ≤ 1048576 ∧ x.f7.length ≤ 1048576
theorem rd_Op_get (x : List S37) (i : Nat) (h : i < x.length) : rd_T37 x (i : Int) = x[i] := by simp [rd_T37, List.getD_eq_getElem?_getD, h]
theorem ev_eqInt64S (x : List Int) (hx : x.length ≤ 1048576) : Ev (fun k => laws_eqInt64S.f k x x) true := by
  unfold laws_eqInt64S.f
  refine Ev.pos rfl ?_
  refine ev_iter (fun k (_ : Unit) i => laws_eqInt64S.l0 k x x i) x.length (fun _ => ()) true ?_ ?_
  · refine Ev.succ ?_
    simp only [laws_eqInt64S.l0, Int.lt_irrefl, if_false]
    exact Ev.now _
  · intro i hi r h
    refine Ev.succ ?_
    simp only [laws_eqInt64S.l0]
    refine Ev.pos (by omega) (Ev.pos (by omega) (Ev.pos (by omega) (Ev.pos trivial ?_)))
    simp only [wsucc hi (show x.length ≤ 281474976710656 by omega)]
    exact h
theorem ev_eqByteS (x : List Int) (hx : x.length ≤ 1048576) : Ev (fun k => laws_eqByteS.f k x x) true := by
  unfold laws_eqByteS.f
  refine Ev.pos rfl ?_
  refine ev_iter (fun k (_ : Unit) i => laws_eqByteS.l0 k x x i) x.length (fun _ => ()) true ?_ ?_
  · refine Ev.succ ?_
    simp only [laws_eqByteS.l0, Int.lt_irrefl, if_false]
    exact Ev.now _
  · intro i hi r h
    refine Ev.succ ?_
    simp only [laws_eqByteS.l0]
    refine Ev.pos (by omega) (Ev.pos (by omega) (Ev.pos (by omega) (Ev.pos trivial ?_)))
    simp only [wsucc hi (show x.length ≤ 281474976710656 by omega)]
    exact h
theorem ev_eqOp (y : S37) (hy : okIOp y) : Ev (fun k => laws_eqOp.f k y.f0 y.f1 y.f2 y.f3 y.f4 y.f5 y.f6 y.f7 y.f0 y.f1 y.f2 y.f3 y.f4 y.f5 y.f6 y.f7) true := by
  unfold laws_eqOp.f
  refine Ev.pos rfl (Ev.pos rfl (Ev.pos rfl (Ev.bind (ev_eqInt64S _ hy.2.2.1) (Ev.pos rfl (Ev.pos rfl (Ev.pos rfl (Ev.pos rfl ?_)))))))
  exact Ev.bind (ev_eqByteS _ hy.2.2.2) (Ev.pos rfl (Ev.now _))
theorem ev_eqOpS (x : List S37) (hx : x.length ≤ 1048576) (hin : ∀ y ∈ x, okIOp y) : Ev (fun k => laws_eqOpS.f k x x) true := by
  unfold laws_eqOpS.f
  refine Ev.pos rfl ?_
  refine ev_iter (fun k (_ : Unit) i => laws_eqOpS.l0 k x x i) x.length (fun _ => ()) true ?_ ?_
  · refine Ev.succ ?_
    simp only [laws_eqOpS.l0, Int.lt_irrefl, if_false]
    exact Ev.now _
  · intro i hi r h
    refine Ev.succ ?_
    simp only [laws_eqOpS.l0, rd_Op_get x i hi]
    refine Ev.pos (by omega) (Ev.pos (by omega) (Ev.pos (by omega) (Ev.bind (ev_eqOp _ (hin _ (List.getElem_mem hi))) (Ev.pos rfl ?_))))
    simp only [wsucc hi (show x.length ≤ 281474976710656 by omega)]
    exact h
-- needs:
theorem ev_eqByteB (x : List Int) (hx : x.length ≤ 16777216) : Ev (fun k => laws_eqByteS.f k x x) true := by
  unfold laws_eqByteS.f
  refine Ev.pos rfl ?_
  refine ev_iter (fun k (_ : Unit) i => laws_eqByteS.l0 k x x i) x.length (fun _ => ()) true ?_ ?_
  · refine Ev.succ ?_
    simp only [laws_eqByteS.l0, Int.lt_irrefl, if_false]
    exact Ev.now _
  · intro i hi r h
    refine Ev.succ ?_
    simp only [laws_eqByteS.l0]
    refine Ev.pos (by omega) (Ev.pos (by omega) (Ev.pos (by omega) (Ev.pos trivial ?_)))
    simp only [wsucc hi (show x.length ≤ 281474976710656 by omega)]
    exact h
def marksB (m : Int) (n : Nat) : List Int := (List.range n).map fun (i : Nat) => (m + (i : Int)) % 256
theorem ev_markByteB (x : List Int) (m : Int) (hx : x.length ≤ 16777216) (h0 : 0 ≤ m) (h1 : m ≤ 1152921504606846976) :
    Ev (fun k => laws_markByteS.f k x m) (m + x.length, marksB m x.length) := by
  unfold marksB
  rw [← over_all]
  unfold laws_markByteS.f
  have h := ev_iter (fun k (s : List Int × Int) i => laws_markByteS.l0 k s.1 s.2 i) x.length (fun i => (over x (fun i => (m + i) % 256) i, m + i)) (m + x.length, over x (fun i => (m + i) % 256) x.length) ?_ ?_
  · simpa [over_zero] using h
  · refine Ev.succ ?_
    simp only [laws_markByteS.l0, over_length x _ _ (Nat.le_refl _), Int.lt_irrefl, if_false]
    exact Ev.now _
  · intro i hi r h
    refine Ev.succ ?_
    simp only [laws_markByteS.l0, over_length x _ i (by omega)]
    refine Ev.pos (by omega) (Ev.pos (by omega) ?_)
    simp only [wsucc hi (show x.length ≤ 281474976710656 by omega), Int.toNat_natCast, over_set x (fun (i : Nat) => (m + (i : Int)) % 256) i hi]
    rw [show wrap64 (m + (i : Int) + 1) = m + ((i + 1 : Nat) : Int) by rw [wid (by omega) (by omega)]; omega]
    exact h
theorem ev_heldByteB (n : Nat) (m : Int) (hx : n ≤ 16777216) (h0 : 0 ≤ m) (h1 : m ≤ 1152921504606846976) :
    Ev (fun k => laws_heldByteS.f k (marksB m n) m) (m + n) := by
  unfold laws_heldByteS.f marksB
  generalize hy : (List.range n).map (fun (i : Nat) => (m + (i : Int)) % 256) = y
  have hl : y.length = n := by subst hy; simp
  have h := ev_iter (fun k (s : Int) i => laws_heldByteS.l0 k y s i) n (fun i => m + i) (m + n) ?_ ?_
  · simpa using h
  · refine Ev.succ ?_
    simp only [laws_heldByteS.l0, hl, Int.lt_irrefl, if_false]
    exact Ev.now _
  · intro i hi r h
    refine Ev.succ ?_
    have hg : rd y (i : Int) = (m + i) % 256 := by rw [rd_get y i (by omega)]; subst hy; simp
    simp only [laws_heldByteS.l0, hl, hg]
    refine Ev.pos (by omega) (Ev.pos (by omega) (Ev.pos trivial ?_))
    rw [show wrap64 (m + (i : Int) + 1) = m + ((i + 1 : Nat) : Int) by rw [wid (by omega) (by omega)]; omega]
    simp only [wsucc hi (show n ≤ 281474976710656 by omega)]
    exact h
theorem ev_markInt64S (x : List Int) (m : Int) (hx : x.length ≤ 1048576) (h0 : 0 ≤ m) (h1 : m ≤ 1152921504606846976) :
    Ev (fun k => laws_markInt64S.f k x m) (m + x.length, (List.range x.length).map fun (i : Nat) => m + (i : Int)) := by
  rw [← over_all]
  unfold laws_markInt64S.f
  have h := ev_iter (fun k (s : List Int × Int) i => laws_markInt64S.l0 k s.1 s.2 i) x.length (fun i => (over x (fun i => m + i) i, m + i)) (m + x.length, over x (fun i => m + i) x.length) ?_ ?_
  · simpa [over_zero] using h
  · refine Ev.succ ?_
    simp only [laws_markInt64S.l0, over_length x _ _ (Nat.le_refl _), Int.lt_irrefl, if_false]
    exact Ev.now _
  · intro i hi r h
    refine Ev.succ ?_
    simp only [laws_markInt64S.l0, over_length x _ i (by omega)]
    refine Ev.pos (by omega) (Ev.pos (by omega) ?_)
    simp only [wsucc hi (show x.length ≤ 281474976710656 by omega), Int.toNat_natCast, over_set x (fun (i : Nat) => m + (i : Int)) i hi]
    rw [show wrap64 (m + (i : Int) + 1) = m + ((i + 1 : Nat) : Int) by rw [wid (by omega) (by omega)]; omega]
    exact h
/-- The texts that the laws mark strings with. -/
def mtGo (n : Nat) (s : ByteArray) : ByteArray := if h : n = 0 then (⟨#[109]⟩ : ByteArray) ++ s else mtGo (n / 10) (strOfNums [(wrap64 (48 + (Int.tmod (n : Int) 10))) % 256] ++ s)
termination_by n
decreasing_by omega
def mtx (a : Int) : ByteArray := if a ≤ 0 then (⟨#[109, 48]⟩ : ByteArray) else mtGo a.toNat (⟨#[]⟩ : ByteArray)
theorem ev_mtGo : ∀ (n : Nat) (s : ByteArray), s.size + n ≤ 9223372036854775806 → Ev (fun k => laws_markText.l0 k (n : Int) s) (mtGo n s) := by
  intro n
  induction n using Nat.strongRecOn with
  | _ n ih =>
    intro s hs
    refine Ev.succ ?_
    simp only [laws_markText.l0, Option.bind_some]
    by_cases hn : n = 0
    · subst hn
      rw [mtGo, dif_pos rfl]
      exact Ev.neg (by omega) (Ev.pos (by omega) (Ev.now _))
    · rw [mtGo, dif_neg hn]
      have hz : (strOfNums [(wrap64 (48 + (Int.tmod (n : Int) 10))) % 256]).size = 1 := strOfNums_size _
      have hd : wrap64 (Int.tdiv (n : Int) 10) = ((n / 10 : Nat) : Int) := by
        rw [Int.tdiv_eq_ediv_of_nonneg (by omega), wid (by omega) (by omega)]; omega
      refine Ev.pos (by omega) (Ev.pos (by rw [hz]; omega) ?_)
      rw [hd]
      exact ih (n / 10) (by omega) _ (by rw [ByteArray.size_append, hz]; omega)
theorem ev_markText (a : Int) (h : a ≤ 1152921504606846976) : Ev (fun k => laws_markText.f k a) (mtx a) := by
  unfold laws_markText.f mtx
  by_cases h0 : a ≤ 0
  · rw [if_pos h0]; exact Ev.pos h0 (Ev.now _)
  · rw [if_neg h0]
    refine Ev.neg h0 ?_
    have := ev_mtGo a.toNat (⟨#[]⟩ : ByteArray) (by rw [show (⟨#[]⟩ : ByteArray).size = 0 from rfl]; omega)
    rw [Int.toNat_of_nonneg (by omega)] at this
    exact this
/-- An op marked from a number on. -/
def markO (m : Int) (n3 n7 : Nat) : S37 := ⟨m, mtx (m + 1), mtx (m + 2), (List.range n3).map (fun (i : Nat) => m + 3 + (i : Int)), m + 3 + n3, m + 4 + n3, m + 5 + n3, marksB (m + 6 + n3) n7⟩
theorem ev_markOp1 (o : S37) (m : Int) (ho : okIOp o) (h0 : 0 ≤ m) (h1 : m ≤ 1000000000000000000) : Ev (fun k => laws_markOpS.e k o m) (m + 6 + o.f3.length + o.f7.length, markO m o.f3.length o.f7.length) := by
  obtain ⟨_, _, h3, h7⟩ := ho
  unfold laws_markOpS.e markO
  have e1 : wrap64 (m + 1) = m + 1 := wid (by omega) (by omega)
  have e2 : wrap64 (m + 1 + 1) = m + 2 := by rw [wid (by omega) (by omega)]; omega
  have e3 : wrap64 (m + 2 + 1) = m + 3 := by rw [wid (by omega) (by omega)]; omega
  have e4 : wrap64 (m + 3 + (o.f3.length : Int) + 1) = m + 4 + o.f3.length := by rw [wid (by omega) (by omega)]; omega
  have e5 : wrap64 (m + 4 + (o.f3.length : Int) + 1) = m + 5 + o.f3.length := by rw [wid (by omega) (by omega)]; omega
  have e6 : wrap64 (m + 5 + (o.f3.length : Int) + 1) = m + 6 + o.f3.length := by rw [wid (by omega) (by omega)]; omega
  rw [e1, e2, e3]
  refine Ev.bind (ev_markText (m + 1) (by omega)) (Ev.bind (ev_markText (m + 2) (by omega)) (Ev.bind (ev_markInt64S o.f3 (m + 3) h3 (by omega) (by omega)) ?_))
  simp only [e4, e5, e6]
  exact Ev.bind (ev_markByteB o.f7 (m + 6 + o.f3.length) (by omega) (by omega) (by omega)) (Ev.now _)
/-- Ops marked one behind the other: the number behind them, and they. -/
def marksO : Int → List S37 → Int × List S37
  | m, [] => (m, [])
  | m, o :: l => ((marksO (m + 6 + o.f3.length + o.f7.length) l).1, markO m o.f3.length o.f7.length :: (marksO (m + 6 + o.f3.length + o.f7.length) l).2)
theorem marksO_ge : ∀ (l : List S37) (m : Int), m ≤ (marksO m l).1 ∧ (marksO m l).2.length = l.length
  | [], m => ⟨Int.le_refl _, rfl⟩
  | o :: l, m => by
    have := marksO_ge l (m + 6 + o.f3.length + o.f7.length)
    simp only [marksO, List.length_cons]
    omega
theorem ev_markOpS (x : List S37) (hx : x.length ≤ 1048576) (hin : ∀ y ∈ x, okIOp y) (m : Int) (h0 : 0 ≤ m) (h1 : m ≤ 1048576) : Ev (fun k => laws_markOpS.f k x m) (marksO m x) := by
  unfold laws_markOpS.f
  have key : ∀ (d i : Nat) (a : List S37) (m : Int), i + d = x.length → a.length = i → 0 ≤ m → m ≤ 1048576 + 4194304 * (i : Int) → Ev (fun k => laws_markOpS.l0 k (a ++ x.drop i) m (i : Int)) ((marksO m (x.drop i)).1, a ++ (marksO m (x.drop i)).2) := by
    intro d
    induction d with
    | zero =>
      intro i a m hi ha hm hm'
      rw [List.drop_eq_nil_of_le (by omega)]
      refine Ev.succ ?_
      simp only [laws_markOpS.l0, marksO, List.append_nil]
      exact Ev.neg (by omega) (Ev.now _)
    | succ d ih =>
      intro i a m hi ha hm hm'
      have hl : i < x.length := by omega
      have hok := hin x[i] (List.getElem_mem hl)
      have hok' := hok
      obtain ⟨_, _, h3, h7⟩ := hok'
      rw [List.drop_eq_getElem_cons hl]
      refine Ev.succ ?_
      have hg : rd_T37 (a ++ x[i] :: x.drop (i + 1)) (i : Int) = x[i] := by
        rw [rd_Op_get _ i (by simp; omega), List.getElem_append_right (by omega)]
        simp [ha]
      have hs : (a ++ x[i] :: x.drop (i + 1)).set i (markO m x[i].f3.length x[i].f7.length) = (a ++ [markO m x[i].f3.length x[i].f7.length]) ++ x.drop (i + 1) := by
        rw [List.set_append_right _ _ (by omega), ha, Nat.sub_self, List.set_cons_zero, List.append_assoc]
        rfl
      simp only [laws_markOpS.l0, hg, wsucc hl (show x.length ≤ 281474976710656 by omega), Int.toNat_natCast]
      refine Ev.pos (by simp; omega) (Ev.pos (by omega) (Ev.bind (ev_markOp1 x[i] m hok hm (by omega)) ?_))
      simp only [hs]
      have := ih (i + 1) (a ++ [markO m x[i].f3.length x[i].f7.length]) (m + 6 + x[i].f3.length + x[i].f7.length) (by omega) (by simp; omega) (by omega) (by omega)
      simp only [marksO]
      simp only [List.append_assoc, List.singleton_append] at this ⊢
      exact this
  have := key x.length 0 [] m (by omega) rfl h0 (by omega)
  simpa using this
def twoF (n : Int) : List Int := [(wrap64 (Int.tdiv n 256)) % 256, (Int.tmod n 256) % 256]
def uidsB (l : List Int) : List Int := l.flatMap twoF
theorem uidsB_length (l : List Int) : (uidsB l).length = 2 * l.length := by
  induction l with
  | nil => rfl
  | cons a l ih =>
    unfold uidsB at ih ⊢
    rw [List.flatMap_cons, List.length_append, ih, List.length_cons]
    simp only [twoF, List.length_cons, List.length_nil]
    omega
theorem uidsB_succ (l : List Int) (i : Nat) (h : i < l.length) : uidsB (l.take (i + 1)) = uidsB (l.take i) ++ twoF l[i] := by
  unfold uidsB
  rw [List.take_succ_eq_append_getElem h, List.flatMap_append, List.flatMap_cons, List.flatMap_nil, List.append_nil]
def sumStep (s b : Int) : Int := Int.tmod (wrap64 ((wrap64 (s * 31)) + (wrap64 b))) 65521
def sumF (x : List Int) : Int := x.foldl sumStep 1
theorem sum_take (x : List Int) (i : Nat) (h : i < x.length) : (x.take (i + 1)).foldl sumStep 1 = sumStep ((x.take i).foldl sumStep 1) x[i] := by
  rw [List.take_succ_eq_append_getElem h, List.foldl_append]
  rfl
theorem ev_implSum (x : List Int) (hx : x.length ≤ 16777216) : Ev (fun k => impl_sumOf.f k x) (sumF x) := by
  unfold impl_sumOf.f
  have h := ev_iter (fun k (s : Int) i => impl_sumOf.l0 k s x (x.length : Int) i) x.length (fun i => (x.take i).foldl sumStep 1) (sumF x) ?_ ?_
  · simpa using h
  · refine Ev.succ ?_
    simp only [impl_sumOf.l0, Int.lt_irrefl, if_false, List.take_length]
    exact Ev.now _
  · intro i hi r h
    refine Ev.succ ?_
    simp only [impl_sumOf.l0, rd_get x i hi]
    refine Ev.pos (by omega) (Ev.pos (by omega) (Ev.pos (by omega) ?_))
    simp only [wsucc hi (show x.length ≤ 281474976710656 by omega)]
    rw [sum_take x i hi] at h
    exact h
theorem ev_specSum (x : List Int) (hx : x.length ≤ 16777216) : Ev (fun k => spec_l9Sum.f k x) (sumF x) := by
  unfold spec_l9Sum.f
  have h := ev_iter (fun k (s : Int) i => spec_l9Sum.l0 k x s i) x.length (fun i => (x.take i).foldl sumStep 1) (sumF x) ?_ ?_
  · simpa using h
  · refine Ev.succ ?_
    simp only [spec_l9Sum.l0, Int.lt_irrefl, if_false, List.take_length]
    exact Ev.now _
  · intro i hi r h
    refine Ev.succ ?_
    simp only [spec_l9Sum.l0, rd_get x i hi]
    refine Ev.pos (by omega) (Ev.pos (by omega) ?_)
    simp only [wsucc hi (show x.length ≤ 281474976710656 by omega)]
    rw [sum_take x i hi] at h
    exact h
def headB (o : S37) : List Int := [o.f0 % 256, (o.f1.size : Int) % 256] ++ bytesOf o.f1 ++ [(o.f2.size : Int) % 256] ++ bytesOf o.f2 ++ [(o.f3.length : Int) % 256]
def bodyB (o : S37) : List Int := headB o ++ uidsB o.f3 ++ [o.f4 % 256, o.f5 % 256] ++ twoF o.f6 ++ twoF (o.f7.length : Int) ++ o.f7
def packW (o : S37) : List Int := twoF (wrap64 (((bodyB o).length : Int) + 4)) ++ bodyB o
def packF (o : S37) : List Int := packW o ++ twoF (sumF (packW o))
theorem twoF_length (n : Int) : (twoF n).length = 2 := rfl
theorem headB_length (o : S37) : (headB o).length = 4 + o.f1.size + o.f2.size := by
  simp only [headB, List.length_append, bytesOf_length, List.length_cons, List.length_nil]
  omega
theorem bodyB_length (o : S37) : (bodyB o).length = 10 + o.f1.size + o.f2.size + 2 * o.f3.length + o.f7.length := by
  simp only [bodyB, List.length_append, headB_length, uidsB_length, twoF_length, List.length_cons, List.length_nil]
  omega
theorem packW_length (o : S37) : (packW o).length = 12 + o.f1.size + o.f2.size + 2 * o.f3.length + o.f7.length := by
  simp only [packW, List.length_append, bodyB_length, twoF_length]
  omega
theorem packF_length (o : S37) : (packF o).length = 14 + o.f1.size + o.f2.size + 2 * o.f3.length + o.f7.length := by
  simp only [packF, List.length_append, packW_length, twoF_length]
  omega
theorem ev_packed (o : S37) (ho : okIOp o) : Ev (fun k => impl_packed.f k o.f0 o.f1 o.f2 o.f3 o.f4 o.f5 o.f6 o.f7) (packF o) := by
  obtain ⟨h1, h2, h3, h7⟩ := ho
  unfold impl_packed.f
  simp only [Option.bind_some, List.length_append, bytesOf_length, List.length_cons, List.length_nil]
  refine Ev.pos (by omega) (Ev.pos (by omega) (Ev.pos (by omega) (Ev.pos (by omega) ?_)))
  have h := ev_iter (fun k (s : List Int) i => impl_packed.l0 k s o.f3 (o.f3.length : Int) i o.f0 o.f1 o.f2 o.f3 o.f4 o.f5 o.f6 o.f7) o.f3.length (fun i => headB o ++ uidsB (o.f3.take i)) (packF o) ?_ ?_
  · simpa [headB, uidsB] using h
  · refine Ev.succ ?_
    have hb : ((((headB o ++ uidsB o.f3) ++ [o.f4 % 256, o.f5 % 256]) ++ twoF o.f6) ++ twoF (o.f7.length : Int)) ++ o.f7 = bodyB o := rfl
    have hw : twoF (wrap64 (((bodyB o).length : Int) + 4)) ++ bodyB o = packW o := rfl
    have hf : packW o ++ twoF (sumF (packW o)) = packF o := rfl
    have l1 : (headB o ++ uidsB o.f3).length = 4 + o.f1.size + o.f2.size + 2 * o.f3.length := by simp only [List.length_append, headB_length, uidsB_length]
    have l2 := bodyB_length o
    have l3 := packW_length o
    simp only [impl_packed.l0, impl_two.f, impl_length_byte.f, Int.lt_irrefl, if_false, List.take_length, Option.bind_some]
    change Ev (fun k => if (headB o ++ uidsB o.f3).length + 2 < 140737488355328 then if ((headB o ++ uidsB o.f3) ++ [o.f4 % 256, o.f5 % 256]).length + 2 < 140737488355328 then if (((headB o ++ uidsB o.f3) ++ [o.f4 % 256, o.f5 % 256]) ++ twoF o.f6).length + 2 < 140737488355328 then if ((((headB o ++ uidsB o.f3) ++ [o.f4 % 256, o.f5 % 256]) ++ twoF o.f6) ++ twoF (o.f7.length : Int)).length + o.f7.length < 140737488355328 then if 2 + (bodyB o).length < 140737488355328 then (impl_sumOf.f k (packW o)).bind fun t => if (packW o).length + 2 < 140737488355328 then some (packW o ++ twoF t) else none else none else none else none else none else none) (packF o)
    simp only [List.length_append, headB_length, uidsB_length, twoF_length, bodyB_length, packW_length, List.length_cons, List.length_nil]
    exact Ev.pos (by omega) (Ev.pos (by omega) (Ev.pos (by omega) (Ev.pos (by omega) (Ev.pos (by omega) (Ev.bind (ev_implSum _ (by omega)) (Ev.pos (by omega) (Ev.now _)))))))
  · intro i hi r h
    refine Ev.succ ?_
    simp only [impl_packed.l0, impl_two.f, rd_get o.f3 i hi, Option.bind_some, wsucc hi (show o.f3.length ≤ 281474976710656 by omega)]
    rw [uidsB_succ o.f3 i hi, ← List.append_assoc] at h
    refine Ev.pos (by omega) (Ev.pos (by omega) (Ev.pos (by omega) (Ev.pos ?_ h)))
    simp only [List.length_append, headB_length, uidsB_length, List.length_take, List.length_cons, List.length_nil]
    omega
theorem cpy_two (n : Int) (x : List Int) : cpy ([0, 0] ++ x) (twoF n) = twoF n ++ x := by
  unfold cpy
  rw [List.take_of_length_le (by simp [twoF])]
  rfl
theorem ev_l9Pack (o : S37) (l : List S37) (ho : okIOp o) : Ev (fun k => spec_l9Pack.f k (o :: l)) (packF o) := by
  obtain ⟨h1, h2, h3, h7⟩ := ho
  have hr : rd_T37 (o :: l) 0 = o := rfl
  have hp : 0 < ((o :: l).length : Int) := by simp
  unfold spec_l9Pack.f
  simp only [hr, if_pos hp, Option.bind_some, List.length_append, bytesOf_length, List.length_cons, List.length_nil]
  refine Ev.pos (by omega) (Ev.pos (by omega) (Ev.pos (by omega) (Ev.pos (by omega) (Ev.pos (by omega) (Ev.pos (by omega) (Ev.pos (by omega) ?_))))))
  have h := ev_iter (fun k (s : List Int) i => spec_l9Pack.l0 k (o :: l) s i) o.f3.length (fun i => ([0, 0] ++ headB o) ++ uidsB (o.f3.take i)) (packF o) ?_ ?_
  · simpa [headB, uidsB] using h
  · refine Ev.succ ?_
    have l2 := bodyB_length o
    have l3 := packW_length o
    have hb : (((((([0, 0] ++ headB o) ++ uidsB o.f3) ++ [o.f4 % 256, o.f5 % 256]) ++ twoF o.f6) ++ twoF (o.f7.length : Int)) ++ o.f7) = [0, 0] ++ bodyB o := by simp only [bodyB, List.append_assoc]
    simp only [spec_l9Pack.l0, spec_l9Two.f, hr, if_pos hp, Int.lt_irrefl, if_false, List.take_length, Option.bind_some]
    change Ev (fun k => if (([0, 0] ++ headB o) ++ uidsB o.f3).length + 2 < 140737488355328 then if ((([0, 0] ++ headB o) ++ uidsB o.f3) ++ [o.f4 % 256, o.f5 % 256]).length + 2 < 140737488355328 then if (((([0, 0] ++ headB o) ++ uidsB o.f3) ++ [o.f4 % 256, o.f5 % 256]) ++ twoF o.f6).length + 2 < 140737488355328 then if ((((([0, 0] ++ headB o) ++ uidsB o.f3) ++ [o.f4 % 256, o.f5 % 256]) ++ twoF o.f6) ++ twoF (o.f7.length : Int)).length + o.f7.length < 140737488355328 then (spec_l9Sum.f k (cpy (((((([0, 0] ++ headB o) ++ uidsB o.f3) ++ [o.f4 % 256, o.f5 % 256]) ++ twoF o.f6) ++ twoF (o.f7.length : Int)) ++ o.f7) (twoF (wrap64 (((((((([0, 0] ++ headB o) ++ uidsB o.f3) ++ [o.f4 % 256, o.f5 % 256]) ++ twoF o.f6) ++ twoF (o.f7.length : Int)) ++ o.f7).length : Int) + 2))))).bind fun t => if (cpy (((((([0, 0] ++ headB o) ++ uidsB o.f3) ++ [o.f4 % 256, o.f5 % 256]) ++ twoF o.f6) ++ twoF (o.f7.length : Int)) ++ o.f7) (twoF (wrap64 (((((((([0, 0] ++ headB o) ++ uidsB o.f3) ++ [o.f4 % 256, o.f5 % 256]) ++ twoF o.f6) ++ twoF (o.f7.length : Int)) ++ o.f7).length : Int) + 2)))).length + 2 < 140737488355328 then some (cpy (((((([0, 0] ++ headB o) ++ uidsB o.f3) ++ [o.f4 % 256, o.f5 % 256]) ++ twoF o.f6) ++ twoF (o.f7.length : Int)) ++ o.f7) (twoF (wrap64 (((((((([0, 0] ++ headB o) ++ uidsB o.f3) ++ [o.f4 % 256, o.f5 % 256]) ++ twoF o.f6) ++ twoF (o.f7.length : Int)) ++ o.f7).length : Int) + 2))) ++ twoF t) else none else none else none else none else none) (packF o)
    have hn : wrap64 ((([0, 0] ++ bodyB o).length : Int) + 2) = wrap64 (((bodyB o).length : Int) + 4) := by
      have e1 : (([0, 0] ++ bodyB o).length : Int) = ((bodyB o).length : Int) + 2 := by rw [List.length_append]; simp only [List.length_cons, List.length_nil]; omega
      rw [e1, Int.add_assoc]
      rfl
    rw [hb, cpy_two, hn]
    change Ev (fun k => if (([0, 0] ++ headB o) ++ uidsB o.f3).length + 2 < 140737488355328 then if ((([0, 0] ++ headB o) ++ uidsB o.f3) ++ [o.f4 % 256, o.f5 % 256]).length + 2 < 140737488355328 then if (((([0, 0] ++ headB o) ++ uidsB o.f3) ++ [o.f4 % 256, o.f5 % 256]) ++ twoF o.f6).length + 2 < 140737488355328 then if ((((([0, 0] ++ headB o) ++ uidsB o.f3) ++ [o.f4 % 256, o.f5 % 256]) ++ twoF o.f6) ++ twoF (o.f7.length : Int)).length + o.f7.length < 140737488355328 then (spec_l9Sum.f k (packW o)).bind fun t => if (packW o).length + 2 < 140737488355328 then some (packW o ++ twoF t) else none else none else none else none else none) (packF o)
    simp only [List.length_append, headB_length, uidsB_length, twoF_length, packW_length, List.length_cons, List.length_nil]
    exact Ev.pos (by omega) (Ev.pos (by omega) (Ev.pos (by omega) (Ev.pos (by omega) (Ev.bind (ev_specSum _ (by omega)) (Ev.pos (by omega) (Ev.now _))))))
  · intro i hi r h
    refine Ev.succ ?_
    simp only [spec_l9Pack.l0, spec_l9Two.f, hr, if_pos hp, rd_get o.f3 i hi, Option.bind_some, wsucc hi (show o.f3.length ≤ 281474976710656 by omega)]
    rw [uidsB_succ o.f3 i hi, ← List.append_assoc] at h
    refine Ev.pos (by omega) (Ev.pos (by omega) (Ev.pos ?_ h))
    simp only [List.length_append, headB_length, uidsB_length, List.length_take, List.length_cons, List.length_nil]
    omega
def isWord (s : ByteArray) (most : Int) : Bool := (List.range s.size).all (fun i => decide (97 ≤ bt s (i : Int) ∧ bt s (i : Int) ≤ 122)) && decide (1 ≤ (s.size : Int) ∧ (s.size : Int) ≤ most)
def copiesOp (o : S37) : Bool := decide (o.f0 = 5) || decide (o.f0 = 6)
def onlyOp (o : S37) : Bool := (copiesOp o || decide (o.f2.toList = [])) && (((copiesOp o || decide (o.f0 = 4)) || decide (o.f3.length = 0)) && ((decide (o.f0 = 4) || decide (o.f4 = 0)) && ((decide (o.f0 = 4) || (decide (o.f0 = 3) || decide (o.f5 = 0))) && (decide (o.f0 = 3) || (decide (o.f6 = 0) && decide (o.f7.length = 0))))))
def formOp (o : S37) : Bool := decide (1 ≤ o.f0 ∧ o.f0 ≤ 7) && onlyOp o
def nameOp (o : S37) : Bool := isWord o.f1 8 && (!copiesOp o || isWord o.f2 8)
def uidStep (x : List Int) (i : Nat) : Option Bool := if 1 ≤ rd x (i : Int) ∧ rd x (i : Int) ≤ 999 then (if 0 < i ∧ rd x (i : Int) ≤ rd x ((i - 1 : Nat) : Int) then some false else none) else some false
def uidsOk (x : List Int) : Bool := ((List.range x.length).findSome? (uidStep x)).getD true
def rangeOp (o : S37) : Bool := uidsOk o.f3 && ((!decide (o.f0 = 4) || decide (1 ≤ o.f4 ∧ o.f4 ≤ 3)) && (decide (0 ≤ o.f5 ∧ o.f5 ≤ 15) && decide (0 ≤ o.f6 ∧ o.f6 ≤ 9999)))
def lateFault (o : S37) (b : Bool) : Int := if b = true then 3 else if 400 < o.f7.length then 2 else 0
def midFault (o : S37) (b : Bool) : Int := if b = true then 5 else if 6 < o.f3.length then 2 else lateFault o (!rangeOp o)
def opFault (o : S37) : Int := if formOp o = true then midFault o (!nameOp o) else 1
theorem kinds (n : Int) : n = 5 ∨ n = 6 ∨ n = 4 ∨ n = 3 ∨ (n ≠ 5 ∧ n ≠ 6 ∧ n ≠ 4 ∧ n ≠ 3) := by omega
theorem ev_isSmallWord (s : ByteArray) (most : Int) (hs : s.size ≤ 281474976710656) : Ev (fun k => impl_isSmallWord.f k s most) (isWord s most) := by
  unfold impl_isSmallWord.f isWord
  have h := ev_findI (fun k i => impl_isSmallWord.l0 k s most (s.size : Int) i) s.size (fun i => if decide (97 ≤ bt s (i : Int) ∧ bt s (i : Int) ≤ 122) = true then none else some false) (decide (1 ≤ (s.size : Int) ∧ (s.size : Int) ≤ most)) ?_ ?_ ?_
  · rw [find_guard] at h
    by_cases hall : (List.range s.size).all (fun i => decide (97 ≤ bt s (i : Int) ∧ bt s (i : Int) ≤ 122)) = true
    · rw [if_pos hall] at h; rw [hall, Bool.true_and]; exact h
    · rw [if_neg hall] at h; rw [Bool.not_eq_true] at hall; rw [hall, Bool.false_and]; exact h
  · refine Ev.succ ?_
    simp only [impl_isSmallWord.l0, Int.lt_irrefl, if_false]
    by_cases h1 : 1 ≤ (s.size : Int)
    · refine Ev.pos h1 ?_; simp only [h1, true_and]; exact Ev.now _
    · refine Ev.neg h1 ?_; simp only [h1, false_and, decide_false]; exact Ev.now _
  · intro i hi r hr
    by_cases hc : 97 ≤ bt s (i : Int) ∧ bt s (i : Int) ≤ 122
    · rw [if_pos (decide_eq_true hc)] at hr; cases hr
    rw [if_neg (by simpa using hc)] at hr; cases hr
    refine Ev.succ ?_
    simp only [impl_isSmallWord.l0]
    refine Ev.pos (by omega) (Ev.pos (by omega) (Ev.pos (by omega) ?_))
    by_cases h1 : bt s (i : Int) < 97
    · exact Ev.pos h1 (Ev.now _)
    · exact Ev.neg h1 (Ev.pos (by omega) (Ev.now _))
  · intro i hi hr r h
    by_cases hc : 97 ≤ bt s (i : Int) ∧ bt s (i : Int) ≤ 122
    case neg => rw [if_neg (by simpa using hc)] at hr; cases hr
    refine Ev.succ ?_
    simp only [impl_isSmallWord.l0]
    refine Ev.pos (by omega) (Ev.pos (by omega) (Ev.pos (by omega) (Ev.neg (by omega) (Ev.neg (by omega) ?_))))
    simp only [wsucc hi (show s.size ≤ 281474976710656 by omega)]
    exact h
theorem within_eq (a b c : Int) : impl_within.f a b c = some (decide (b ≤ a ∧ a ≤ c)) := by
  unfold impl_within.f
  by_cases h : b ≤ a <;> simp [h]
theorem hasTo_eq (o : S37) : impl_Op_hasTo.f o.f0 o.f1 o.f2 o.f3 o.f4 o.f5 o.f6 o.f7 = some (copiesOp o) := by
  unfold impl_Op_hasTo.f copiesOp
  by_cases h : o.f0 = 5 <;> simp [h]
  by_cases h : o.f0 = 6 <;> simp [h]
theorem hasUids_eq (o : S37) : impl_Op_hasUids.f o.f0 o.f1 o.f2 o.f3 o.f4 o.f5 o.f6 o.f7 = some (copiesOp o || decide (o.f0 = 4)) := by
  unfold impl_Op_hasUids.f
  rw [hasTo_eq]
  cases copiesOp o <;> simp
  by_cases h : o.f0 = 4 <;> simp [h]
theorem isOnly_eq (o : S37) : impl_Op_isOnly.f o.f0 o.f1 o.f2 o.f3 o.f4 o.f5 o.f6 o.f7 = some (onlyOp o) := by
  unfold impl_Op_isOnly.f onlyOp
  rw [hasTo_eq, hasUids_eq]
  rcases kinds o.f0 with h | h | h | h | ⟨h5, h6, h4, h3⟩ <;> by_cases e2 : o.f2.toList = [] <;> by_cases e3 : o.f3.length = 0 <;> by_cases e4 : o.f4 = 0 <;> by_cases e5 : o.f5 = 0 <;> by_cases e6 : o.f6 = 0 <;> by_cases e7 : o.f7.length = 0 <;> simp_all [copiesOp]
theorem ev_isName (s : ByteArray) (hs : s.size ≤ 1048576) : Ev (fun k => impl_isName.f k s) (isWord s 8) := by
  unfold impl_isName.f
  exact Ev.bind (ev_isSmallWord s 8 (by omega)) (Ev.now _)
theorem ev_areUids (x : List Int) (hx : x.length ≤ 1048576) : Ev (fun k => impl_areUids.f k x) (uidsOk x) := by
  unfold impl_areUids.f uidsOk
  refine ev_findI (fun k i => impl_areUids.l0 k x x (x.length : Int) i) x.length (uidStep x) true ?_ ?_ ?_
  · refine Ev.succ ?_
    simp only [impl_areUids.l0, Int.lt_irrefl, if_false]
    exact Ev.now _
  · intro i hi r hr
    refine Ev.succ ?_
    simp only [impl_areUids.l0, impl_isUid.f, within_eq, Option.bind_some]
    refine Ev.pos (by omega) (Ev.pos (by omega) (Ev.pos (by omega) ?_))
    unfold uidStep at hr
    by_cases h1 : 1 ≤ rd x (i : Int) ∧ rd x (i : Int) ≤ 999
    case neg => rw [if_neg h1] at hr; cases hr; exact Ev.neg (by simpa using h1) (Ev.now _)
    rw [if_pos h1] at hr
    refine Ev.pos (decide_eq_true h1) ?_
    by_cases h2 : 0 < i ∧ rd x (i : Int) ≤ rd x ((i - 1 : Nat) : Int)
    case neg => rw [if_neg h2] at hr; cases hr
    rw [if_pos h2] at hr; cases hr
    simp only [wpred h2.1 (show i ≤ 281474976710656 by omega)]
    exact Ev.pos (by omega) (Ev.pos (by omega) (Ev.pos (by omega) (Ev.pos h2.2 (Ev.now _))))
  · intro i hi hr r h
    refine Ev.succ ?_
    simp only [impl_areUids.l0, impl_isUid.f, within_eq, Option.bind_some, wsucc hi (show x.length ≤ 281474976710656 by omega)]
    refine Ev.pos (by omega) (Ev.pos (by omega) (Ev.pos (by omega) ?_))
    unfold uidStep at hr
    by_cases h1 : 1 ≤ rd x (i : Int) ∧ rd x (i : Int) ≤ 999
    case neg => rw [if_neg h1] at hr; cases hr
    rw [if_pos h1] at hr
    refine Ev.pos (decide_eq_true h1) ?_
    by_cases h2 : 0 < i ∧ rd x (i : Int) ≤ rd x ((i - 1 : Nat) : Int)
    · rw [if_pos h2] at hr; cases hr
    by_cases h3 : 0 < i
    · simp only [wpred h3 (show i ≤ 281474976710656 by omega)]
      exact Ev.pos (by omega) (Ev.pos (by omega) (Ev.pos (by omega) (Ev.neg (fun q => h2 ⟨h3, q⟩) h)))
    · exact Ev.neg (by omega) h
theorem ev_implOpFault (o : S37) (ho : okIOp o) : Ev (fun k => impl_OpFault.f k o.f0 o.f1 o.f2 o.f3 o.f4 o.f5 o.f6 o.f7) (opFault o) := by
  have j2 : ∀ b, Ev (fun k => impl_OpFault.j2 k b o.f0 o.f1 o.f2 o.f3 o.f4 o.f5 o.f6 o.f7) (lateFault o b) := by
    intro b
    refine Ev.succ ?_
    simp only [impl_OpFault.j2, lateFault]
    exact Ev.ite (fun _ => Ev.now _) (fun _ => by
      by_cases h : 400 < o.f7.length
      · rw [if_pos h]; exact Ev.pos (by omega) (Ev.now _)
      · rw [if_neg h]; exact Ev.neg (by omega) (Ev.now _))
  have j1 : ∀ b, Ev (fun k => impl_OpFault.j1 k b o.f0 o.f1 o.f2 o.f3 o.f4 o.f5 o.f6 o.f7) (midFault o b) := by
    intro b
    refine Ev.succ ?_
    simp only [impl_OpFault.j1, midFault]
    refine Ev.ite (fun _ => Ev.now _) (fun _ => ?_)
    by_cases h6 : 6 < o.f3.length
    · rw [if_pos h6]; exact Ev.pos (by omega) (Ev.now _)
    rw [if_neg h6]
    refine Ev.neg (by omega) (Ev.bind (ev_areUids o.f3 ho.2.2.1) ?_)
    simp only [impl_areFlags.f, impl_isDate.f, within_eq, Option.bind_some]
    by_cases hu : uidsOk o.f3 = true
    case neg =>
      have : rangeOp o = false := by simp [rangeOp, hu]
      rw [this]; exact Ev.neg hu (j2 true)
    refine Ev.pos hu ?_
    by_cases hf : 0 ≤ o.f5 ∧ o.f5 ≤ 15
    case neg =>
      have e : rangeOp o = false := by simp only [rangeOp, decide_eq_false hf]; simp
      rw [e]
      by_cases h4 : o.f0 = 4
      · refine Ev.pos h4 ?_
        by_cases hm : 1 ≤ o.f4 ∧ o.f4 ≤ 3
        · exact Ev.pos (decide_eq_true hm) (Ev.neg (by simpa using hf) (j2 true))
        · exact Ev.neg (by simpa using hm) (j2 true)
      · exact Ev.neg h4 (Ev.neg (by simpa using hf) (j2 true))
    by_cases h4 : o.f0 = 4
    · refine Ev.pos h4 ?_
      by_cases hm : 1 ≤ o.f4 ∧ o.f4 ≤ 3
      · refine Ev.pos (decide_eq_true hm) (Ev.pos (decide_eq_true hf) ?_)
        have e : rangeOp o = decide (0 ≤ o.f6 ∧ o.f6 ≤ 9999) := by simp only [rangeOp, decide_eq_true hf, decide_eq_true hm, hu]; simp
        rw [e]; exact j2 _
      · have e : rangeOp o = false := by simp only [rangeOp, decide_eq_false hm, decide_eq_true h4]; simp
        rw [e]; exact Ev.neg (by simpa using hm) (j2 true)
    · refine Ev.neg h4 (Ev.pos (decide_eq_true hf) ?_)
      have e : rangeOp o = decide (0 ≤ o.f6 ∧ o.f6 ≤ 9999) := by simp only [rangeOp, decide_eq_true hf, decide_eq_false h4, hu]; simp
      rw [e]; exact j2 _
  have j0 : ∀ b, Ev (fun k => impl_OpFault.j0 k b o.f0 o.f1 o.f2 o.f3 o.f4 o.f5 o.f6 o.f7) (if b = true then 1 else midFault o (!nameOp o)) := by
    intro b
    refine Ev.succ ?_
    simp only [impl_OpFault.j0, hasTo_eq, Option.bind_some]
    refine Ev.ite (fun _ => Ev.now _) (fun _ => Ev.bind (ev_isName o.f1 ho.1) ?_)
    by_cases h1 : isWord o.f1 8 = true
    case neg => rw [show nameOp o = false by simp [nameOp, h1]]; exact Ev.neg h1 (j1 true)
    refine Ev.pos h1 ?_
    by_cases hc : copiesOp o = true
    · refine Ev.pos hc (Ev.bind (ev_isName o.f2 ho.2.1) ?_)
      rw [show nameOp o = isWord o.f2 8 by simp [nameOp, h1, hc]]
      exact j1 _
    · refine Ev.neg hc ?_
      rw [show nameOp o = true by simp [nameOp, h1, hc]]
      exact j1 false
  unfold impl_OpFault.f opFault
  simp only [within_eq, Option.bind_some, isOnly_eq]
  by_cases h1 : 1 ≤ o.f0 ∧ o.f0 ≤ 7
  case neg =>
    rw [show formOp o = false by simp only [formOp, decide_eq_false h1]; simp]
    exact Ev.neg (by simpa using h1) (j0 true)
  refine Ev.pos (decide_eq_true h1) ?_
  have h := j0 (!onlyOp o)
  rw [show formOp o = onlyOp o by simp only [formOp, decide_eq_true h1]; simp]
  cases ho' : onlyOp o <;> simp only [ho'] at h <;> exact h
theorem l1In_eq (a b c : Int) : spec_l1In.f a b c = some (decide (b ≤ a ∧ a ≤ c)) := by
  unfold spec_l1In.f
  by_cases h : b ≤ a <;> simp [h]
theorem ev_l7Name (s : ByteArray) (hs : s.size ≤ 281474976710656) : Ev (fun k => spec_l7Name.f k s) (isWord s 8) := by
  unfold spec_l7Name.f isWord
  have h := ev_findI (fun k i => spec_l7Name.l0 k s i) s.size (fun i => if decide (97 ≤ bt s (i : Int) ∧ bt s (i : Int) ≤ 122) = true then none else some false) (decide (1 ≤ (s.size : Int) ∧ (s.size : Int) ≤ 8)) ?_ ?_ ?_
  · rw [find_guard] at h
    by_cases hall : (List.range s.size).all (fun i => decide (97 ≤ bt s (i : Int) ∧ bt s (i : Int) ≤ 122)) = true
    · rw [if_pos hall] at h; rw [hall, Bool.true_and]; exact h
    · rw [if_neg hall] at h; rw [Bool.not_eq_true] at hall; rw [hall, Bool.false_and]; exact h
  · refine Ev.succ ?_
    simp only [spec_l7Name.l0, Int.lt_irrefl, if_false, l1In_eq, Option.bind_some]
    exact Ev.now _
  · intro i hi r hr
    by_cases hc : 97 ≤ bt s (i : Int) ∧ bt s (i : Int) ≤ 122
    · rw [if_pos (decide_eq_true hc)] at hr; cases hr
    rw [if_neg (by simpa using hc)] at hr; cases hr
    refine Ev.succ ?_
    simp only [spec_l7Name.l0]
    refine Ev.pos (by omega) (Ev.pos (by omega) ?_)
    by_cases h1 : bt s (i : Int) < 97
    · exact Ev.pos h1 (Ev.now _)
    · exact Ev.neg h1 (Ev.pos (by omega) (Ev.now _))
  · intro i hi hr r h
    by_cases hc : 97 ≤ bt s (i : Int) ∧ bt s (i : Int) ≤ 122
    case neg => rw [if_neg (by simpa using hc)] at hr; cases hr
    refine Ev.succ ?_
    simp only [spec_l7Name.l0]
    refine Ev.pos (by omega) (Ev.pos (by omega) (Ev.neg (by omega) (Ev.neg (by omega) ?_)))
    simp only [wsucc hi (show s.size ≤ 281474976710656 by omega)]
    exact h
theorem l8Copies_eq (o : S37) : spec_l8Copies.f o.f0 = some (copiesOp o) := by
  unfold spec_l8Copies.f copiesOp
  by_cases h : o.f0 = 5 <;> simp [h]
  by_cases h : o.f0 = 6 <;> simp [h]
theorem ev_l8Form (o : S37) (l : List S37) : Ev (fun k => spec_l8Form.f k (o :: l)) (formOp o) := by
  have e : rd_T37 (o :: l) 0 = o := rfl
  have hp : (0 : Int) < ((o :: l).length : Int) := by simp only [List.length_cons]; omega
  have yes : ∀ k, spec_l8Form.j0 (k + 1) (o :: l) true = some false := fun k => by simp only [spec_l8Form.j0, if_true]
  have one : ∀ k, spec_l8Form.j1 (k + 1) (o :: l) true = some false := fun k => by simp only [spec_l8Form.j1, if_true]
  refine Ev.at 5 (fun k => ?_)
  unfold spec_l8Form.f
  rw [if_pos hp]
  simp only [e, l1In_eq, l8Copies_eq, Option.bind_some]
  by_cases h1 : 1 ≤ o.f0 ∧ o.f0 ≤ 7
  case neg => rw [if_neg (by simpa using h1), yes]; simp [formOp, decide_eq_false h1]
  rw [if_pos (decide_eq_true h1)]
  have ef : formOp o = onlyOp o := by simp only [formOp, decide_eq_true h1]; simp
  rw [ef]
  unfold onlyOp
  simp only [spec_l8Form.j0, spec_l8Form.j1, if_pos hp, e, l8Copies_eq, Option.bind_some]
  rcases kinds o.f0 with h | h | h | h | ⟨h5, h6, h4, h3⟩ <;> by_cases e2 : o.f2.toList = [] <;> by_cases e3 : o.f3.length = 0 <;> by_cases e4 : o.f4 = 0 <;> by_cases e5 : o.f5 = 0 <;> by_cases e6 : o.f6 = 0 <;> by_cases e7 : o.f7.length = 0 <;> simp_all [copiesOp] <;> omega
theorem ev_l8Uids (x : List Int) (hx : x.length ≤ 1048576) : Ev (fun k => spec_l8Uids.f k x) (uidsOk x) := by
  unfold spec_l8Uids.f uidsOk
  refine ev_findI (fun k i => spec_l8Uids.l0 k x i) x.length (uidStep x) true ?_ ?_ ?_
  · refine Ev.succ ?_
    simp only [spec_l8Uids.l0, Int.lt_irrefl, if_false]
    exact Ev.now _
  · intro i hi r hr
    refine Ev.succ ?_
    simp only [spec_l8Uids.l0, l1In_eq, Option.bind_some]
    refine Ev.pos (by omega) (Ev.pos (by omega) ?_)
    unfold uidStep at hr
    by_cases h1 : 1 ≤ rd x (i : Int) ∧ rd x (i : Int) ≤ 999
    case neg => rw [if_neg h1] at hr; cases hr; exact Ev.neg (by simpa using h1) (Ev.now _)
    rw [if_pos h1] at hr
    refine Ev.pos (decide_eq_true h1) ?_
    by_cases h2 : 0 < i ∧ rd x (i : Int) ≤ rd x ((i - 1 : Nat) : Int)
    case neg => rw [if_neg h2] at hr; cases hr
    rw [if_pos h2] at hr; cases hr
    simp only [wpred h2.1 (show i ≤ 281474976710656 by omega)]
    exact Ev.pos (by omega) (Ev.pos (by omega) (Ev.pos (by omega) (Ev.pos h2.2 (Ev.now _))))
  · intro i hi hr r h
    refine Ev.succ ?_
    simp only [spec_l8Uids.l0, l1In_eq, Option.bind_some, wsucc hi (show x.length ≤ 281474976710656 by omega)]
    refine Ev.pos (by omega) (Ev.pos (by omega) ?_)
    unfold uidStep at hr
    by_cases h1 : 1 ≤ rd x (i : Int) ∧ rd x (i : Int) ≤ 999
    case neg => rw [if_neg h1] at hr; cases hr
    rw [if_pos h1] at hr
    refine Ev.pos (decide_eq_true h1) ?_
    by_cases h2 : 0 < i ∧ rd x (i : Int) ≤ rd x ((i - 1 : Nat) : Int)
    · rw [if_pos h2] at hr; cases hr
    by_cases h3 : 0 < i
    · simp only [wpred h3 (show i ≤ 281474976710656 by omega)]
      exact Ev.pos (by omega) (Ev.pos (by omega) (Ev.pos (by omega) (Ev.neg (fun q => h2 ⟨h3, q⟩) h)))
    · exact Ev.neg (by omega) h
theorem ev_l8Fault (o : S37) (l : List S37) (ho : okIOp o) : Ev (fun k => spec_l8Fault.f k (o :: l)) (opFault o) := by
  have e : rd_T37 (o :: l) 0 = o := rfl
  have hp : (0 : Int) < ((o :: l).length : Int) := by simp only [List.length_cons]; omega
  have j1 : ∀ b, Ev (fun k => spec_l8Fault.j1 k (o :: l) b) (lateFault o b) := by
    intro b
    refine Ev.succ ?_
    simp only [spec_l8Fault.j1, lateFault, e]
    exact Ev.ite (fun _ => Ev.now _) (fun _ => Ev.pos hp (by
      by_cases h : 400 < o.f7.length
      · rw [if_pos h]; exact Ev.pos (by omega) (Ev.now _)
      · rw [if_neg h]; exact Ev.neg (by omega) (Ev.now _)))
  have j0 : ∀ b, Ev (fun k => spec_l8Fault.j0 k (o :: l) b) (midFault o b) := by
    intro b
    refine Ev.succ ?_
    simp only [spec_l8Fault.j0, midFault, e]
    refine Ev.ite (fun _ => Ev.now _) (fun _ => Ev.pos hp ?_)
    by_cases h6 : 6 < o.f3.length
    · rw [if_pos h6]; exact Ev.pos (by omega) (Ev.now _)
    rw [if_neg h6]
    refine Ev.neg (by omega) (Ev.bind (ev_l8Uids o.f3 ho.2.2.1) ?_)
    simp only [l1In_eq, Option.bind_some]
    by_cases hu : uidsOk o.f3 = true
    case neg =>
      have : rangeOp o = false := by simp [rangeOp, hu]
      rw [this]; exact Ev.neg hu (j1 true)
    refine Ev.pos hu ?_
    by_cases hf : 0 ≤ o.f5 ∧ o.f5 ≤ 15
    case neg =>
      have e : rangeOp o = false := by simp only [rangeOp, decide_eq_false hf]; simp
      rw [e]
      by_cases h4 : o.f0 = 4
      · refine Ev.pos h4 ?_
        by_cases hm : 1 ≤ o.f4 ∧ o.f4 ≤ 3
        · exact Ev.pos (decide_eq_true hm) (Ev.neg (by simpa using hf) (j1 true))
        · exact Ev.neg (by simpa using hm) (j1 true)
      · exact Ev.neg h4 (Ev.neg (by simpa using hf) (j1 true))
    by_cases h4 : o.f0 = 4
    · refine Ev.pos h4 ?_
      by_cases hm : 1 ≤ o.f4 ∧ o.f4 ≤ 3
      · refine Ev.pos (decide_eq_true hm) (Ev.pos (decide_eq_true hf) ?_)
        have e : rangeOp o = decide (0 ≤ o.f6 ∧ o.f6 ≤ 9999) := by simp only [rangeOp, decide_eq_true hf, decide_eq_true hm, hu]; simp
        rw [e]; exact j1 _
      · have e : rangeOp o = false := by simp only [rangeOp, decide_eq_false hm, decide_eq_true h4]; simp
        rw [e]; exact Ev.neg (by simpa using hm) (j1 true)
    · refine Ev.neg h4 (Ev.pos (decide_eq_true hf) ?_)
      have e : rangeOp o = decide (0 ≤ o.f6 ∧ o.f6 ≤ 9999) := by simp only [rangeOp, decide_eq_true hf, decide_eq_false h4, hu]; simp
      rw [e]; exact j1 _
  unfold spec_l8Fault.f opFault
  refine Ev.bind (ev_l8Form o l) (Ev.ite (fun _ => Ev.pos hp ?_) (fun _ => Ev.now _))
  simp only [e, l8Copies_eq, Option.bind_some]
  refine Ev.bind (ev_l7Name o.f1 (by have := ho.1; omega)) ?_
  by_cases h1 : isWord o.f1 8 = true
  case neg => rw [show nameOp o = false by simp [nameOp, h1]]; exact Ev.neg h1 (j0 true)
  refine Ev.pos h1 ?_
  by_cases hc : copiesOp o = true
  · refine Ev.pos hc (Ev.bind (ev_l7Name o.f2 (by have := ho.2.1; omega)) ?_)
    rw [show nameOp o = isWord o.f2 8 by simp [nameOp, h1, hc]]
    exact j0 _
  · refine Ev.neg hc ?_
    rw [show nameOp o = true by simp [nameOp, h1, hc]]
    exact j0 false
def sameL {α : Type} (p : α → α → Bool) (x y : List α) : Bool := decide (x.length = y.length) && (x.zip y).all (fun q => p q.1 q.2)
theorem ev_sameL {α : Type} (l : Nat → Int → Option Bool) (x y : List α) (p : α → α → Bool) (hxy : x.length = y.length) (stop : Ev (fun k => l k (x.length : Int)) true)
    (no : ∀ (i : Nat) (hi : i < x.length) (hj : i < y.length), p x[i] y[i] = false → Ev (fun k => l k (i : Int)) false)
    (on : ∀ (i : Nat) (hi : i < x.length) (hj : i < y.length), p x[i] y[i] = true → ∀ r, Ev (fun k => l k ((i + 1 : Nat) : Int)) r → Ev (fun k => l k (i : Int)) r) : Ev (fun k => l k 0) (sameL p x y) := by
  have hlen : (x.zip y).length = x.length := by rw [List.length_zip]; omega
  have h := ev_find l (x.zip y) (fun q => if p q.1 q.2 = true then none else some false) true (by rw [hlen]; exact stop) ?_ ?_
  · rw [find_guard] at h
    unfold sameL
    rw [decide_eq_true hxy, Bool.true_and]
    cases ha : (x.zip y).all (fun q => p q.1 q.2) <;> simp only [ha] at h <;> exact h
  · intro i hi r hr
    rw [hlen] at hi
    simp only [List.getElem_zip] at hr
    cases hp : p x[i] (y[i]'(by omega))
    · simp only [hp] at hr; cases hr; exact no i hi (by omega) hp
    · simp only [hp] at hr; cases hr
  · intro i hi hr r h
    rw [hlen] at hi
    simp only [List.getElem_zip] at hr
    cases hp : p x[i] (y[i]'(by omega))
    · simp only [hp] at hr; cases hr
    · exact on i hi (by omega) hp r h
theorem sameL_ne {α : Type} (p : α → α → Bool) (x y : List α) (h : x.length ≠ y.length) : sameL p x y = false := by unfold sameL; rw [decide_eq_false h]; rfl
theorem sameL_eq (x y : List Int) : sameL (fun a b => decide (a = b)) x y = decide (x = y) := by
  induction x generalizing y with
  | nil => cases y <;> simp [sameL]
  | cons a x ih =>
    cases y with
    | nil => simp [sameL]
    | cons b y =>
      have := ih y
      simp only [sameL] at this
      rw [Bool.eq_iff_iff] at this ⊢
      simp only [sameL, List.length_cons, List.zip_cons_cons, List.all_cons, Bool.and_eq_true, decide_eq_true_eq, List.cons.injEq, Nat.add_right_cancel_iff] at this ⊢
      constructor
      · rintro ⟨h1, h2, h3⟩; exact ⟨h2, this.1 ⟨h1, h3⟩⟩
      · rintro ⟨h1, h2⟩; exact ⟨(this.2 h2).1, h1, (this.2 h2).2⟩
def Bytes (x : List Int) : Prop := ∀ b ∈ x, 0 ≤ b ∧ b ≤ 255
theorem str_inj (x y : List Int) (hx : Bytes x) (hy : Bytes y) : (strOfNums x).toList = (strOfNums y).toList ↔ x = y := by
  constructor
  · rw [Go.Lib.strOfNums_toList, Go.Lib.strOfNums_toList]
    intro h
    have h : x.map (fun n => UInt8.ofNat n.toNat) = y.map (fun n => UInt8.ofNat n.toNat) := h
    induction x generalizing y with
    | nil => cases y with
      | nil => rfl
      | cons b y => simp at h
    | cons a x ih =>
      cases y with
      | nil => simp at h
      | cons b y =>
        simp only [List.map_cons, List.cons.injEq] at h
        have h1 := congrArg UInt8.toNat h.1
        have ha := hx a (List.mem_cons_self ..)
        have hb := hy b (List.mem_cons_self ..)
        simp only [UInt8.toNat_ofNat'] at h1
        rw [ih y (fun z hz => hx z (List.mem_cons_of_mem _ hz)) (fun z hz => hy z (List.mem_cons_of_mem _ hz)) h.2 h.2]
        have : a = b := by omega
        rw [this]
  · intro h; rw [h]
abbrev RSt := List Int × Bool
def oneF (s : RSt) : Int × RSt := if s.2 = true ∨ s.1.length < 1 then (0, (s.1, true)) else (rd s.1 0, (s.1.drop 1, false))
def twoR (s : RSt) : Int × RSt := if s.2 = true ∨ s.1.length < 2 then (0, (s.1, true)) else (rd s.1 0 * 256 + rd s.1 1, (s.1.drop 2, false))
def takeF (s : RSt) (n : Int) : List Int × RSt := if s.2 = true ∨ (s.1.length : Int) < n then (List.replicate n.toNat 0, (s.1, true)) else (s.1.take n.toNat, (s.1.drop n.toNat, false))
def twosF : Nat → RSt → List Int × RSt
  | 0, s => ([], s)
  | n + 1, s => ((twoR s).1 :: (twosF n (twoR s).2).1, (twosF n (twoR s).2).2)
theorem bytes_drop {l : List Int} (h : Bytes l) (n : Nat) : Bytes (l.drop n) := fun x hx => h x (List.mem_of_mem_drop hx)
theorem bytes_take {l : List Int} (h : Bytes l) (n : Nat) : Bytes (l.take n) := fun x hx => h x (List.mem_of_mem_take hx)
theorem bytes_rd {l : List Int} (h : Bytes l) (i : Nat) : 0 ≤ rd l (i : Int) ∧ rd l (i : Int) ≤ 255 := by
  by_cases hi : i < l.length
  · rw [rd_get l i hi]; have := h _ (List.getElem_mem hi); omega
  · have : rd l (i : Int) = 0 := by simp [rd, List.getD_eq_getElem?_getD, List.getElem?_eq_none (Nat.not_lt.1 hi)]
    omega
theorem oneF_bytes {s : RSt} (h : Bytes s.1) : Bytes (oneF s).2.1 ∧ 0 ≤ (oneF s).1 ∧ (oneF s).1 ≤ 255 := by
  unfold oneF
  have := bytes_rd h 0
  split
  · exact ⟨h, by omega, by omega⟩
  · exact ⟨bytes_drop h 1, this⟩
theorem twoR_bytes {s : RSt} (h : Bytes s.1) : Bytes (twoR s).2.1 ∧ 0 ≤ (twoR s).1 ∧ (twoR s).1 ≤ 65535 := by
  unfold twoR
  have h0 := bytes_rd h 0
  have h1 := bytes_rd h 1
  split
  · exact ⟨h, by omega, by omega⟩
  · refine ⟨bytes_drop h 2, ?_, ?_⟩ <;> simp only [Int.natCast_zero, Int.natCast_one] at h0 h1 <;> simp only <;> omega
theorem takeF_bytes {s : RSt} (h : Bytes s.1) (n : Int) : Bytes (takeF s n).2.1 ∧ Bytes (takeF s n).1 ∧ ((takeF s n).1.length : Int) = mx 0 n := by
  unfold takeF
  split
  · refine ⟨h, fun x hx => ?_, ?_⟩
    · rw [List.eq_of_mem_replicate hx]; omega
    · simp only [List.length_replicate]; unfold mx; split <;> omega
  · rename_i hc
    refine ⟨bytes_drop h _, bytes_take h _, ?_⟩
    have : ¬ (s.1.length : Int) < n := fun h_ => hc (.inr h_)
    simp only [List.length_take]; unfold mx; split <;> omega
theorem twosF_bytes {s : RSt} (h : Bytes s.1) (n : Nat) : Bytes (twosF n s).2.1 ∧ (twosF n s).1.length = n := by
  induction n generalizing s with
  | zero => exact ⟨h, rfl⟩
  | succ n ih =>
    have := ih (twoR_bytes h).1
    exact ⟨this.1, by simp only [twosF, List.length_cons, this.2]⟩
theorem one_eq (s : RSt) (h : Bytes s.1) : impl_taker_one.f s.1 s.2 = some ((oneF s).1, (oneF s).2.1, (oneF s).2.2) := by
  have h0 := bytes_rd h 0
  simp only [Int.natCast_zero] at h0
  unfold impl_taker_one.f oneF
  by_cases hc : s.2 = true ∨ s.1.length < 1
  · rw [if_pos hc, if_pos (hc.imp id (fun h_ => by omega))]
  · rw [if_neg hc, if_neg (fun h_ => hc (h_.imp id (fun h_ => by omega))), wid (by omega) (by omega)]
theorem two_eq (s : RSt) (h : Bytes s.1) : impl_taker_two.f s.1 s.2 = some ((twoR s).1, (twoR s).2.1, (twoR s).2.2) := by
  have h0 := bytes_rd h 0
  have h1 := bytes_rd h 1
  simp only [Int.natCast_zero, Int.natCast_one] at h0 h1
  unfold impl_taker_two.f twoR
  by_cases hc : s.2 = true ∨ s.1.length < 2
  · rw [if_pos hc, if_pos (hc.imp id (fun h_ => by omega))]
  · rw [if_neg hc, if_neg (fun h_ => hc (h_.imp id (fun h_ => by omega)))]
    rw [wid (x := rd s.1 0) (by omega) (by omega), wid (x := rd s.1 0 * 256) (by omega) (by omega), wid (x := rd s.1 1) (by omega) (by omega), wid (by omega) (by omega)]
theorem take_eq (s : RSt) (n : Int) (h0 : 0 ≤ n) (h1 : n ≤ 65535) : impl_taker_take.f s.1 s.2 n = some ((takeF s n).1, (takeF s n).2.1, (takeF s n).2.2) := by
  unfold impl_taker_take.f takeF
  rw [if_pos (by omega)]
  split <;> rfl
/-- What the fields of an op tell, from a state on. -/
def parseI (s0 : RSt) : S37 × RSt :=
  let a := oneF s0; let b := oneF a.2; let c := takeF b.2 b.1; let d := oneF c.2; let e := takeF d.2 d.1; let u := oneF e.2; let v := twosF u.1.toNat u.2
  let m := oneF v.2; let f := oneF m.2; let t := twoR f.2; let n := twoR t.2; let x := takeF n.2 n.1
  (⟨a.1, strOfNums c.1, strOfNums e.1, v.1, m.1, f.1, t.1, x.1⟩, x.2)
def readW (l : List Int) : Option (S37 × Int) :=
  let hd := twoR (l, false)
  if hd.2.2 = true ∨ hd.1 > (l.length : Int) then none
  else
    let p := parseI ((l.take (mx 2 hd.1).toNat).drop 2, false)
    if p.2.2 = true then none else if opFault p.1 = 0 ∧ packF p.1 = l.take hd.1.toNat then some (p.1, hd.1) else none
def readT (r : Option (S37 × Int)) : Int × ByteArray × ByteArray × List Int × Int × Int × Int × List Int × Int := match r with
  | none => (0, (⟨#[]⟩ : ByteArray), (⟨#[]⟩ : ByteArray), [], 0, 0, 0, [], 0)
  | some (o, n) => (o.f0, o.f1, o.f2, o.f3, o.f4, o.f5, o.f6, o.f7, n)
def readR (r : Option (S37 × Int)) : Int × Int × Int × ByteArray × ByteArray × List Int × Int × Int × Int × List Int := match r with
  | none => (5, 0, 0, (⟨#[]⟩ : ByteArray), (⟨#[]⟩ : ByteArray), [], 0, 0, 0, [])
  | some (o, n) => (0, n, o.f0, o.f1, o.f2, o.f3, o.f4, o.f5, o.f6, o.f7)
theorem parseI_ok {s : RSt} (h : Bytes s.1) : okIOp (parseI s).1 ∧ (parseI s).1.f1.size ≤ 255 ∧ (parseI s).1.f2.size ≤ 255 ∧ (parseI s).1.f3.length ≤ 255 ∧ (parseI s).1.f7.length ≤ 65535 ∧ Bytes (parseI s).1.f7 := by
  unfold parseI okIOp
  simp only
  have a := oneF_bytes h
  have b := oneF_bytes a.1
  have c := takeF_bytes b.1 (oneF (oneF s).2).1
  generalize takeF (oneF (oneF s).2).2 (oneF (oneF s).2).1 = C at c
  have d := oneF_bytes c.1
  have e := takeF_bytes d.1 (oneF C.2).1
  generalize takeF (oneF C.2).2 (oneF C.2).1 = E at e
  have u := oneF_bytes e.1
  have v := twosF_bytes u.1 (oneF E.2).1.toNat
  generalize twosF (oneF E.2).1.toNat (oneF E.2).2 = V at v
  have m := oneF_bytes v.1
  have f := oneF_bytes m.1
  have t := twoR_bytes f.1
  have n := twoR_bytes t.1
  have x := takeF_bytes n.1 (twoR (twoR (oneF (oneF V.2).2).2).2).1
  generalize takeF (twoR (twoR (oneF (oneF V.2).2).2).2).2 (twoR (twoR (oneF (oneF V.2).2).2).2).1 = X at x
  have mxl : ∀ a b : Int, 0 ≤ a → a ≤ b → mx 0 a ≤ b := fun a b h0 h1 => by unfold mx; split <;> omega
  have c3 := mxl _ 255 b.2.1 b.2.2
  have e3 := mxl _ 255 d.2.1 d.2.2
  have x3 := mxl _ 65535 n.2.1 n.2.2
  rw [strOfNums_size, strOfNums_size]
  refine ⟨⟨?_, ?_, ?_, ?_⟩, ?_, ?_, ?_, ?_, x.2.1⟩ <;> omega
theorem twoF_bytes (n : Int) : Bytes (twoF n) := by
  intro x hx
  simp only [twoF, List.mem_cons, List.not_mem_nil, or_false] at hx
  rcases hx with rfl | rfl <;> omega
theorem bytes_append {a b : List Int} (ha : Bytes a) (hb : Bytes b) : Bytes (a ++ b) := fun x hx => (List.mem_append.1 hx).elim (ha x) (hb x)
theorem bytesOf_bytes (s : ByteArray) : Bytes (bytesOf s) := by
  intro x hx
  simp only [bytesOf, List.mem_map] at hx
  obtain ⟨b, _, rfl⟩ := hx
  have := b.toNat_lt
  omega
theorem packF_bytes (o : S37) (h7 : Bytes o.f7) : Bytes (packF o) := by
  have hu : Bytes (uidsB o.f3) := by
    intro x hx
    simp only [uidsB, List.mem_flatMap] at hx
    obtain ⟨n, _, hx⟩ := hx
    exact twoF_bytes n x hx
  have l2 : ∀ a b : Int, Bytes [a % 256, b % 256] := fun a b x hx => by
    simp only [List.mem_cons, List.not_mem_nil, or_false] at hx
    rcases hx with rfl | rfl <;> omega
  have l1 : ∀ a : Int, Bytes [a % 256] := fun a x hx => by
    simp only [List.mem_cons, List.not_mem_nil, or_false] at hx
    subst hx; omega
  have hh : Bytes (headB o) := bytes_append (bytes_append (bytes_append (bytes_append (l2 _ _) (bytesOf_bytes _)) (l1 _)) (bytesOf_bytes _)) (l1 _)
  have hb : Bytes (bodyB o) := bytes_append (bytes_append (bytes_append (bytes_append (bytes_append hh hu) (l2 _ _)) (twoF_bytes _)) (twoF_bytes _)) h7
  have hw : Bytes (packW o) := bytes_append (twoF_bytes _) hb
  exact bytes_append hw (twoF_bytes _)
theorem equal_eq (x y : List Int) (hx : Bytes x) (hy : Bytes y) : bytes_Equal.f x y = some (decide (x = y)) := by
  unfold bytes_Equal.f
  congr 1
  rw [Bool.eq_iff_iff, beq_iff_eq, str_inj x y hx hy, decide_eq_true_iff]
theorem ev_implLoop (x0 : List Int) (x5 : Int) (u : Nat) (hu : u ≤ 255) (a : Int) (b c : ByteArray) : ∀ (m i : Nat) (acc : List Int) (s : RSt), i + m = u → acc.length = i → Bytes s.1 → ∀ r,
    Ev (fun k => impl_readOp.l0 k x0 x5 (u : Int) (u : Int) (twosF m s).2.1 (twosF m s).2.2 a b c (acc ++ (twosF m s).1) 0 0 0) r → Ev (fun k => impl_readOp.l0 k x0 x5 (u : Int) (i : Int) s.1 s.2 a b c acc 0 0 0) r := by
  intro m
  induction m with
  | zero =>
    intro i acc s hi hl hb r h
    simp only [twosF, List.append_nil] at h
    rw [show i = u by omega]
    exact h
  | succ m ih =>
    intro i acc s hi hl hb r h
    refine Ev.succ ?_
    simp only [impl_readOp.l0]
    refine Ev.pos (by omega) (Ev.bindc (two_eq s hb) (Ev.pos (by omega) ?_))
    have := ih (i + 1) (acc ++ [(twoR s).1]) (twoR s).2 (by omega) (by simp [hl]) (twoR_bytes hb).1 r (by
      rw [List.append_assoc]
      exact h)
    rw [wid (by omega) (by omega)]
    simpa using this
theorem ev_implRead (l : List Int) (hl : l.length ≤ 1048576) (hb : Bytes l) : Ev (fun k => impl_readOp.f k l) (readT (readW l)) := by
  have no : ∀ (x5 : Int) (s : RSt), Ev (fun k => impl_readOp.j0 k l x5 true s.1 s.2) (readT none) := fun x5 s => by
    refine Ev.succ ?_
    simp only [impl_readOp.j0, if_true]
    exact Ev.now _
  unfold impl_readOp.f readW
  refine Ev.bindc (two_eq (l, false) hb) ?_
  have t0 := twoR_bytes (s := (l, false)) hb
  simp only
  by_cases h1 : (twoR (l, false)).2.2 = true
  · rw [if_pos (Or.inl h1)]
    exact Ev.pos h1 (by have := no (twoR (l, false)).1 (twoR (l, false)).2; exact this)
  refine Ev.neg h1 ?_
  simp only [impl_length_byte.f, Option.bind_some]
  by_cases h2 : (twoR (l, false)).1 > (l.length : Int)
  · rw [if_pos (Or.inr h2), decide_eq_true h2]
    exact no (twoR (l, false)).1 (twoR (l, false)).2
  rw [if_neg (by simp [h1]; omega), decide_eq_false h2]
  have hlen : 2 ≤ l.length := by
    have h1' := h1
    unfold twoR at h1'
    by_cases hc : (l, false).2 = true ∨ (l, false).1.length < 2
    · rw [if_pos hc] at h1'; exact absurd rfl h1'
    · have : ¬ l.length < 2 := fun h_ => hc (.inr h_)
      omega
  rw [Bool.eq_false_iff.mpr h1]
  generalize (twoR (l, false)).1 = n at h2 t0
  have hm : 2 ≤ mx 2 n := by unfold mx; split <;> omega
  have hm2 : mx 2 n ≤ (l.length : Int) := by unfold mx; split <;> omega
  have hd : Bytes ((l.take (mx 2 n).toNat).drop 2) := bytes_drop (bytes_take hb _) 2
  have pok := parseI_ok (s := ((l.take (mx 2 n).toNat).drop 2, false)) hd
  refine Ev.succ ?_
  simp only [impl_readOp.j0, Bool.false_eq_true, if_false]
  refine Ev.pos hm (Ev.pos hm2 ?_)
  generalize (l.take (mx 2 n).toNat).drop 2 = D at hd pok
  unfold parseI at pok ⊢
  simp only at pok ⊢
  have a := oneF_bytes (s := (D, false)) hd
  refine Ev.bindc (one_eq (D, false) hd) ?_
  generalize oneF (D, false) = A at a pok
  simp only
  have b := oneF_bytes a.1
  refine Ev.bindc (one_eq A.2 a.1) ?_
  generalize oneF A.2 = B at b pok
  simp only
  have c := takeF_bytes b.1 B.1
  refine Ev.bindc (take_eq B.2 B.1 b.2.1 (by omega)) ?_
  generalize takeF B.2 B.1 = C at c pok
  simp only
  have d := oneF_bytes c.1
  refine Ev.bindc (one_eq C.2 c.1) ?_
  generalize oneF C.2 = E at d pok
  simp only
  have e := takeF_bytes d.1 E.1
  refine Ev.bindc (take_eq E.2 E.1 d.2.1 (by omega)) ?_
  generalize takeF E.2 E.1 = F at e pok
  simp only
  have u := oneF_bytes e.1
  refine Ev.bindc (one_eq F.2 e.1) ?_
  generalize oneF F.2 = U at u pok
  simp only
  obtain ⟨un, hun⟩ := Int.eq_ofNat_of_zero_le u.2.1
  have v := twosF_bytes u.1 un
  rw [hun] at pok ⊢
  simp only [Int.ofNat_eq_natCast, Int.toNat_natCast] at pok ⊢
  refine ev_implLoop l n un (by omega) _ _ _ un 0 [] U.2 (by omega) rfl u.1 _ ?_
  generalize twosF un U.2 = V at v pok
  refine Ev.succ ?_
  simp only [impl_readOp.l0, Int.lt_irrefl, if_false, List.nil_append]
  have m := oneF_bytes v.1
  refine Ev.bindc (one_eq V.2 v.1) ?_
  generalize oneF V.2 = M at m pok
  simp only
  have f := oneF_bytes m.1
  refine Ev.bindc (one_eq M.2 m.1) ?_
  generalize oneF M.2 = G at f pok
  simp only
  have t := twoR_bytes f.1
  refine Ev.bindc (two_eq G.2 f.1) ?_
  generalize twoR G.2 = H at t pok
  simp only [Option.bind_some]
  have q := twoR_bytes t.1
  refine Ev.bindc (two_eq H.2 t.1) ?_
  generalize twoR H.2 = Q at q pok
  simp only
  have x := takeF_bytes q.1 Q.1
  refine Ev.bindc (take_eq Q.2 Q.1 q.2.1 (by omega)) ?_
  generalize takeF Q.2 Q.1 = X at x pok
  simp only [List.nil_append]
  obtain ⟨hok, _, _, _, h7, hb7⟩ := pok
  refine Ev.pos (by simp only [List.length_nil]; omega) ?_
  by_cases hx : X.2.2 = true
  · rw [if_pos hx]; exact Ev.pos hx (Ev.now _)
  rw [if_neg hx]
  refine Ev.neg hx ?_
  have hf := ev_implOpFault (⟨A.1, strOfNums C.1, strOfNums F.1, V.1, M.1, G.1, H.1, X.1⟩ : S37) hok
  have hp := ev_packed (⟨A.1, strOfNums C.1, strOfNums F.1, V.1, M.1, G.1, H.1, X.1⟩ : S37) hok
  have hpb := packF_bytes (⟨A.1, strOfNums C.1, strOfNums F.1, V.1, M.1, G.1, H.1, X.1⟩ : S37) hb7
  simp only at hf hp
  refine Ev.bind hf ?_
  by_cases h0 : opFault ⟨A.1, strOfNums C.1, strOfNums F.1, V.1, M.1, G.1, H.1, X.1⟩ = 0
  case neg => rw [if_neg (fun h_ => h0 h_.1)]; exact Ev.neg h0 (Ev.now _)
  refine Ev.pos h0 (Ev.bind hp (Ev.pos t0.2.1 (Ev.pos (by omega) (Ev.bindc (equal_eq _ _ hpb (bytes_take hb _)) ?_))))
  by_cases he : packF ⟨A.1, strOfNums C.1, strOfNums F.1, V.1, M.1, G.1, H.1, X.1⟩ = l.take n.toNat
  · refine Ev.pos (decide_eq_true he) ?_
    rw [if_pos ⟨h0, he⟩]; exact Ev.now _
  · refine Ev.neg (by simpa using he) ?_
    rw [if_neg (fun h_ => he h_.2)]; exact Ev.now _
theorem readW_some {l : List Int} {o : S37} {n : Int} (hl : l.length ≤ 1048576) (hb : Bytes l) (h : readW l = some (o, n)) : okIOp o ∧ opFault o = 0 ∧ packF o = l.take n.toNat ∧ 14 ≤ n ∧ n ≤ (l.length : Int) ∧ Bytes o.f7 := by
  unfold readW at h
  simp only at h
  split at h
  · cases h
  · rename_i h1
    split at h
    · cases h
    · split at h
      · rename_i h2 h3
        simp only [Option.some.injEq, Prod.mk.injEq] at h
        obtain ⟨rfl, rfl⟩ := h
        have pok := parseI_ok (s := ((l.take (mx 2 (twoR (l, false)).1).toNat).drop 2, false)) (bytes_drop (bytes_take hb _) 2)
        have t0 := twoR_bytes (s := (l, false)) hb
        have hlen := congrArg List.length h3.2
        rw [packF_length, List.length_take] at hlen
        exact ⟨pok.1, h3.1, h3.2, by omega, by omega, pok.2.2.2.2.2⟩
      · cases h
/-- How the reference's reader stands to the program's: where it is right, both are at one place; where it is wrong, it is at the end. -/
def Rel (D : List Int) (at_ : Nat) (w : Bool) (s : RSt) : Prop := at_ ≤ D.length ∧ (w = false → s = (D.drop at_, false)) ∧ (w = true → at_ = D.length ∧ s.2 = true)
theorem byte_eq (D : List Int) (hD : Bytes D) (hl : D.length ≤ 1048576) (at_ : Nat) (w : Bool) (h : at_ ≤ D.length) : spec_l9Byte.f D (at_ : Int) w = some (if at_ = D.length then (0, (at_ : Int), true) else (rd D (at_ : Int), ((at_ + 1 : Nat) : Int), w)) := by
  have h0 := bytes_rd hD at_
  unfold spec_l9Byte.f
  have e1 : wrap64 ((at_ : Int) + 1) = ((at_ + 1 : Nat) : Int) := by rw [wid (by omega) (by omega)]; omega
  have e2 : wrap64 (((at_ + 1 : Nat) : Int) - 1) = (at_ : Int) := by rw [wid (by omega) (by omega)]; omega
  by_cases hc : at_ = D.length
  · rw [if_pos hc, if_pos (by omega)]
  · rw [if_neg hc, if_neg (by omega)]
    simp only [e1, e2]
    rw [if_pos (by omega), if_pos (by omega), wid (by omega) (by omega)]
theorem rd_drop0 (D : List Int) (a : Nat) : rd (D.drop a) 0 = rd D (a : Int) := by simp [rd, List.getD_eq_getElem?_getD]
theorem rd_drop1 (D : List Int) (a : Nat) : rd (D.drop a) 1 = rd D ((a + 1 : Nat) : Int) := by
  have e : ((a : Int) + 1).toNat = a + 1 := by omega
  simp [rd, List.getD_eq_getElem?_getD, e]
theorem step_one (D : List Int) (hD : Bytes D) (hl : D.length ≤ 1048576) (at_ : Nat) (w : Bool) (s : RSt) (h : Rel D at_ w s) :
    ∃ v at1 w1, spec_l9Byte.f D (at_ : Int) w = some (v, ((at1 : Nat) : Int), w1) ∧ Rel D at1 w1 (oneF s).2 ∧ (w1 = false → w = false ∧ v = (oneF s).1) ∧ at1 ≤ at_ + 1 ∧ 0 ≤ v ∧ v ≤ 255 := by
  obtain ⟨hle, hf, ht⟩ := h
  rw [byte_eq D hD hl at_ w hle]
  have h0 := bytes_rd hD at_
  by_cases hc : at_ = D.length
  · rw [if_pos hc]
    refine ⟨0, at_, true, rfl, ⟨hle, by simp, fun _ => ⟨hc, ?_⟩⟩, by simp, by omega, by omega, by omega⟩
    unfold oneF
    cases w with
    | true => rw [if_pos (Or.inl (ht rfl).2)]
    | false => rw [hf rfl, if_pos (Or.inr (by simp only [List.length_drop]; omega))]
  · rw [if_neg hc]
    cases w with
    | true => exact absurd (ht rfl).1 hc
    | false =>
      refine ⟨rd D at_, at_ + 1, false, rfl, ⟨by omega, fun _ => ?_, by simp⟩, fun _ => ⟨rfl, ?_⟩, by omega, h0.1, h0.2⟩
      · rw [hf rfl]
        unfold oneF
        rw [if_neg (by simp only [List.length_drop]; simp; omega)]
        simp only [List.drop_drop]
      · rw [hf rfl]
        unfold oneF
        rw [if_neg (by simp only [List.length_drop]; simp; omega)]
        exact (rd_drop0 D at_).symm
theorem twoR_drop (D : List Int) (a : Nat) : twoR (D.drop a, false) = if a + 2 ≤ D.length then (rd D (a : Int) * 256 + rd D ((a + 1 : Nat) : Int), (D.drop (a + 2), false)) else (0, (D.drop a, true)) := by
  unfold twoR
  by_cases h : a + 2 ≤ D.length
  · rw [if_pos h, if_neg (by simp only [List.length_drop]; simp; omega)]
    simp only [rd_drop0, rd_drop1, List.drop_drop]
  · rw [if_neg h, if_pos (Or.inr (by simp only [List.length_drop]; omega))]
theorem step_two (D : List Int) (hD : Bytes D) (hl : D.length ≤ 1048576) (at_ : Nat) (w : Bool) (s : RSt) (h : Rel D at_ w s) :
    ∃ v at1 w1, spec_l9Word.f D (at_ : Int) w = some (v, ((at1 : Nat) : Int), w1) ∧ Rel D at1 w1 (twoR s).2 ∧ (w1 = false → w = false ∧ v = (twoR s).1) ∧ at1 ≤ at_ + 2 ∧ 0 ≤ v ∧ v ≤ 65535 := by
  obtain ⟨hle, hf, ht⟩ := h
  have h0 := bytes_rd hD at_
  have h1 := bytes_rd hD (at_ + 1)
  unfold spec_l9Word.f
  rw [byte_eq D hD hl at_ w hle, Option.bind_some]
  by_cases hc : at_ = D.length
  · have hbad : (twoR s).2.2 = true := by
      cases w with
      | true => unfold twoR; rw [if_pos (Or.inl (ht rfl).2)]
      | false => rw [hf rfl, twoR_drop, if_neg (by omega)]
    simp only [if_pos hc]
    rw [byte_eq D hD hl at_ true hle, Option.bind_some]
    simp only [if_pos hc]
    exact ⟨_, at_, true, rfl, ⟨hle, by simp, fun _ => ⟨hc, hbad⟩⟩, by simp, by omega, by unfold wrap64; omega, by unfold wrap64; omega⟩
  · simp only [if_neg hc]
    cases w with
    | true => exact absurd (ht rfl).1 hc
    | false =>
      rw [byte_eq D hD hl (at_ + 1) false (by omega), Option.bind_some, hf rfl, twoR_drop]
      have hv : ∀ v1 : Int, 0 ≤ v1 → v1 ≤ 255 → wrap64 ((wrap64 (rd D (at_ : Int) * 256)) + v1) = rd D (at_ : Int) * 256 + v1 := fun v1 p q => by rw [wid (x := rd D (at_ : Int) * 256) (by omega) (by omega), wid (by omega) (by omega)]
      by_cases hc2 : at_ + 1 = D.length
      · simp only [if_pos hc2]
        rw [if_neg (by omega), hv 0 (by omega) (by omega)]
        exact ⟨_, at_ + 1, true, rfl, ⟨by omega, by simp, fun _ => ⟨hc2, rfl⟩⟩, by simp, by omega, by omega, by omega⟩
      · simp only [if_neg hc2]
        rw [if_pos (by omega), hv _ h1.1 h1.2]
        exact ⟨_, at_ + 1 + 1, false, rfl, ⟨by omega, fun _ => rfl, by simp⟩, fun _ => ⟨by trivial, rfl⟩, by omega, by omega, by omega⟩
theorem step_bytes (D : List Int) (hD : Bytes D) (hl : D.length ≤ 1048576) : ∀ (n : Nat) (acc : List Int) (at_ : Nat) (w : Bool) (s : RSt), n ≤ 65535 → acc.length + n ≤ 200000 → Rel D at_ w s →
    ∃ x at1 w1, Ev (fun k => spec_l9Bytes.l0 k (n : Int) acc D (at_ : Int) w) (acc ++ x, ((at1 : Nat) : Int), w1) ∧ Rel D at1 w1 (takeF s (n : Int)).2 ∧ (w1 = false → w = false ∧ x = (takeF s (n : Int)).1) ∧ at1 ≤ at_ + x.length ∧ x.length ≤ n ∧ Bytes x := by
  intro n
  induction n with
  | zero =>
    intro acc at_ w s _ _ h
    refine ⟨[], at_, w, Ev.succ ?_, ?_, ?_, by simp, by simp, by intro b hb; simp at hb⟩
    · simp only [spec_l9Bytes.l0, Int.natCast_zero, Int.lt_irrefl, gt_iff_lt, if_false, List.append_nil]
      exact Ev.now _
    · refine ⟨h.1, fun hw => ?_, fun hw => ⟨(h.2.2 hw).1, ?_⟩⟩
      · rw [h.2.1 hw]
        unfold takeF
        rw [if_neg (by simp)]
        simp
      · unfold takeF
        rw [if_pos (Or.inl (h.2.2 hw).2)]
    · intro hw
      refine ⟨hw, ?_⟩
      rw [h.2.1 hw]
      unfold takeF
      rw [if_neg (by simp)]
      simp
  | succ n ih =>
    intro acc at_ w s hn ha h
    cases w with
    | true =>
      refine ⟨[], at_, true, Ev.succ ?_, ⟨h.1, by simp, fun _ => ⟨(h.2.2 rfl).1, ?_⟩⟩, by simp, by simp, by simp, by intro b hb; simp at hb⟩
      · simp only [spec_l9Bytes.l0, List.append_nil]
        exact Ev.pos (by omega) (Ev.pos trivial (Ev.now _))
      · unfold takeF
        rw [if_pos (Or.inl (h.2.2 rfl).2)]
    | false =>
      have hs := h.2.1 rfl
      have h0 := bytes_rd hD at_
      have hb := byte_eq D hD hl at_ false h.1
      by_cases hc : at_ = D.length
      · rw [if_pos hc] at hb
        have hrel : Rel D at_ true (takeF s ((n + 1 : Nat) : Int)).2 := by
          refine ⟨h.1, by simp, fun _ => ⟨hc, ?_⟩⟩
          rw [hs]
          unfold takeF
          rw [if_pos (Or.inr (by simp only [List.length_drop]; omega))]
        refine ⟨[0], at_, true, Ev.succ ?_, hrel, by simp, by simp, by simp, by intro b hb; simp at hb; subst hb; omega⟩
        simp only [spec_l9Bytes.l0]
        refine Ev.pos (by omega) (Ev.neg (by simp) (Ev.bindc hb (Ev.pos (by omega) ?_)))
        rw [wid (by omega) (by omega), show (((n + 1 : Nat) : Int) - 1) = (n : Int) by omega, show ((0 : Int) % 256) = 0 from rfl]
        refine Ev.succ ?_
        simp only [spec_l9Bytes.l0]
        by_cases hn0 : n = 0
        · exact Ev.neg (by omega) (Ev.now _)
        · exact Ev.pos (by omega) (Ev.pos trivial (Ev.now _))
      · rw [if_neg hc] at hb
        have hle := h.1
        have hr : Rel D (at_ + 1) false (D.drop (at_ + 1), false) := ⟨by omega, fun _ => rfl, by simp⟩
        obtain ⟨x, a1, w1, e, r, f, l1, l2, bx⟩ := ih (acc ++ [rd D (at_ : Int)]) (at_ + 1) false (D.drop (at_ + 1), false) (by omega) (by simp; omega) hr
        have hcons : D.drop at_ = rd D (at_ : Int) :: D.drop (at_ + 1) := by rw [rd_get D at_ (by omega)]; exact List.drop_eq_getElem_cons (by omega)
        refine ⟨rd D (at_ : Int) :: x, a1, w1, Ev.succ ?_, ?_, ?_, by simp only [List.length_cons]; omega, by simp only [List.length_cons]; omega, ?_⟩
        · simp only [spec_l9Bytes.l0]
          refine Ev.pos (by omega) (Ev.neg (by simp) (Ev.bindc hb (Ev.pos (by omega) ?_)))
          rw [wid (by omega) (by omega), show (((n + 1 : Nat) : Int) - 1) = (n : Int) by omega]
          simp only
          rw [show rd D (at_ : Int) % 256 = rd D (at_ : Int) by omega]
          rw [List.append_assoc] at e
          exact e
        · refine ⟨r.1, fun hw => ?_, fun hw => ⟨(r.2.2 hw).1, ?_⟩⟩
          · have e2 := r.2.1 hw
            rw [hs]
            unfold takeF at e2 ⊢
            simp only [Bool.false_eq_true, false_or, List.length_drop, Int.toNat_natCast] at e2 ⊢
            by_cases c : ((D.length - (at_ + 1) : Nat) : Int) < (n : Int)
            · rw [if_pos c] at e2; exact absurd (congrArg Prod.snd e2) (by simp)
            · rw [if_neg c] at e2
              rw [if_neg (by omega)]
              simp only [List.drop_drop] at e2 ⊢
              rw [← e2]
              congr 2
              omega
          · have e2 := (r.2.2 hw).2
            rw [hs]
            unfold takeF at e2 ⊢
            simp only [Bool.false_eq_true, false_or, List.length_drop] at e2 ⊢
            by_cases c : ((D.length - (at_ + 1) : Nat) : Int) < (n : Int)
            · rw [if_pos (by omega)]
            · rw [if_neg c] at e2; exact absurd e2 (by simp)
        · intro hw
          refine ⟨rfl, ?_⟩
          have e2 := (f hw).2
          have e3 := r.2.1 hw
          rw [hs]
          unfold takeF at e2 e3 ⊢
          simp only [Bool.false_eq_true, false_or, List.length_drop, Int.toNat_natCast] at e2 e3 ⊢
          by_cases c : ((D.length - (at_ + 1) : Nat) : Int) < (n : Int)
          · rw [if_pos c] at e3; exact absurd (congrArg Prod.snd e3) (by simp)
          · rw [if_neg c] at e2
            rw [if_neg (by omega), e2, hcons]
            simp
        · intro b hb'
          rcases List.mem_cons.1 hb' with rfl | hb'
          · exact h0
          · exact bx b hb'
theorem takeF_congr (s : RSt) {a b : Int} (h : a = b) : takeF s a = takeF s b := by rw [h]
theorem step_uids (D : List Int) (hD : Bytes D) (hl : D.length ≤ 1048576) (a : Int) (b c : ByteArray) : ∀ (n : Nat) (acc : List Int) (at_ : Nat) (w : Bool) (s : RSt), n ≤ 255 → acc.length + n ≤ 255 → Rel D at_ w s →
    ∃ x at1 w1, (∀ r, Ev (fun k => spec_l9Read.j1 k D ((at1 : Nat) : Int) w1 a b c (acc ++ x) 0 0 0) r → Ev (fun k => spec_l9Read.l0 k (n : Int) D (at_ : Int) w a b c acc 0 0 0) r) ∧ Rel D at1 w1 (twosF n s).2 ∧ (w1 = false → w = false ∧ x = (twosF n s).1) ∧ at1 ≤ at_ + 2 * x.length ∧ x.length ≤ n := by
  intro n
  induction n with
  | zero =>
    intro acc at_ w s _ _ h
    refine ⟨[], at_, w, fun r hr => Ev.succ ?_, h, fun hw => ⟨hw, rfl⟩, by simp, by simp⟩
    simp only [spec_l9Read.l0, Int.natCast_zero, Int.lt_irrefl, gt_iff_lt, if_false]
    rw [List.append_nil] at hr
    exact hr
  | succ n ih =>
    intro acc at_ w s hn ha h
    cases w with
    | true =>
      have bad : ∀ (m : Nat) (t : RSt), t.2 = true → (twosF m t).2.2 = true := by
        intro m
        induction m with
        | zero => intro t ht; exact ht
        | succ m ih2 => intro t ht; simp only [twosF]; exact ih2 _ (by unfold twoR; rw [if_pos (Or.inl ht)])
      refine ⟨[], at_, true, fun r hr => Ev.succ ?_, ⟨h.1, by simp, fun _ => ⟨(h.2.2 rfl).1, bad _ _ (h.2.2 rfl).2⟩⟩, by simp, by simp, by simp⟩
      simp only [spec_l9Read.l0]
      rw [List.append_nil] at hr
      exact Ev.pos (by omega) (Ev.pos trivial hr)
    | false =>
      obtain ⟨v, a1, w1, e1, r1, f1, l1, p1, q1⟩ := step_two D hD hl at_ false s h
      obtain ⟨x, a2, w2, e2, r2, f2, l2, l3⟩ := ih (acc ++ [v]) a1 w1 _ (by omega) (by simp; omega) r1
      refine ⟨v :: x, a2, w2, fun r hr => Ev.succ ?_, r2, fun hw => ?_, by simp only [List.length_cons]; omega, by simp only [List.length_cons]; omega⟩
      · simp only [spec_l9Read.l0]
        refine Ev.pos (by omega) (Ev.neg (by simp) (Ev.bindc e1 (Ev.pos (by omega) ?_)))
        rw [wid (by omega) (by omega), show (((n + 1 : Nat) : Int) - 1) = (n : Int) by omega]
        exact e2 r (by rw [List.append_assoc]; exact hr)
      · obtain ⟨hw1, hx⟩ := f2 hw
        obtain ⟨_, hv⟩ := f1 hw1
        exact ⟨rfl, by simp only [twosF, hx, hv]⟩
theorem twosF_bad (n : Nat) (s : RSt) (h : s.2 = true) : (twosF n s).2.2 = true := by
  induction n generalizing s with
  | zero => exact h
  | succ n ih => simp only [twosF]; exact ih _ (by unfold twoR; rw [if_pos (Or.inl h)])
theorem step_bytes' (D : List Int) (hD : Bytes D) (hl : D.length ≤ 1048576) (v n' : Int) (at_ : Nat) (w : Bool) (s : RSt) (h0 : 0 ≤ v) (h1 : v ≤ 65535) (hv : w = false → v = n') (h : Rel D at_ w s) :
    ∃ x at1 w1, Ev (fun k => spec_l9Bytes.f k D (at_ : Int) w v) (x, ((at1 : Nat) : Int), w1) ∧ Rel D at1 w1 (takeF s n').2 ∧ (w1 = false → w = false ∧ x = (takeF s n').1) ∧ at1 ≤ at_ + x.length ∧ (x.length : Int) ≤ v ∧ Bytes x := by
  obtain ⟨n, rfl⟩ := Int.eq_ofNat_of_zero_le h0
  obtain ⟨x, a1, w1, e, r, f, l1, l2, b⟩ := step_bytes D hD hl n [] at_ w s (by omega) (by simp; omega) h
  refine ⟨x, a1, w1, e, ?_, fun hw => ⟨(f hw).1, by rw [← hv (f hw).1]; exact (f hw).2⟩, l1, by omega, b⟩
  cases w with
  | false => rw [← hv rfl]; exact r
  | true =>
    refine ⟨r.1, fun hw => absurd (f hw).1 (by simp), fun hw => ⟨(r.2.2 hw).1, ?_⟩⟩
    unfold takeF
    rw [if_pos (Or.inl (h.2.2 rfl).2)]
theorem step_uids' (D : List Int) (hD : Bytes D) (hl : D.length ≤ 1048576) (a : Int) (b c : ByteArray) (v : Int) (n' : Nat) (at_ : Nat) (w : Bool) (s : RSt) (h0 : 0 ≤ v) (h1 : v ≤ 255) (hv : w = false → v.toNat = n') (h : Rel D at_ w s) :
    ∃ x at1 w1, (∀ r, Ev (fun k => spec_l9Read.j1 k D ((at1 : Nat) : Int) w1 a b c x 0 0 0) r → Ev (fun k => spec_l9Read.l0 k v D (at_ : Int) w a b c [] 0 0 0) r) ∧ Rel D at1 w1 (twosF n' s).2 ∧ (w1 = false → w = false ∧ x = (twosF n' s).1) ∧ at1 ≤ at_ + 2 * x.length ∧ x.length ≤ 255 := by
  obtain ⟨n, rfl⟩ := Int.eq_ofNat_of_zero_le h0
  simp only [Int.ofNat_eq_natCast, Int.toNat_natCast] at *
  obtain ⟨x, a1, w1, e, r, f, l1, l2⟩ := step_uids D hD hl a b c n [] at_ w s (by omega) (by simp; omega) h
  refine ⟨x, a1, w1, e, ?_, fun hw => ⟨(f hw).1, by rw [← hv (f hw).1]; exact (f hw).2⟩, l1, by omega⟩
  cases w with
  | false => rw [← hv rfl]; exact r
  | true => exact ⟨r.1, fun hw => absurd (f hw).1 (by simp), fun hw => ⟨(r.2.2 hw).1, twosF_bad _ _ (h.2.2 rfl).2⟩⟩
theorem ev_l9Read (D : List Int) (hD : Bytes D) (hl : D.length ≤ 1048576) (h2 : 2 ≤ D.length) :
    ∃ o : S37, Ev (fun k => spec_l9Read.f k D) (o.f0, o.f1, o.f2, o.f3, o.f4, o.f5, o.f6, o.f7) ∧ okIOp o ∧ Bytes o.f7 ∧
      ((parseI (D.drop 2, false)).2.2 = true ∧ D.length + 2 ≤ 14 + o.f1.size + o.f2.size + 2 * o.f3.length + o.f7.length ∨ (parseI (D.drop 2, false)).2.2 = false ∧ o = (parseI (D.drop 2, false)).1) := by
  have r0 : Rel D 2 false (D.drop 2, false) := ⟨h2, fun _ => rfl, by simp⟩
  unfold parseI
  simp only
  obtain ⟨va, aa, wa, ea, ra, fa, la, pa, qa⟩ := step_one D hD hl 2 false _ r0
  generalize oneF (D.drop 2, false) = A at ra fa ⊢
  obtain ⟨vb, ab, wb, eb, rb, fb, lb, pb, qb⟩ := step_one D hD hl aa wa _ ra
  generalize oneF A.2 = B at rb fb ⊢
  obtain ⟨xc, ac, wc, ec, rc, fc, lc, mc, bc⟩ := step_bytes' D hD hl vb B.1 ab wb _ pb (by omega) (fun hw => (fb hw).2) rb
  generalize takeF B.2 B.1 = C at rc fc ⊢
  obtain ⟨vd, ad, wd, ed, rd_, fd, ld, pd, qd⟩ := step_one D hD hl ac wc _ rc
  generalize oneF C.2 = E at rd_ fd ⊢
  obtain ⟨xe, ae, we, ee, re, fe, le, me, be⟩ := step_bytes' D hD hl vd E.1 ad wd _ pd (by omega) (fun hw => (fd hw).2) rd_
  generalize takeF E.2 E.1 = F at re fe ⊢
  obtain ⟨vu, au, wu, eu, ru, fu, lu, pu, qu⟩ := step_one D hD hl ae we _ re
  generalize oneF F.2 = U at ru fu ⊢
  obtain ⟨xv, av, wv, ev, rv, fv, lv, mv⟩ := step_uids' D hD hl va (strOfNums xc) (strOfNums xe) vu U.1.toNat au wu _ pu qu (fun hw => by rw [(fu hw).2]) ru
  generalize twosF U.1.toNat U.2 = V at rv fv ⊢
  obtain ⟨vm, am, wm, em, rm, fm, lm, pm, qm⟩ := step_one D hD hl av wv _ rv
  generalize oneF V.2 = M at rm fm ⊢
  obtain ⟨vf, af, wf, ef, rf, ff, lf, pf, qf⟩ := step_one D hD hl am wm _ rm
  generalize oneF M.2 = G at rf ff ⊢
  obtain ⟨vt, at_, wt, et, rt, ft, lt, pt, qt⟩ := step_two D hD hl af wf _ rf
  generalize twoR G.2 = H at rt ft ⊢
  obtain ⟨vn, an, wn, en, rn, fn, ln, pn, qn⟩ := step_two D hD hl at_ wt _ rt
  generalize twoR H.2 = Q at rn fn ⊢
  obtain ⟨xx, ax, wx, ex, rx, fx, lx, mx_, bx⟩ := step_bytes' D hD hl vn Q.1 an wn _ pn qn (fun hw => (fn hw).2) rn
  generalize takeF Q.2 Q.1 = X at rx fx ⊢
  refine ⟨⟨va, strOfNums xc, strOfNums xe, xv, vm, vf, vt, xx⟩, ?_, ?_, bx, ?_⟩
  · unfold spec_l9Read.f
    have ea' : spec_l9Byte.f D 2 false = some (va, ((aa : Nat) : Int), wa) := ea
    refine Ev.bindc ea' (Ev.bindc eb (Ev.bind ec (Ev.bindc ed (Ev.bind ee (Ev.bindc eu (ev _ (Ev.succ ?_)))))))
    simp only [spec_l9Read.j1]
    exact Ev.bindc em (Ev.bindc ef (Ev.bindc et (Ev.bindc en (Ev.bind ex (Ev.now _)))))
  · unfold okIOp
    simp only [strOfNums_size]
    omega
  · cases wx with
    | true =>
      refine .inl ⟨(rx.2.2 rfl).2, ?_⟩
      have := (rx.2.2 rfl).1
      simp only [strOfNums_size]
      omega
    | false =>
      refine .inr ⟨by rw [rx.2.1 rfl], ?_⟩
      obtain ⟨hn, ex'⟩ := fx rfl
      obtain ⟨ht, _⟩ := fn hn
      obtain ⟨hf, et'⟩ := ft ht
      obtain ⟨hm, ef'⟩ := ff hf
      obtain ⟨hv, em'⟩ := fm hm
      obtain ⟨hu, ev'⟩ := fv hv
      obtain ⟨he, _⟩ := fu hu
      obtain ⟨hd, ee'⟩ := fe he
      obtain ⟨hc, _⟩ := fd hd
      obtain ⟨hb, ec'⟩ := fc hc
      obtain ⟨ha, _⟩ := fb hb
      obtain ⟨_, ea'⟩ := fa ha
      rw [ea', ec', ee', ev', em', ef', et', ex']
theorem readW_head {l : List Int} {o : S37} {n : Int} (h : readW l = some (o, n)) : n = (twoR (l, false)).1 ∧ (twoR (l, false)).2.2 = false := by
  unfold readW at h
  simp only at h
  split at h
  · cases h
  · rename_i h1
    split at h
    · cases h
    · split at h
      · simp only [Option.some.injEq, Prod.mk.injEq] at h
        exact ⟨h.2.symm, Bool.eq_false_iff.mpr (fun h_ => h1 (.inl h_))⟩
      · cases h
theorem ev_specReadOp (l : List Int) (hl : l.length ≤ 1048576) (hb : Bytes l) : Ev (fun k => spec_ReadOp.f k l) (readR (readW l)) := by
  have no : ∀ x, Ev (fun k => spec_ReadOp.j0 k l x true) (readR none) := fun x => by
    refine Ev.succ ?_
    simp only [spec_ReadOp.j0, if_true]
    exact Ev.now _
  have h0 := bytes_rd hb 0
  have h1 := bytes_rd hb 1
  simp only [Int.natCast_zero, Int.natCast_one] at h0 h1
  unfold spec_ReadOp.f
  by_cases hc : l.length < 2
  · refine Ev.pos (by omega) ?_
    have : readW l = none := by
      unfold readW twoR
      rw [if_pos (Or.inr hc)]
      simp
    rw [this]
    exact Ev.now _
  have ht : twoR (l, false) = (rd l 0 * 256 + rd l 1, (l.drop 2, false)) := by
    unfold twoR
    rw [if_neg (by simpa using hc)]
  refine Ev.neg (by omega) (Ev.pos (by omega) (Ev.pos (by omega) ?_))
  rw [wid (x := rd l 0) (by omega) (by omega), wid (x := rd l 0 * 256) (by omega) (by omega), wid (x := rd l 1) (by omega) (by omega), wid (x := rd l 0 * 256 + rd l 1) (by omega) (by omega)]
  have hsome : ∀ o m, readW l = some (o, m) → m = rd l 0 * 256 + rd l 1 ∧ 14 ≤ m ∧ m ≤ (l.length : Int) := fun o m h => by
    have a := readW_head h
    have b := readW_some hl hb h
    rw [ht] at a
    exact ⟨a.1, b.2.2.2.1, b.2.2.2.2.1⟩
  have hdef : ¬ (rd l 0 * 256 + rd l 1 > (l.length : Int)) → readW l = (let p := parseI ((l.take (mx 2 (rd l 0 * 256 + rd l 1)).toNat).drop 2, false); if p.2.2 = true then none else if opFault p.1 = 0 ∧ packF p.1 = l.take (rd l 0 * 256 + rd l 1).toNat then some (p.1, rd l 0 * 256 + rd l 1) else none) := fun h => by
    unfold readW
    rw [ht]
    simp only [Bool.false_eq_true, false_or]
    rw [if_neg h]
  generalize hN : rd l 0 * 256 + rd l 1 = N at hsome hdef ⊢
  have hN0 : 0 ≤ N := by omega
  by_cases c1 : N < 2
  · have : readW l = none := by
      cases h : readW l with
      | none => rfl
      | some p => have := hsome p.1 p.2 (by rw [h]); omega
    rw [this]
    exact Ev.pos c1 (no N)
  refine Ev.neg c1 ?_
  by_cases c2 : N > (l.length : Int)
  · have : readW l = none := by
      cases h : readW l with
      | none => rfl
      | some p => have := hsome p.1 p.2 (by rw [h]); omega
    rw [this, decide_eq_true c2]
    exact no N
  rw [decide_eq_false c2, hdef c2]
  have hm : mx 2 N = N := by unfold mx; split <;> omega
  rw [hm]
  have hlen : (l.take N.toNat).length = N.toNat := by rw [List.length_take]; omega
  obtain ⟨o, er, ok, b7, hcase⟩ := ev_l9Read (l.take N.toNat) (bytes_take hb _) (by omega) (by omega)
  refine Ev.succ ?_
  simp only [spec_ReadOp.j0, Bool.false_eq_true, if_false]
  refine Ev.pos hN0 (Ev.pos (by omega) (Ev.bind er (Ev.bind (ev_l8Fault o [] ok) ?_)))
  have hstr := str_inj (packF o) (l.take N.toNat) (packF_bytes o b7) (bytes_take hb _)
  rcases hcase with ⟨hbad, hle⟩ | ⟨hgood, ho⟩
  · rw [if_pos hbad]
    by_cases c3 : opFault o = 0
    case neg => exact Ev.neg c3 (Ev.now _)
    refine Ev.pos c3 (Ev.bind (ev_l9Pack o [] ok) (Ev.neg (fun h_ => ?_) (Ev.now _)))
    have e := congrArg List.length (hstr.1 h_)
    rw [packF_length] at e
    omega
  · rw [if_neg (by rw [hgood]; simp), ← ho]
    by_cases c3 : opFault o = 0
    case neg => rw [if_neg (fun h_ => c3 h_.1)]; exact Ev.neg c3 (Ev.now _)
    refine Ev.pos c3 (Ev.bind (ev_l9Pack o [] ok) ?_)
    by_cases c4 : packF o = l.take N.toNat
    · refine Ev.pos (hstr.2 c4) ?_
      rw [if_pos ⟨c3, c4⟩]
      exact Ev.now _
    · refine Ev.neg (fun h_ => c4 (hstr.1 h_)) ?_
      rw [if_neg (fun h_ => c4 h_.2)]
      exact Ev.now _
/-- The ops from a place on, and the place behind them. -/
def readJ : Nat → List Int → Nat → List S37 × Nat
  | 0, _, a => ([], a)
  | f + 1, l, a => match readW (l.drop a) with
    | none => ([], a)
    | some (o, n) => (o :: (readJ f l (a + n.toNat)).1, (readJ f l (a + n.toNat)).2)
theorem readW_nil : readW [] = none := by
  unfold readW twoR
  simp
theorem readJ_ok (l : List Int) (hl : l.length ≤ 1048576) (hb : Bytes l) : ∀ (f a : Nat), a ≤ l.length → (∀ o ∈ (readJ f l a).1, okIOp o) ∧ a + 14 * (readJ f l a).1.length ≤ (readJ f l a).2 ∧ (readJ f l a).2 ≤ l.length
  | 0, a, h => by simp [readJ, h]
  | f + 1, a, h => by
    unfold readJ
    cases hw : readW (l.drop a) with
    | none => simp [h]
    | some p =>
      obtain ⟨o, n⟩ := p
      have := readW_some (l := l.drop a) (by rw [List.length_drop]; omega) (bytes_drop hb a) hw
      rw [List.length_drop] at this
      have ih := readJ_ok l hl hb f (a + n.toNat) (by omega)
      simp only
      refine ⟨fun x hx => ?_, by simp only [List.length_cons]; omega, ih.2.2⟩
      rcases List.mem_cons.1 hx with rfl | hx
      · exact this.1
      · exact ih.1 x hx
theorem ev_implReadOps (l : List Int) (hl : l.length ≤ 1048576) (hb : Bytes l) : Ev (fun k => impl_readOps.f k l) ((readJ (l.length + 1) l 0).1, ((readJ (l.length + 1) l 0).2 : Int)) := by
  unfold impl_readOps.f
  have key : ∀ (f a : Nat) (acc : List S37), a ≤ l.length → l.length - a < f → acc.length ≤ a → Ev (fun k => impl_readOps.l0 k l acc (a : Int)) (acc ++ (readJ f l a).1, ((readJ f l a).2 : Int)) := by
    intro f
    induction f with
    | zero => intro a acc _ h2 _; omega
    | succ f ih =>
      intro a acc h1 h2 h3
      have hr := ev_implRead (l.drop a) (by rw [List.length_drop]; omega) (bytes_drop hb a)
      refine Ev.succ ?_
      simp only [impl_readOps.l0, Int.toNat_natCast]
      refine Ev.pos (by omega) (Ev.pos (by omega) (Ev.bind hr ?_))
      unfold readJ
      cases hw : readW (l.drop a) with
      | none => rw [List.append_nil]; exact Ev.pos rfl (Ev.now _)
      | some p =>
        obtain ⟨o, n⟩ := p
        have := readW_some (l := l.drop a) (by rw [List.length_drop]; omega) (bytes_drop hb a) hw
        rw [List.length_drop] at this
        simp only [readT]
        refine Ev.neg (by omega) (Ev.pos (by omega) ?_)
        have e := ih (a + n.toNat) (acc ++ [o]) (by omega) (by omega) (by simp only [List.length_append, List.length_cons, List.length_nil]; omega)
        rw [wid (by omega) (by omega), show (a : Int) + n = ((a + n.toNat : Nat) : Int) by omega]
        rw [List.append_assoc] at e
        exact e
  have := key (l.length + 1) 0 [] (by omega) (by omega) (by simp)
  exact this
theorem ev_specJournal (l : List Int) (hl : l.length ≤ 1048576) (hb : Bytes l) : Ev (fun k => spec_l9Journal.f k l) ((readJ (l.length + 1) l 0).1, ((readJ (l.length + 1) l 0).2 : Int)) := by
  unfold spec_l9Journal.f
  have key : ∀ (f a : Nat) (acc : List S37), a ≤ l.length → l.length - a < f → acc.length ≤ a → Ev (fun k => spec_l9Journal.l0 k l acc (a : Int)) (acc ++ (readJ f l a).1, ((readJ f l a).2 : Int)) := by
    intro f
    induction f with
    | zero => intro a acc _ h2 _; omega
    | succ f ih =>
      intro a acc h1 h2 h3
      refine Ev.succ ?_
      simp only [spec_l9Journal.l0, Int.toNat_natCast]
      by_cases hc : (a : Int) < (l.length : Int)
      case neg =>
        unfold readJ
        rw [List.drop_eq_nil_of_le (by omega), readW_nil, List.append_nil]
        exact Ev.neg hc (Ev.now _)
      have hr := ev_specReadOp (l.drop a) (by rw [List.length_drop]; omega) (bytes_drop hb a)
      refine Ev.pos hc (Ev.pos (by omega) (Ev.pos (by omega) (Ev.bind hr ?_)))
      unfold readJ
      cases hw : readW (l.drop a) with
      | none => rw [List.append_nil]; exact Ev.neg (by simp [readR]) (Ev.now _)
      | some p =>
        obtain ⟨o, n⟩ := p
        have := readW_some (l := l.drop a) (by rw [List.length_drop]; omega) (bytes_drop hb a) hw
        rw [List.length_drop] at this
        simp only [readR]
        refine Ev.pos (by first | rfl | trivial) (Ev.pos (by omega) ?_)
        have e := ih (a + n.toNat) (acc ++ [o]) (by omega) (by omega) (by simp only [List.length_append, List.length_cons, List.length_nil]; omega)
        rw [wid (by omega) (by omega), show (a : Int) + n = ((a + n.toNat : Nat) : Int) by omega]
        rw [List.append_assoc] at e
        exact e
  have := key (l.length + 1) 0 [] (by omega) (by omega) (by simp)
  exact this
def journalR (l : List Int) : Int × Int × List S37 := if (l.length : Int) > 8000 then (2, 0, []) else (0, ((readJ (l.length + 1) l 0).2 : Int), (readJ (l.length + 1) l 0).1)
theorem ev_implReadJournal (l : List Int) (hl : l.length ≤ 1048576) (hb : Bytes l) : Ev (fun k => impl_ReadJournal.f k l) (journalR l) := by
  unfold impl_ReadJournal.f journalR
  exact Ev.ite (fun _ => Ev.now _) (fun _ => Ev.bind (ev_implReadOps l hl hb) (Ev.now _))
theorem ev_specReadJournal (l : List Int) (hl : l.length ≤ 1048576) (hb : Bytes l) : Ev (fun k => spec_ReadJournal.f k l) (journalR l) := by
  unfold spec_ReadJournal.f journalR
  exact Ev.ite (fun _ => Ev.now _) (fun _ => Ev.bind (ev_specJournal l hl hb) (Ev.now _))
theorem ev_heldInt64W (n : Nat) (m : Int) (hx : n ≤ 1048576) (h0 : 0 ≤ m) (h1 : m ≤ 1152921504606846976) :
    Ev (fun k => laws_heldInt64S.f k ((List.range n).map fun (i : Nat) => m + (i : Int)) m) (m + n) := by
  unfold laws_heldInt64S.f
  generalize hy : (List.range n).map (fun (i : Nat) => m + (i : Int)) = y
  have hl : y.length = n := by subst hy; simp
  have h := ev_iter (fun k (s : Int) i => laws_heldInt64S.l0 k y s i) n (fun i => m + i) (m + n) ?_ ?_
  · simpa using h
  · refine Ev.succ ?_
    simp only [laws_heldInt64S.l0, hl, Int.lt_irrefl, if_false]
    exact Ev.now _
  · intro i hi r h
    refine Ev.succ ?_
    have hg : rd y (i : Int) = m + i := by rw [rd_get y i (by omega)]; subst hy; simp
    simp only [laws_heldInt64S.l0, hl, hg]
    refine Ev.pos (by omega) (Ev.pos (by omega) (Ev.pos trivial ?_))
    rw [show wrap64 (m + (i : Int) + 1) = m + ((i + 1 : Nat) : Int) by rw [wid (by omega) (by omega)]; omega]
    simp only [wsucc hi (show n ≤ 281474976710656 by omega)]
    exact h
theorem ev_heldOpS (x : List S37) (hx : x.length ≤ 1048576) (hin : ∀ y ∈ x, okIOp y) (m : Int) (h0 : 0 ≤ m) (h1 : m ≤ 1048576) : Ev (fun k => laws_heldOpS.f k (marksO m x).2 m) (marksO m x).1 := by
  unfold laws_heldOpS.f
  have key : ∀ (d i : Nat) (a : List S37) (m : Int), i + d = x.length → a.length = i → 0 ≤ m → m ≤ 1048576 + 4194304 * (i : Int) → Ev (fun k => laws_heldOpS.l0 k (a ++ (marksO m (x.drop i)).2) m (i : Int)) (marksO m (x.drop i)).1 := by
    intro d
    induction d with
    | zero =>
      intro i a m hi ha hm hm'
      rw [List.drop_eq_nil_of_le (by omega)]
      refine Ev.succ ?_
      simp only [laws_heldOpS.l0, marksO, List.append_nil]
      exact Ev.neg (by omega) (Ev.now _)
    | succ d ih =>
      intro i a m hi ha hm hm'
      have hl : i < x.length := by omega
      obtain ⟨_, _, h3, h7⟩ := hin x[i] (List.getElem_mem hl)
      rw [List.drop_eq_getElem_cons hl]
      simp only [marksO]
      have ihx := ih (i + 1) (a ++ [markO m x[i].f3.length x[i].f7.length]) (m + 6 + x[i].f3.length + x[i].f7.length) (by omega) (by simp; omega) (by omega) (by omega)
      have hlen := (marksO_ge (x.drop (i + 1)) (m + 6 + x[i].f3.length + x[i].f7.length)).2
      generalize marksO (m + 6 + x[i].f3.length + x[i].f7.length) (x.drop (i + 1)) = M at ihx hlen ⊢
      refine Ev.succ ?_
      have hg : rd_T37 (a ++ markO m x[i].f3.length x[i].f7.length :: M.2) (i : Int) = markO m x[i].f3.length x[i].f7.length := by
        rw [rd_Op_get _ i (by simp; omega), List.getElem_append_right (by omega)]
        simp [ha]
      simp only [laws_heldOpS.l0, hg, wsucc hl (show x.length ≤ 281474976710656 by omega)]
      have e1 : wrap64 (m + 1) = m + 1 := wid (by omega) (by omega)
      have e2 : wrap64 (m + 1 + 1) = m + 2 := by rw [wid (by omega) (by omega)]; omega
      have e3 : wrap64 (m + 2 + 1) = m + 3 := by rw [wid (by omega) (by omega)]; omega
      have e4 : wrap64 (m + 3 + (x[i].f3.length : Int) + 1) = m + 4 + x[i].f3.length := by rw [wid (by omega) (by omega)]; omega
      have e5 : wrap64 (m + 4 + (x[i].f3.length : Int) + 1) = m + 5 + x[i].f3.length := by rw [wid (by omega) (by omega)]; omega
      have e6 : wrap64 (m + 5 + (x[i].f3.length : Int) + 1) = m + 6 + x[i].f3.length := by rw [wid (by omega) (by omega)]; omega
      simp only [e1, e2, e3]
      refine Ev.pos (by simp only [List.length_append, List.length_cons]; omega) (Ev.pos (by omega) (Ev.pos rfl (Ev.bind (ev_markText (m + 1) (by omega)) (Ev.pos rfl (Ev.bind (ev_markText (m + 2) (by omega)) (Ev.pos rfl (Ev.bind (ev_heldInt64W x[i].f3.length (m + 3) h3 (by omega) (by omega)) (Ev.neg (by omega) ?_))))))))
      simp only [e4, e5, e6]
      refine Ev.pos (by first | rfl | trivial) (Ev.pos (by first | rfl | trivial) (Ev.pos (by first | rfl | trivial) (Ev.bind (ev_heldByteB x[i].f7.length (m + 6 + x[i].f3.length) (by omega) (by omega) (by omega)) (Ev.neg (by omega) ?_))))
      rw [List.append_assoc] at ihx
      exact ihx
  have := key x.length 0 [] m (by omega) rfl h0 (by omega)
  simpa using this
theorem FnExactReadJournal : ∀ (l0 : List Int), (l0.length * 1 ≤ 140737488351232 ∧ ∀ x1_ ∈ l0, (Lit.int .u8 x1_).wf = true) → ∃ k, laws_FnExactReadJournal.f k l0 = some true := by
  rintro l0 ⟨_, hw⟩
  apply Ev.get
  unfold laws_FnExactReadJournal.f
  by_cases hl : (l0.length : Int) > 1048576
  · exact Ev.pos hl (Ev.now _)
  refine Ev.neg hl ?_
  have hl' : l0.length ≤ 1048576 := by omega
  have hb : Bytes l0 := fun x hx => by have := hw x hx; simp only [Lit.wf, Bool.and_eq_true, decide_eq_true_eq] at this; exact this
  have hto := ev_toByteS l0 hl'
  have hs := ev_specReadJournal l0 hl' hb
  have hi := ev_implReadJournal l0 hl' hb
  obtain ⟨c, u, x, hR, hx, hin⟩ : ∃ (c u : Int) (x : List S37), journalR l0 = (c, u, x) ∧ x.length ≤ 1048576 ∧ ∀ y ∈ x, okIOp y := by
    have ok := readJ_ok l0 hl' hb (l0.length + 1) 0 (by omega)
    unfold journalR
    split
    · exact ⟨2, 0, [], rfl, by simp, by simp⟩
    · exact ⟨_, _, _, rfl, by omega, ok.1⟩
  rw [hR] at hs hi
  have heq : Ev (fun k => laws_eqOpsResult.f k c u x c u x) true := by
    unfold laws_eqOpsResult.f
    exact Ev.pos rfl (Ev.pos rfl (Ev.bind (ev_eqOpS x hx hin) (Ev.pos rfl (Ev.now _))))
  have hm : Ev (fun k => laws_markOpsResult.f k c u x 1) (marksO 1 x) := ev_markOpS x hx hin 1 (by omega) (by omega)
  have hge := (marksO_ge x 1).1
  have hh : Ev (fun k => laws_heldOpsResult.f k c u (marksO 1 x).2 1) (marksO 1 x).1 := by
    unfold laws_heldOpsResult.f
    exact Ev.bind (ev_heldOpS x hx hin 1 (by omega) (by omega)) (Ev.neg (by omega) (Ev.now _))
  generalize marksO 1 x = M at hm hh hge
  refine Ev.bind hto (Ev.bind hs (Ev.bind hto (Ev.bind hi (Ev.bind heq (Ev.pos rfl (Ev.bind hto (Ev.bind (ev_eqByteS l0 hl') (Ev.pos rfl (Ev.bind (ev_markByteB l0 1 (by omega) (by omega) (by omega)) (Ev.neg (by simp only; omega) (Ev.bind heq (Ev.succ ?_))))))))))))
  simp only [laws_FnExactReadJournal.j0]
  refine Ev.neg (by simp) (Ev.bind hm (Ev.bind hh (Ev.neg (by omega) (Ev.pos rfl ?_))))
  exact Ev.bind hto (Ev.bind hi (Ev.bind heq (Ev.pos rfl (Ev.bind hh (Ev.neg (by omega) (Ev.pos rfl (Ev.now _)))))))

end Go.Proofs.Ytehdbobpbcjmeaa.Pure

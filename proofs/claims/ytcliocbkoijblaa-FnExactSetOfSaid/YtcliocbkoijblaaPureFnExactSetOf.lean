/- The program's SetOf returns what the reference's SetOf returns, for every list of numbers. Conditions: none. -/
import Derived.Test.YtcliocbkoijblaaPFnExactSetOfx4
import Derived.Test.YtcliocbkoijblaaU
import Derived.Test.YtcliocbkoijblaaWSized
/-! The printed row names the words' lemma by a shorter name: it is told here by that name, too. -/
namespace Go.Proofs.Ytcliocbkoijblaa.PrintWords
open Go.ChangeShapes Go.WideShapes
theorem sized_ints {H : Type} {enc : TypeId × Value → H} {P : Program} {W : World} {base : Nat} {spare : Nat → Bool} {held : Bool} {t e : TypeId} {k : IntKind} {a : Option Addr} {len cap : Nat} {d : DataW H} {ps : List MemPlace} {ts : List TypeId} {ds : List (DataW H)} {j : Nat}
    (hsz : (DataW.weightsEach P ts ds).all (· ≤ reachBytes) = true) (ht : ts[j]? = some t) (hd : ds[j]? = some d) (hu : P.underlying t = some (.slice e)) (he : P.underlying e = some (.int k)) (hc : P.cellsOf e = 1) {B : Nat} (hB : P.bytesOf e = B)
    (h : DataW.Trod enc P W base spare held t (.slice a len cap) d ps) : len * B ≤ 140737488351232 :=
  Go.Proofs.YtcliocbkoijblaaW.PrintWords.sized_ints hsz ht hd hu he hc hB h
end Go.Proofs.Ytcliocbkoijblaa.PrintWords
namespace Go.Proofs.Ytcliocbkoijblaa.Pure
open Go.RowKit Go.Proofs.Ytcliocbkoijblaa.PFnExactSetOf Go.Proofs.YtcliocbkoijblaaW.PrintWords Go.Proofs.YtcliocbkoijblaaW.PrintLast Go.Proofs.Ytcliocbkoijblaa.U

theorem ev_toInt64S (x : List Int) (hx : x.length ≤ 1048576) : Ev (fun k => laws_toInt64S.f k x) x := by
  unfold laws_toInt64S.f
  have h := ev_copy (fun k y i => laws_toInt64S.l0 k x y i) x (fun a => a) (fun y => y) ?_ ?_ (List.replicate x.length 0) (by simp)
  · simp only [List.map_id'] at h
    refine Ev.pos (by omega) (Ev.pos (by omega) ?_)
    simp only [Int.toNat_natCast]
    exact h
  · refine Ev.succ ?_
    simp only [laws_toInt64S.l0, Int.lt_irrefl, if_false]
    exact Ev.now _
  · intro i hi y hy r h
    refine Ev.succ ?_
    simp only [laws_toInt64S.l0]
    refine Ev.pos (by omega) (Ev.pos (by omega) (Ev.pos (by omega) ?_))
    simp only [Int.toNat_natCast, rd_get x i hi, wsucc hi (show x.length ≤ 281474976710656 by omega)]
    exact h
theorem ev_eqInt64S (x : List Int) (hx : x.length ≤ 1048576) : Ev (fun k => laws_eqInt64S.f k x x) true := by
  unfold laws_eqInt64S.f
  refine Ev.pos rfl ?_
  refine ev_iter (fun k (_ : Unit) i => laws_eqInt64S.l0 k x x i) x.length (fun _ => ()) true ?_ ?_
  · refine Ev.succ ?_
    simp only [laws_eqInt64S.l0, Int.lt_irrefl, if_false]
    exact Ev.now _
  · intro i hi r h
    refine Ev.succ ?_
    simp only [laws_eqInt64S.l0]
    refine Ev.pos (by omega) (Ev.pos (by omega) (Ev.pos (by omega) (Ev.pos trivial ?_)))
    simp only [wsucc hi (show x.length ≤ 281474976710656 by omega)]
    exact h
theorem ev_markInt64S (x : List Int) (m : Int) (hx : x.length ≤ 1048576) (h0 : 0 ≤ m) (h1 : m ≤ 1048576) : ∃ y, Ev (fun k => laws_markInt64S.f k x m) (m + x.length, y) := by
  refine ⟨over x (fun i => m + i) x.length, ?_⟩
  unfold laws_markInt64S.f
  have h := ev_iter (fun k (s : List Int × Int) i => laws_markInt64S.l0 k s.1 s.2 i) x.length (fun i => (over x (fun i => m + i) i, m + i)) (m + x.length, over x (fun i => m + i) x.length) ?_ ?_
  · simpa [over_zero] using h
  · refine Ev.succ ?_
    simp only [laws_markInt64S.l0, over_length x _ _ (Nat.le_refl _), Int.lt_irrefl, if_false]
    exact Ev.now _
  · intro i hi r h
    refine Ev.succ ?_
    simp only [laws_markInt64S.l0, over_length x _ i (by omega)]
    refine Ev.pos (by omega) (Ev.pos (by omega) ?_)
    simp only [wsucc hi (show x.length ≤ 281474976710656 by omega), Int.toNat_natCast, over_set x (fun i => m + (i : Int)) i hi]
    rw [show wrap64 (m + (i : Int) + 1) = m + ((i + 1 : Nat) : Int) by rw [wid (by omega) (by omega)]; omega]
    exact h
def S (n t : Int) : S81 := ⟨n, t⟩
theorem rd_T81_get (x : List S81) (i : Nat) (h : i < x.length) : rd_T81 x (i : Int) = x[i] := by simp [rd_T81, List.getD_eq_getElem?_getD, h]
theorem ev_eqRangeS (x : List S81) (hx : x.length ≤ 1048576) : Ev (fun k => laws_eqRangeS.f k x x) true := by
  unfold laws_eqRangeS.f
  refine Ev.pos rfl ?_
  refine ev_iter (fun k (_ : Unit) i => laws_eqRangeS.l0 k x x i) x.length (fun _ => ()) true ?_ ?_
  · refine Ev.succ ?_
    simp only [laws_eqRangeS.l0, Int.lt_irrefl, if_false]
    exact Ev.now _
  · intro i hi r h
    refine Ev.succ ?_
    simp only [laws_eqRangeS.l0, laws_eqRange.f]
    refine Ev.pos (by omega) (Ev.pos (by omega) (Ev.pos (by omega) ?_))
    simp only [if_true, Option.bind_some, wsucc hi (show x.length ≤ 281474976710656 by omega)]
    exact h
theorem ev_eqRangesResult (c : Int) (x : List S81) (hx : x.length ≤ 1048576) : Ev (fun k => laws_eqRangesResult.f k c x c x) true := by
  unfold laws_eqRangesResult.f
  refine Ev.pos rfl (Ev.bind (ev_eqRangeS x hx) ?_)
  exact Ev.pos rfl (Ev.now _)
theorem ev_markRangeS (x : List S81) (m : Int) (hx : x.length ≤ 1048576) (h0 : 0 ≤ m) (h1 : m ≤ 1048576) :
    ∃ y, Ev (fun k => laws_markRangeS.f k x m) (m + 2 * x.length, y) ∧ Ev (fun k => laws_heldRangeS.f k y m) (m + 2 * x.length) := by
  refine ⟨over x (fun i => ⟨m + 2 * i, m + 2 * i + 1⟩) x.length, ?_, ?_⟩
  · unfold laws_markRangeS.f
    have h := ev_iter (fun k (s : List S81 × Int) i => laws_markRangeS.l0 k s.1 s.2 i) x.length (fun i => (over x (fun i => ⟨m + 2 * i, m + 2 * i + 1⟩) i, m + 2 * i)) (m + 2 * x.length, over x (fun i => ⟨m + 2 * i, m + 2 * i + 1⟩) x.length) ?_ ?_
    · simpa [over_zero] using h
    · refine Ev.succ ?_
      simp only [laws_markRangeS.l0, over_length x _ _ (Nat.le_refl _), Int.lt_irrefl, if_false]
      exact Ev.now _
    · intro i hi r h
      refine Ev.succ ?_
      have hl := over_length x (fun i => (⟨m + 2 * i, m + 2 * i + 1⟩ : S81)) i (by omega)
      simp only [laws_markRangeS.l0, hl]
      refine Ev.pos (by omega) (Ev.pos (by omega) ?_)
      simp only [Option.bind_some, wsucc hi (show x.length ≤ 281474976710656 by omega), Int.toNat_natCast, List.set_set]
      rw [show wrap64 (m + 2 * (i : Int) + 1) = m + 2 * (i : Int) + 1 by rw [wid (by omega) (by omega)]]
      rw [show wrap64 (m + 2 * (i : Int) + 1 + 1) = m + 2 * ((i + 1 : Nat) : Int) by rw [wid (by omega) (by omega)]; omega]
      rw [rd_T81_get _ i (by simp [hl, hi])]
      simp only [List.getElem_set_self]
      rw [over_set x (fun i => (⟨m + 2 * i, m + 2 * i + 1⟩ : S81)) i hi]
      exact h
  · unfold laws_heldRangeS.f
    have hl := over_length x (fun i => (⟨m + 2 * i, m + 2 * i + 1⟩ : S81)) x.length (by omega)
    generalize hy : over x (fun i => (⟨m + 2 * i, m + 2 * i + 1⟩ : S81)) x.length = y at *
    have h := ev_iter (fun k (s : Int) i => laws_heldRangeS.l0 k y s i) x.length (fun i => m + 2 * i) (m + 2 * x.length) ?_ ?_
    · simpa using h
    · refine Ev.succ ?_
      simp only [laws_heldRangeS.l0, hl, Int.lt_irrefl, if_false]
      exact Ev.now _
    · intro i hi r h
      refine Ev.succ ?_
      have hg : rd_T81 y (i : Int) = ⟨m + 2 * i, m + 2 * i + 1⟩ := by
        rw [rd_T81_get _ i (by omega)]; subst hy; simp [over_all]
      simp only [laws_heldRangeS.l0, hl, hg]
      refine Ev.pos (by omega) (Ev.pos (by omega) (Ev.pos trivial ?_))
      rw [show wrap64 (m + 2 * (i : Int) + 1) = m + 2 * (i : Int) + 1 by rw [wid (by omega) (by omega)]]
      rw [show wrap64 (m + 2 * (i : Int) + 1 + 1) = m + 2 * ((i + 1 : Nat) : Int) by rw [wid (by omega) (by omega)]; omega]
      simp only [wsucc hi (show x.length ≤ 281474976710656 by omega)]
      exact Ev.pos trivial h

/-! SetOf -/
theorem run_guard {σ ρ α : Type} (p : α → Bool) (g : σ → α → σ) (e : ρ) (l : List α) (s : σ) :
    run (fun s a => if p a = true then .inr (g s a) else .inl e) l s = if l.all p = true then .inr (l.foldl g s) else .inl e := by
  induction l generalizing s with
  | nil => simp [run]
  | cons a l ih =>
    cases h : p a with
    | true => rw [run_inr (s' := g s a) (by simp [h]), ih]; simp [h]
    | false => rw [run_inl (r := e) (by simp [h])]; simp [h]
theorem find_guard {α ρ : Type} (p : α → Bool) (e f : ρ) (l : List α) :
    ((l.findSome? fun a => if p a = true then none else some e).getD f) = if l.all p = true then f else e := by
  induction l with
  | nil => simp
  | cons a l ih => cases h : p a <;> simp [h, ih]
def okAt (x : List Int) (i : Nat) : Bool := decide (1 ≤ x.getD i 0 ∧ x.getD i 0 ≤ 999 ∧ (0 < i → x.getD (i - 1) 0 < x.getD i 0))
def addN (acc : List S81) (n : Int) : List S81 :=
  if acc ≠ [] ∧ (acc.getD (acc.length - 1) z81).f1 = n - 1 then acc.set (acc.length - 1) ⟨(acc.getD (acc.length - 1) z81).f0, n⟩ else acc ++ [⟨n, n⟩]
theorem addN_length (acc : List S81) (n : Int) : (addN acc n).length ≤ acc.length + 1 := by unfold addN; split <;> simp
theorem addN_last (acc : List S81) (n : Int) : addN acc n ≠ [] ∧ ((addN acc n).getD ((addN acc n).length - 1) z81).f1 = n := by
  unfold addN
  split
  · rename_i h
    have : 0 < acc.length := List.length_pos_iff.2 h.1
    refine ⟨by simp [h.1], ?_⟩
    rw [List.length_set, List.getD_eq_getElem?_getD, List.getElem?_set_self (by omega)]; rfl
  · exact ⟨by simp, by simp [List.getD_eq_getElem?_getD]⟩
def setOf (x : List Int) : Int × List S81 :=
  if x.length < 1 ∨ 60 < x.length then (2, []) else
  if (List.range x.length).all (okAt x) = true then
    (if 8 < ((List.range x.length).foldl (fun acc i => addN acc (x.getD i 0)) []).length then (2, []) else (0, (List.range x.length).foldl (fun acc i => addN acc (x.getD i 0)) []))
  else (3, [])
theorem foldl_length (x : List Int) (l : List Nat) (acc : List S81) : (l.foldl (fun acc i => addN acc (x.getD i 0)) acc).length ≤ acc.length + l.length := by
  induction l generalizing acc with
  | nil => simp
  | cons a l ih => have h1 := ih (addN acc (x.getD a 0)); have h2 := addN_length acc (x.getD a 0); simp only [List.foldl_cons, List.length_cons]; omega
theorem setOf_length (x : List Int) : (setOf x).2.length ≤ 8 := by
  unfold setOf
  split
  · simp
  · split
    · split
      · simp
      · simp only; omega
    · simp
theorem getD_of (x : List Int) (i : Nat) (h : i < x.length) : x.getD i 0 = x[i] := by simp [List.getD_eq_getElem?_getD, h]
theorem within_iff (a b c : Int) : impl_within.f a b c = some (decide (b ≤ a ∧ a ≤ c)) := by
  unfold impl_within.f
  by_cases h : b ≤ a <;> simp [h]
theorem l1In_iff (a b c : Int) : spec_l1In.f a b c = some (decide (b ≤ a ∧ a ≤ c)) := by
  unfold spec_l1In.f
  by_cases h : b ≤ a <;> simp [h]
theorem ev_spec (x : List Int) (hx : x.length ≤ 1048576) : Ev (fun k => spec_SetOf.f k x) (setOf x) := by
  unfold spec_SetOf.f
  by_cases h1 : x.length < 1
  · refine Ev.pos (by omega) (Ev.succ ?_)
    simp only [spec_SetOf.j0, if_true]
    unfold setOf; rw [if_pos (by omega)]; exact Ev.now _
  refine Ev.neg (by omega) (Ev.succ ?_)
  by_cases h2 : 60 < x.length
  · simp only [spec_SetOf.j0]
    refine Ev.pos (decide_eq_true (by omega)) ?_
    unfold setOf; rw [if_pos (by omega)]; exact Ev.now _
  simp only [spec_SetOf.j0]
  refine Ev.neg (by simp; omega) ?_
  have h := ev_run (fun k acc i => spec_SetOf.l0 k x acc i) (List.range x.length) (fun acc i => if okAt x i = true then .inr (addN acc (x.getD i 0)) else .inl (3, [])) (fun acc => if 8 < acc.length then (2, []) else (0, acc)) (fun i acc => acc.length ≤ i ∧ (0 < i → acc ≠ [] ∧ (acc.getD (acc.length - 1) z81).f1 = x.getD (i - 1) 0 ∧ 1 ≤ x.getD (i - 1) 0)) ?_ ?_ ?_ 0 [] (by omega) (by simp)
  · rw [List.drop_zero, run_guard] at h
    unfold setOf; rw [if_neg (by omega)]
    by_cases hall : (List.range x.length).all (okAt x) = true
    · rw [if_pos hall] at h ⊢; exact h
    · rw [if_neg hall] at h ⊢; exact h
  · intro acc _
    rw [List.length_range]
    refine Ev.succ ?_
    simp only [spec_SetOf.l0, Int.lt_irrefl, if_false]
    by_cases hc : 8 < acc.length
    · rw [if_pos hc]; exact Ev.pos (by omega) (Ev.now _)
    · rw [if_neg hc]; exact Ev.neg (by omega) (Ev.now _)
  · intro i hi acc r hI hr
    rw [List.length_range] at hi
    simp only [List.getElem_range] at hr
    split at hr
    · cases hr
    rename_i hok
    cases hr
    simp only [okAt, decide_eq_true_eq] at hok
    refine Ev.succ ?_
    simp only [spec_SetOf.l0]
    refine Ev.pos (by omega) (Ev.pos (by omega) ?_)
    simp only [rd_get x i hi, l1In_iff, Option.bind_some]
    rw [getD_of x i hi] at hok
    by_cases hw : 1 ≤ x[i] ∧ x[i] ≤ 999
    · refine Ev.pos (decide_eq_true hw) ?_
      by_cases hi0 : 0 < i
      · rw [getD_of x (i - 1) (by omega)] at hok
        refine Ev.pos (by omega) ?_
        simp only [wpred hi0 (show i ≤ 281474976710656 by omega), rd_get x (i - 1) (show i - 1 < x.length by omega)]
        refine Ev.pos (by omega) (Ev.pos (by omega) (Ev.succ ?_))
        simp only [spec_SetOf.j2]
        exact Ev.pos (decide_eq_true (by omega)) (Ev.now _)
      · exact absurd ⟨hw.1, hw.2, fun h => absurd h hi0⟩ hok
    · refine Ev.neg (by simpa using hw) (Ev.succ ?_)
      simp only [spec_SetOf.j2, if_true]
      exact Ev.now _
  · intro i hi acc acc' hI hr
    rw [List.length_range] at hi
    simp only [List.getElem_range] at hr
    by_cases hok : okAt x i = true
    case neg => rw [if_neg hok] at hr; cases hr
    rw [if_pos hok] at hr
    cases hr
    simp only [okAt, decide_eq_true_eq] at hok
    rw [getD_of x i hi] at hok ⊢
    have hlast := addN_last acc x[i]
    have hlen := addN_length acc x[i]
    refine ⟨⟨by omega, fun _ => ⟨hlast.1, by rw [hlast.2, Nat.add_sub_cancel, getD_of x i hi], by rw [Nat.add_sub_cancel, getD_of x i hi]; exact hok.1⟩⟩, fun r h => ?_⟩
    refine Ev.succ ?_
    simp only [spec_SetOf.l0]
    refine Ev.pos (by omega) (Ev.pos (by omega) ?_)
    simp only [rd_get x i hi, l1In_iff, Option.bind_some]
    refine Ev.pos (decide_eq_true ⟨hok.1, hok.2.1⟩) ?_
    by_cases hi0 : 0 < i
    · obtain ⟨hne, hl1, hp1⟩ := hI.2 hi0
      have hpos : 0 < acc.length := List.length_pos_iff.2 hne
      have hok2 := hok.2.2 hi0
      rw [getD_of x (i - 1) (by omega)] at hok2 hl1 hp1
      refine Ev.pos (by omega) ?_
      simp only [wpred hi0 (show i ≤ 281474976710656 by omega), rd_get x (i - 1) (show i - 1 < x.length by omega)]
      refine Ev.pos (by omega) (Ev.pos (by omega) (Ev.succ ?_))
      simp only [spec_SetOf.j2]
      refine Ev.neg (by simpa using hok2) (Ev.pos (by omega) ?_)
      simp only [wpred hi0 (show i ≤ 281474976710656 by omega), rd_get x (i - 1) (show i - 1 < x.length by omega)]
      refine Ev.pos (by omega) (Ev.pos (by omega) ?_)
      have hb := hok.1
      have hb2 := hok.2.1
      rw [wid (x := x[i - 1] + 1) (by omega) (by omega)]
      simp only [wpred hpos (show acc.length ≤ 281474976710656 by omega)]
      rw [rd_T81_get acc (acc.length - 1) (by omega)]
      have hg : acc.getD (acc.length - 1) z81 = acc[acc.length - 1] := by rw [List.getD_eq_getElem?_getD, List.getElem?_eq_getElem (by omega)]; rfl
      rw [hg] at hl1
      by_cases hadj : x[i] = x[i - 1] + 1
      · refine Ev.pos hadj (Ev.pos (by omega) (Ev.pos (by omega) ?_))
        simp only [wsucc hi (show x.length ≤ 281474976710656 by omega), Int.toNat_natCast]
        rw [addN, if_pos ⟨hne, by rw [hg]; omega⟩, hg] at h
        exact h
      · refine Ev.neg hadj (Ev.pos (by omega) ?_)
        simp only [wsucc hi (show x.length ≤ 281474976710656 by omega)]
        rw [addN, if_neg (by rw [hg]; intro hh; omega)] at h
        exact h
    · have : i = 0 := by omega
      subst this
      have hacc : acc = [] := List.length_eq_zero_iff.1 (by omega)
      subst hacc
      refine Ev.neg (by omega) (Ev.succ ?_)
      simp only [spec_SetOf.j2]
      refine Ev.neg (by simp) (Ev.neg (by omega) (Ev.pos (by simp) ?_))
      simp only [wsucc hi (show x.length ≤ 281474976710656 by omega)]
      exact h
theorem ev_areUids (x : List Int) (hx : x.length ≤ 1048576) : Ev (fun k => impl_areUids.f k x) ((List.range x.length).all (okAt x)) := by
  unfold impl_areUids.f
  have h := ev_findI (fun k i => impl_areUids.l0 k x x (x.length : Int) i) x.length (fun i => if okAt x i = true then none else some false) true ?_ ?_ ?_
  · rw [find_guard] at h
    by_cases hall : (List.range x.length).all (okAt x) = true
    · rw [if_pos hall] at h; rw [hall]; exact h
    · rw [if_neg hall] at h; rw [Bool.not_eq_true] at hall; rw [hall]; exact h
  · refine Ev.succ ?_
    simp only [impl_areUids.l0, Int.lt_irrefl, if_false]
    exact Ev.now _
  · intro i hi r hr
    split at hr
    · cases hr
    rename_i hok
    cases hr
    simp only [okAt, decide_eq_true_eq] at hok
    refine Ev.succ ?_
    simp only [impl_areUids.l0, impl_isUid.f]
    refine Ev.pos (by omega) (Ev.pos (by omega) (Ev.pos (by omega) ?_))
    simp only [rd_get x i hi, within_iff, Option.bind_some]
    rw [getD_of x i hi] at hok
    by_cases hw : 1 ≤ x[i] ∧ x[i] ≤ 999
    · refine Ev.pos (decide_eq_true hw) ?_
      by_cases hi0 : 0 < i
      · rw [getD_of x (i - 1) (by omega)] at hok
        refine Ev.pos (by omega) ?_
        simp only [wpred hi0 (show i ≤ 281474976710656 by omega), rd_get x (i - 1) (show i - 1 < x.length by omega)]
        exact Ev.pos (by omega) (Ev.pos (by omega) (Ev.pos (by omega) (Ev.now _)))
      · exact absurd ⟨hw.1, hw.2, fun h => absurd h hi0⟩ hok
    · exact Ev.neg (by simpa using hw) (Ev.now _)
  · intro i hi hr r h
    by_cases hok : okAt x i = true
    case neg => rw [if_neg hok] at hr; cases hr
    simp only [okAt, decide_eq_true_eq] at hok
    rw [getD_of x i hi] at hok
    refine Ev.succ ?_
    simp only [impl_areUids.l0, impl_isUid.f]
    refine Ev.pos (by omega) (Ev.pos (by omega) (Ev.pos (by omega) ?_))
    simp only [rd_get x i hi, within_iff, Option.bind_some]
    refine Ev.pos (decide_eq_true ⟨hok.1, hok.2.1⟩) ?_
    by_cases hi0 : 0 < i
    · have hok2 := hok.2.2 hi0
      rw [getD_of x (i - 1) (by omega)] at hok2
      refine Ev.pos (by omega) ?_
      simp only [wpred hi0 (show i ≤ 281474976710656 by omega), rd_get x (i - 1) (show i - 1 < x.length by omega)]
      refine Ev.pos (by omega) (Ev.pos (by omega) (Ev.neg (by omega) ?_))
      simp only [wsucc hi (show x.length ≤ 281474976710656 by omega)]
      exact h
    · refine Ev.neg (by omega) ?_
      simp only [wsucc hi (show x.length ≤ 281474976710656 by omega)]
      exact h
theorem ev_impl (x : List Int) (hx : x.length ≤ 1048576) : Ev (fun k => impl_SetOf.f k x) (setOf x) := by
  unfold impl_SetOf.f
  simp only [impl_length_int64.f, Option.bind_some, within_iff]
  unfold setOf
  by_cases h1 : x.length < 1 ∨ 60 < x.length
  · rw [if_pos h1]
    exact Ev.neg (by simp; omega) (Ev.now _)
  rw [if_neg h1]
  refine Ev.pos (decide_eq_true (by omega)) (Ev.bind (ev_areUids x hx) ?_)
  by_cases hall : (List.range x.length).all (okAt x) = true
  case neg => rw [if_neg hall]; exact Ev.neg hall (Ev.now _)
  rw [if_pos hall]
  refine Ev.pos hall ?_
  have h := ev_iter (fun k acc i => impl_SetOf.l0 k acc x (x.length : Int) i) x.length (fun i => (List.range i).foldl (fun acc i => addN acc (x.getD i 0)) []) (if 8 < ((List.range x.length).foldl (fun acc i => addN acc (x.getD i 0)) []).length then (2, []) else (0, (List.range x.length).foldl (fun acc i => addN acc (x.getD i 0)) [])) ?_ ?_
  · simpa using h
  · refine Ev.succ ?_
    simp only [impl_SetOf.l0, Int.lt_irrefl, if_false]
    generalize List.foldl (fun acc i => addN acc (x.getD i 0)) [] (List.range x.length) = acc
    by_cases hc : 8 < acc.length
    · rw [if_pos hc]; exact Ev.pos (by omega) (Ev.now _)
    · rw [if_neg hc]; exact Ev.neg (by omega) (Ev.now _)
  · intro i hi r h
    rw [List.range_succ, List.foldl_append, List.foldl_cons, List.foldl_nil] at h
    have hlen := foldl_length x (List.range i) []
    simp only [List.length_nil, List.length_range] at hlen
    generalize (List.range i).foldl (fun acc i => addN acc (x.getD i 0)) [] = acc at h hlen ⊢
    have hx1 : 1 ≤ x[i] := by
      have := List.all_eq_true.1 hall i (by simpa using hi)
      simp only [okAt, decide_eq_true_eq, getD_of x i hi] at this
      exact this.1
    have hx2 : x[i] ≤ 999 := by
      have := List.all_eq_true.1 hall i (by simpa using hi)
      simp only [okAt, decide_eq_true_eq, getD_of x i hi] at this
      exact this.2.1
    rw [getD_of x i hi] at h
    refine Ev.succ ?_
    simp only [impl_SetOf.l0]
    refine Ev.pos (by omega) (Ev.pos (by omega) (Ev.pos (by omega) ?_))
    simp only [rd_get x i hi]
    by_cases hpos : 0 < acc.length
    · refine Ev.pos (by omega) ?_
      simp only [wpred hpos (show acc.length ≤ 281474976710656 by omega)]
      refine Ev.pos (by omega) (Ev.pos (by omega) ?_)
      rw [rd_T81_get acc (acc.length - 1) (by omega), wid (x := x[i] - 1) (by omega) (by omega)]
      have hne : acc ≠ [] := List.length_pos_iff.1 hpos
      have hg : acc.getD (acc.length - 1) z81 = acc[acc.length - 1] := by rw [List.getD_eq_getElem?_getD, List.getElem?_eq_getElem (by omega)]; rfl
      by_cases hadj : acc[acc.length - 1].f1 = x[i] - 1
      · refine Ev.pos hadj ?_
        simp only [wsucc hi (show x.length ≤ 281474976710656 by omega), Int.toNat_natCast]
        rw [addN, if_pos ⟨hne, by rw [hg]; exact hadj⟩, hg] at h
        exact h
      · refine Ev.neg hadj (Ev.pos (by omega) ?_)
        simp only [wsucc hi (show x.length ≤ 281474976710656 by omega)]
        rw [addN, if_neg (by rw [hg]; exact fun hh => hadj hh.2)] at h
        exact h
    · have hacc : acc = [] := List.length_eq_zero_iff.1 (by omega)
      subst hacc
      refine Ev.neg (by simp) (Ev.pos (by simp) ?_)
      simp only [wsucc hi (show x.length ≤ 281474976710656 by omega)]
      exact h
theorem FnExactSetOf : laws_FnExactSetOf.Pure := by
  intro x _ _ _
  apply Ev.get
  unfold laws_FnExactSetOf.f
  by_cases hbig : (x.length : Int) > 1048576
  · exact Ev.pos hbig (Ev.now _)
  have hx : x.length ≤ 1048576 := by omega
  obtain ⟨y0, hy0⟩ := ev_markInt64S x 1 hx (by omega) (by omega)
  have hlen := setOf_length x
  obtain ⟨y, hy, hh⟩ := ev_markRangeS (setOf x).2 1 (by omega) (by omega) (by omega)
  have heq := ev_eqRangesResult (setOf x).1 (setOf x).2 (by omega)
  refine Ev.neg hbig ?_
  refine Ev.bind (ev_toInt64S x hx) (Ev.bind (ev_spec x hx) (Ev.bind (ev_toInt64S x hx) (Ev.bind (ev_impl x hx) (Ev.bind heq (Ev.pos rfl ?_)))))
  refine Ev.bind (ev_toInt64S x hx) (Ev.bind (ev_eqInt64S x hx) (Ev.pos rfl (Ev.bind hy0 ?_)))
  refine Ev.neg (by simp only; omega) (Ev.bind heq (Ev.succ ?_))
  simp only [laws_FnExactSetOf.j0]
  refine Ev.neg (by simp) ?_
  simp only [laws_markRangesResult.f, laws_heldRangesResult.f]
  refine Ev.bind (Ev.bind hy (Ev.now _)) (Ev.bind (Ev.bind hh (Ev.neg (by omega) (Ev.now _))) (Ev.neg (by omega) (Ev.pos rfl ?_)))
  refine Ev.bind (ev_toInt64S x hx) (Ev.bind (ev_impl x hx) (Ev.bind heq (Ev.pos rfl ?_)))
  exact Ev.bind (Ev.bind hh (Ev.neg (by omega) (Ev.now _))) (Ev.neg (by omega) (Ev.pos rfl (Ev.now _)))
end Go.Proofs.Ytcliocbkoijblaa.Pure

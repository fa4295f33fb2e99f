/- For every list of ranges, the program writes the same text as the reference. -/
import Derived.Test.YtnehephjliankaaDoorPFnExactSetTextx3
import Derived.Test.YtnehephjliankaaDoorU
namespace Go.Proofs.YtnehephjliankaaDoor.Pure
open Go.RowKit Go.Proofs.YtnehephjliankaaDoor.PFnExactSetText Go.Proofs.YtnehephjliankaaDoorW.PrintWords Go.Proofs.YtnehephjliankaaDoorW.PrintLast Go.Proofs.YtnehephjliankaaDoor.U
set_option linter.unusedSimpArgs false
set_option linter.unusedVariables false

theorem rd_Range_get (x : List S58) (i : Nat) (h : i < x.length) : rd_T58 x (i : Int) = x[i] := by simp [rd_T58, List.getD_eq_getElem?_getD, h]
def cvRange (x : S61) : S58 := ⟨x.f0, x.f1⟩
theorem rd_lRange_get (x : List S61) (i : Nat) (h : i < x.length) : rd_T61 x (i : Int) = x[i] := by simp [rd_T61, List.getD_eq_getElem?_getD, h]
theorem szRangeS_eq (x : List S61) (m : Int) (hx : x.length * 16 ≤ 140737488351232) (h0 : 0 ≤ m) (h1 : m ≤ 1048576) : laws_szRangeS.f x m = some (if m - x.length < 0 then -1 else m - x.length) := by
  unfold laws_szRangeS.f
  rw [wid (by omega) (by omega)]
  split <;> rfl
theorem ev_toRangeS (x : List S61) (hx : x.length ≤ 1048576) : Ev (fun k => laws_toRangeS.f k x) (x.map cvRange) := by
  unfold laws_toRangeS.f
  have h := ev_copy (fun k y i => laws_toRangeS.l0 k x y i) x cvRange (fun y => y) ?_ ?_ (List.replicate x.length z58) (by simp)
  · refine Ev.pos (by omega) (Ev.pos (by omega) ?_)
    simp only [Int.toNat_natCast]
    exact h
  · refine Ev.succ ?_
    simp only [laws_toRangeS.l0, Int.lt_irrefl, if_false]
    exact Ev.now _
  · intro i hi y hy r h
    refine Ev.succ ?_
    simp only [laws_toRangeS.l0, laws_toRange.f, Option.bind_some]
    refine Ev.pos (by omega) (Ev.pos (by omega) (Ev.pos (by omega) ?_))
    simp only [Int.toNat_natCast, rd_lRange_get x i hi, wsucc hi (show x.length ≤ 281474976710656 by omega)]
    exact h
theorem ev_eqRangeS (x : List S58) (hx : x.length ≤ 1048576) : Ev (fun k => laws_eqRangeS.f k x x) true := by
  unfold laws_eqRangeS.f
  refine Ev.pos rfl ?_
  refine ev_iter (fun k (_ : Unit) i => laws_eqRangeS.l0 k x x i) x.length (fun _ => ()) true ?_ ?_
  · refine Ev.succ ?_
    simp only [laws_eqRangeS.l0, Int.lt_irrefl, if_false]
    exact Ev.now _
  · intro i hi r h
    refine Ev.succ ?_
    simp only [laws_eqRangeS.l0, laws_eqRange.f]
    refine Ev.pos (by omega) (Ev.pos (by omega) (Ev.pos (by omega) ?_))
    simp only [if_true, Option.bind_some, wsucc hi (show x.length ≤ 281474976710656 by omega)]
    exact h
theorem within_eq (a b c : Int) : impl_within.f a b c = some (decide (b ≤ a ∧ a ≤ c)) := by
  unfold impl_within.f
  by_cases h : b ≤ a <;> simp [h]
theorem l1In_eq (a b c : Int) : spec_l1In.f a b c = some (decide (b ≤ a ∧ a ≤ c)) := by
  unfold spec_l1In.f
  by_cases h : b ≤ a <;> simp [h]
def okRange (r : S58) : Bool := decide ((0 ≤ r.f0 ∧ r.f0 ≤ 999) ∧ (0 ≤ r.f1 ∧ r.f1 ≤ 999))
def rangesFault (x : List S58) : Int := if x.length < 1 ∨ 8 < x.length then 2 else if x.all okRange = true then 0 else 3
theorem ev_l11Fault (x : List S58) (hx : x.length ≤ 1048576) : Ev (fun k => spec_l11Fault.f k x) (rangesFault x) := by
  unfold spec_l11Fault.f rangesFault
  by_cases h1 : x.length < 1
  · rw [if_pos (by omega)]
    refine Ev.pos (by omega) (Ev.succ ?_)
    simp only [spec_l11Fault.j0, if_true]
    exact Ev.now _
  refine Ev.neg (by omega) (Ev.succ ?_)
  simp only [spec_l11Fault.j0]
  by_cases h2 : 8 < x.length
  · rw [if_pos (by omega)]
    exact Ev.pos (decide_eq_true (by omega)) (Ev.now _)
  rw [if_neg (by omega)]
  refine Ev.neg (by simp; omega) ?_
  have h := ev_find (fun k i => spec_l11Fault.l0 k x i) x (fun r => if okRange r = true then none else some 3) 0 ?_ ?_ ?_
  · rw [find_guard] at h; exact h
  · refine Ev.succ ?_
    simp only [spec_l11Fault.l0, Int.lt_irrefl, if_false]
    exact Ev.now _
  · intro i hi r hr
    by_cases hok : okRange x[i] = true
    · rw [if_pos hok] at hr; cases hr
    rw [if_neg hok] at hr; cases hr
    simp only [okRange, decide_eq_true_eq] at hok
    refine Ev.succ ?_
    simp only [spec_l11Fault.l0, rd_Range_get x i hi, l1In_eq, Option.bind_some]
    refine Ev.pos (by omega) (Ev.pos (by omega) ?_)
    by_cases ha : 0 ≤ x[i].f0 ∧ x[i].f0 ≤ 999
    · refine Ev.pos (decide_eq_true ha) (Ev.neg ?_ (Ev.now _))
      simp only [decide_eq_true_eq]; exact fun hb => hok ⟨ha, hb⟩
    · exact Ev.neg (by simpa using ha) (Ev.now _)
  · intro i hi hr r h
    by_cases hok : okRange x[i] = true
    case neg => rw [if_neg hok] at hr; cases hr
    simp only [okRange, decide_eq_true_eq] at hok
    refine Ev.succ ?_
    simp only [spec_l11Fault.l0, rd_Range_get x i hi, l1In_eq, Option.bind_some]
    refine Ev.pos (by omega) (Ev.pos (by omega) (Ev.pos (decide_eq_true hok.1) (Ev.pos (decide_eq_true hok.2) ?_)))
    simp only [wsucc hi (show x.length ≤ 281474976710656 by omega)]
    exact h
theorem ev_implRangesFault (x : List S58) (hx : x.length ≤ 1048576) : Ev (fun k => impl_RangesFault.f k x) (rangesFault x) := by
  unfold impl_RangesFault.f rangesFault
  simp only [impl_Range.f, within_eq, Option.bind_some]
  by_cases h1 : x.length < 1 ∨ 8 < x.length
  · rw [if_pos h1]
    exact Ev.neg (by simp; omega) (Ev.now _)
  rw [if_neg h1]
  refine Ev.pos (decide_eq_true (by omega)) ?_
  have h := ev_find (fun k i => impl_RangesFault.l0 k x (x.length : Int) i) x (fun r => if okRange r = true then none else some 3) 0 ?_ ?_ ?_
  · rw [find_guard] at h; exact h
  · refine Ev.succ ?_
    simp only [impl_RangesFault.l0, Int.lt_irrefl, if_false]
    exact Ev.now _
  · intro i hi r hr
    by_cases hok : okRange x[i] = true
    · rw [if_pos hok] at hr; cases hr
    rw [if_neg hok] at hr; cases hr
    simp only [okRange, decide_eq_true_eq] at hok
    refine Ev.succ ?_
    simp only [impl_RangesFault.l0, rd_Range_get x i hi, within_eq, Option.bind_some]
    refine Ev.pos (by omega) (Ev.pos (by omega) (Ev.pos (by omega) ?_))
    by_cases ha : 0 ≤ x[i].f0 ∧ x[i].f0 ≤ 999
    · refine Ev.pos (decide_eq_true ha) (Ev.neg ?_ (Ev.now _))
      simp only [decide_eq_true_eq]; exact fun hb => hok ⟨ha, hb⟩
    · exact Ev.neg (by simpa using ha) (Ev.now _)
  · intro i hi hr r h
    by_cases hok : okRange x[i] = true
    case neg => rw [if_neg hok] at hr; cases hr
    simp only [okRange, decide_eq_true_eq] at hok
    refine Ev.succ ?_
    simp only [impl_RangesFault.l0, rd_Range_get x i hi, within_eq, Option.bind_some]
    refine Ev.pos (by omega) (Ev.pos (by omega) (Ev.pos (by omega) (Ev.pos (decide_eq_true hok.1) (Ev.pos (decide_eq_true hok.2) ?_))))
    simp only [wsucc hi (show x.length ≤ 281474976710656 by omega)]
    exact h
-- needs:
def ba (l : List UInt8) : ByteArray := ⟨l.toArray⟩
theorem ba_size (l : List UInt8) : (ba l).size = l.length := by simp [ba, ByteArray.size]
theorem ba_append (a b : List UInt8) : ba a ++ ba b = ba (a ++ b) := by
  apply ByteArray.ext
  simp [ba, ByteArray.data_append]
theorem ba_data (l : List UInt8) : (ba l).data.toList = l := by simp [ba]
def numL (n : Int) : List UInt8 := if n = 0 then [42] else Lib.decDigits n.toNat
theorem decDigits_le {u : Nat} (h : u < 1000) : (Lib.decDigits u).length ≤ 3 := by
  by_cases h1 : u < 10
  · rw [Lib.decDigits, dif_pos h1]; simp
  · rw [Lib.decDigits, dif_neg h1]
    by_cases h2 : u / 10 < 10
    · rw [Lib.decDigits, dif_pos h2]; simp
    · rw [Lib.decDigits, dif_neg h2, Lib.decDigits, dif_pos (by omega)]; simp
theorem numL_le {n : Int} (h0 : 0 ≤ n) (h1 : n ≤ 999) : (numL n).length ≤ 3 := by
  unfold numL
  split
  · simp
  · exact decDigits_le (by omega)
theorem digit_eq (m : Nat) (h : m < 10) : strOfNums [(wrap64 (48 + (m : Int))) % 256] = ba [UInt8.ofNat (48 + m)] := by
  rw [wid (by omega) (by omega), show (48 + (m : Int)) % 256 = ((48 + m : Nat) : Int) by omega]
  rfl
theorem ev_l1Digits (n : Nat) (hn : n ≤ 999) : Ev (fun k => spec_l1Digits.f k (n : Int)) (ba (Lib.decDigits n)) := by
  induction n using Nat.strongRecOn with
  | _ n ih =>
    refine Ev.succ ?_
    simp only [spec_l1Digits.f]
    by_cases h : n < 10
    · refine Ev.pos (by omega) ?_
      rw [Lib.decDigits_one h, digit_eq n h]
      exact Ev.now _
    · refine Ev.neg (by omega) ?_
      have e1 : wrap64 (Int.tdiv (n : Int) 10) = ((n / 10 : Nat) : Int) := by rw [Int.tdiv_eq_ediv_of_nonneg (by omega), wid (by omega) (by omega)]; omega
      have e2 : Int.tmod (n : Int) 10 = ((n % 10 : Nat) : Int) := by rw [Int.tmod_eq_emod_of_nonneg (by omega)]; omega
      rw [e1, e2]
      refine Ev.bind (ih (n / 10) (by omega) (by omega)) ?_
      have hl := decDigits_le (u := n / 10) (by omega)
      rw [show Lib.decDigits n = Lib.decDigits (n / 10) ++ [UInt8.ofNat (48 + n % 10)] by rw [Lib.decDigits, dif_neg h]]
      simp only [Option.bind_some, digit_eq (n % 10) (show n % 10 < 10 by omega), ba_append, ba_size]
      exact Ev.pos (by simp only [List.length_singleton]; omega) (Ev.now _)
theorem ev_l11Number (n : Int) (h0 : 0 ≤ n) (h1 : n ≤ 999) : Ev (fun k => spec_l11Number.f k n) (ba (numL n)) := by
  unfold spec_l11Number.f numL
  by_cases h : n = 0
  · rw [if_pos h]; exact Ev.pos h (Ev.now _)
  · rw [if_neg h]
    obtain ⟨m, rfl⟩ := Int.eq_ofNat_of_zero_le h0
    exact Ev.neg h (Ev.bind (ev_l1Digits m (by omega)) (Ev.now _))
theorem endText_eq (n : Int) (h0 : 0 ≤ n) (h1 : n ≤ 999) : impl_endText.f n = some (ba (numL n)) := by
  unfold impl_endText.f impl_decimal.f strconv_FormatInt.f numL
  by_cases h : n = 0
  · rw [if_pos h, if_pos h]; rfl
  · rw [if_neg h, if_neg h, if_pos ⟨rfl, by omega, by omega⟩]
    obtain ⟨m, rfl⟩ := Int.eq_ofNat_of_zero_le h0
    simp only [Option.bind_some, Lib.itoa_nonneg, Int.toNat_natCast]
    rfl
def wordL (r : S58) : List UInt8 := if r.f0 = r.f1 then numL r.f0 else numL r.f0 ++ (58 :: numL r.f1)
def textL (x : List S58) : List UInt8 := Lib.join (x.map wordL) [44]
theorem wordL_le {r : S58} (h : okRange r = true) : (wordL r).length ≤ 7 := by
  simp only [okRange, decide_eq_true_eq] at h
  have h0 := numL_le h.1.1 h.1.2
  have h1 := numL_le h.2.1 h.2.2
  unfold wordL
  split
  · omega
  · simp only [List.length_append, List.length_cons]; omega
theorem join_snoc (xs : List (List UInt8)) (y sep : List UInt8) : Lib.join (xs ++ [y]) sep = if xs = [] then y else Lib.join xs sep ++ (sep ++ y) := by
  cases xs with
  | nil => simp [Lib.join_one]
  | cons x r =>
    rw [if_neg (by simp), List.cons_append, Lib.join_cons, Lib.join_cons]
    simp [Lib.joinTail]
theorem textL_succ (x : List S58) (i : Nat) (h : i < x.length) : textL (x.take (i + 1)) = if i = 0 then wordL x[i] else textL (x.take i) ++ (44 :: wordL x[i]) := by
  unfold textL
  rw [List.take_succ_eq_append_getElem h, List.map_append, List.map_cons, List.map_nil, join_snoc]
  by_cases h0 : i = 0
  · subst h0; simp
  · rw [if_neg h0, if_neg (by intro he; have := congrArg List.length he; simp only [List.length_map, List.length_take, List.length_nil] at this; omega)]; rfl
theorem textL_le (x : List S58) (hx : x.all okRange = true) (i : Nat) (h : i ≤ x.length) : (textL (x.take i)).length ≤ 8 * i := by
  induction i with
  | zero => simp [textL, Lib.join_nil]
  | succ i ih =>
    have := ih (by omega)
    have hw := wordL_le (List.all_eq_true.1 hx x[i] (List.getElem_mem _))
    rw [textL_succ x i (by omega)]
    split
    · omega
    · simp only [List.length_append, List.length_cons]; omega
theorem ev_l11Text (x : List S58) (hl : x.length ≤ 8) (hx : x.all okRange = true) : Ev (fun k => spec_l11Text.f k x) (ba (textL x)) := by
  unfold spec_l11Text.f
  have h := ev_iter (fun k (s : ByteArray) i => spec_l11Text.l0 k x s i) x.length (fun i => ba (textL (x.take i))) (ba (textL x)) ?_ ?_
  · exact h
  · refine Ev.succ ?_
    simp only [spec_l11Text.l0, Int.lt_irrefl, if_false, List.take_length]
    exact Ev.now _
  · intro i hi r h
    have hk := List.all_eq_true.1 hx x[i] (List.getElem_mem _)
    simp only [okRange, decide_eq_true_eq] at hk
    have h0 := numL_le hk.1.1 hk.1.2
    have h1 := numL_le hk.2.1 hk.2.2
    have ht := textL_le x hx i (by omega)
    refine Ev.succ ?_
    simp only [spec_l11Text.l0]
    refine Ev.pos (by omega) ?_
    have step : ∀ p : List UInt8, p.length ≤ 100 → textL (x.take (i + 1)) = p ++ wordL x[i] → Ev (fun k => spec_l11Text.j1 k x (ba p) (i : Int)) r := by
      intro p hp he
      refine Ev.succ ?_
      simp only [spec_l11Text.j1, rd_Range_get x i hi, wsucc hi (show x.length ≤ 281474976710656 by omega)]
      refine Ev.pos (by omega) (Ev.pos (by omega) (Ev.bind (ev_l11Number _ hk.1.1 hk.1.2) (Ev.pos (by rw [ba_size, ba_size]; omega) ?_)))
      simp only [ba_append]
      rw [he] at h
      unfold wordL at h
      by_cases hq : x[i].f0 = x[i].f1
      · rw [if_pos hq] at h
        exact Ev.pos hq h
      · rw [if_neg hq] at h
        refine Ev.neg hq (Ev.pos (by rw [ba_size, List.length_append]; omega) (Ev.bind (ev_l11Number _ hk.2.1 hk.2.2) ?_))
        rw [show ba (p ++ numL x[i].f0) ++ (⟨#[58]⟩ : ByteArray) = ba ((p ++ numL x[i].f0) ++ [58]) from ba_append _ [58]]
        refine Ev.pos (by rw [ba_size, ba_size, List.length_append, List.length_append, List.length_singleton]; omega) ?_
        rw [ba_append]
        simpa using h
    by_cases hz : i = 0
    · subst hz
      refine Ev.neg (by simp) ?_
      have := step [] (by simp) (by rw [textL_succ x 0 hi]; simp)
      simpa [textL, Lib.join_nil] using this
    · refine Ev.pos (by omega) (Ev.pos (by rw [ba_size]; omega) ?_)
      rw [show ba (textL (x.take i)) ++ (⟨#[44]⟩ : ByteArray) = ba (textL (x.take i) ++ [44]) from ba_append _ [44]]
      exact step _ (by simp only [List.length_append, List.length_singleton]; omega) (by rw [textL_succ x i hi, if_neg hz]; simp)
theorem ev_setText (x : List S58) (hl : x.length ≤ 8) (hx : x.all okRange = true) : Ev (fun k => impl_setText.f k x) (ba (textL x)) := by
  unfold impl_setText.f
  have h := ev_iter (fun k (s : List ByteArray) i => impl_setText.l0 k s x (x.length : Int) i) x.length (fun i => (x.take i).map (fun r => ba (wordL r))) (ba (textL x)) ?_ ?_
  · simpa using h
  · refine Ev.succ ?_
    simp only [impl_setText.l0, Int.lt_irrefl, if_false, List.take_length]
    have e : ((x.map (fun r => ba (wordL r))).map (fun y => y.data.toList)) = x.map wordL := by
      rw [List.map_map]
      exact List.map_congr_left (fun r _ => ba_data _)
    have hj : strings_Join.f (x.map (fun r => ba (wordL r))) (⟨#[44]⟩ : ByteArray) = some (ba (textL x)) := by
      unfold strings_Join.f
      rw [e]
      have ht := textL_le x hx x.length (Nat.le_refl _)
      rw [List.take_length] at ht
      rw [if_pos ⟨by rw [List.length_map]; omega, by change (textL x).length ≤ _; omega⟩]
      rfl
    rw [hj]
    exact Ev.now _
  · intro i hi r h
    have hk := List.all_eq_true.1 hx x[i] (List.getElem_mem _)
    simp only [okRange, decide_eq_true_eq] at hk
    have h0 := numL_le hk.1.1 hk.1.2
    have h1 := numL_le hk.2.1 hk.2.2
    refine Ev.succ ?_
    simp only [impl_setText.l0, rd_Range_get x i hi, endText_eq _ hk.1.1 hk.1.2, endText_eq _ hk.2.1 hk.2.2, Option.bind_some, wsucc hi (show x.length ≤ 281474976710656 by omega), List.length_map, List.length_take]
    refine Ev.pos (by omega) (Ev.pos (by omega) (Ev.pos (by omega) ?_))
    rw [List.take_succ_eq_append_getElem hi, List.map_append, List.map_cons, List.map_nil] at h
    unfold wordL at h
    by_cases hq : x[i].f0 = x[i].f1
    · rw [if_pos hq] at h
      exact Ev.pos hq (Ev.pos (by omega) h)
    · rw [if_neg hq] at h
      refine Ev.neg hq (Ev.pos (by rw [ba_size]; omega) ?_)
      rw [show (⟨#[58]⟩ : ByteArray) ++ ba (numL x[i].f1) = ba (58 :: numL x[i].f1) from ba_append [58] _]
      refine Ev.pos (by rw [ba_size, ba_size, List.length_cons]; omega) (Ev.pos (by omega) ?_)
      rw [ba_append]
      exact h
def setTextR (x : List S58) : Int × ByteArray := if rangesFault x = 0 then (0, ba (textL x)) else (rangesFault x, (⟨#[]⟩ : ByteArray))
theorem right_of (x : List S58) (h : rangesFault x = 0) : x.length ≤ 8 ∧ x.all okRange = true := by
  unfold rangesFault at h
  by_cases h1 : x.length < 1 ∨ 8 < x.length
  · rw [if_pos h1] at h; exact absurd h (by decide)
  · rw [if_neg h1] at h
    refine ⟨by omega, ?_⟩
    by_cases h2 : x.all okRange = true
    · exact h2
    · rw [if_neg h2] at h; exact absurd h (by decide)
theorem ev_implSetText (x : List S58) (hl : x.length ≤ 1048576) : Ev (fun k => impl_SetText.f k x) (setTextR x) := by
  unfold impl_SetText.f setTextR
  exact Ev.bind (ev_implRangesFault x hl) (Ev.ite (fun h => Ev.bind (ev_setText x (right_of x h).1 (right_of x h).2) (Ev.now _)) (fun _ => Ev.now _))
theorem ev_specSetText (x : List S58) (hl : x.length ≤ 1048576) : Ev (fun k => spec_SetText.f k x) (setTextR x) := by
  unfold spec_SetText.f setTextR
  exact Ev.bind (ev_l11Fault x hl) (Ev.ite (fun h => Ev.bind (ev_l11Text x (right_of x h).1 (right_of x h).2) (Ev.now _)) (fun _ => Ev.now _))
theorem FnExactSetText : ∀ (l0 : List (S61)), (l0.length * 16 ≤ 140737488351232 ∧ ∀ x1_ ∈ l0, ((Lit.int .i64 x1_.f0).wf = true ∧ (Lit.int .i64 x1_.f1).wf = true)) → ∃ k, laws_FnExactSetText.f k l0 = some true := by
  rintro x ⟨hx, _⟩
  apply Ev.get
  unfold laws_FnExactSetText.f
  rw [szRangeS_eq x 1048576 (by omega) (by omega) (by omega)]
  by_cases hbig : (1048576 : Int) - x.length < 0
  · rw [if_pos hbig]
    simp only [Option.bind_some]
    exact Ev.pos (by omega) (Ev.now _)
  rw [if_neg hbig]
  simp only [Option.bind_some]
  have hl : x.length ≤ 1048576 := by omega
  have hl' : (x.map cvRange).length ≤ 1048576 := by simpa using hl
  have hto := ev_toRangeS x hl
  refine Ev.neg (by omega) (Ev.bind hto (Ev.bind (ev_specSetText _ hl') (Ev.bind hto (Ev.bind (ev_implSetText _ hl') ?_))))
  refine Ev.bindc (b := true) ?_ (Ev.pos rfl (Ev.bind hto (Ev.bind (ev_eqRangeS _ hl') (Ev.pos rfl (Ev.now _)))))
  simp [laws_eqTextResult.f]

end Go.Proofs.YtnehephjliankaaDoor.Pure

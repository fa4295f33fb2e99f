/- The text of terms: the program and the reference say the same. Conditions: the sizes that the statement gives. -/
import Derived.Test.YtnehephjliankaaDoorPFnExactTermsTextx14
import Derived.Test.YtnehephjliankaaDoorVFnExactTermsTextU
import Derived.KernelRfl
namespace Go.Proofs.YtnehephjliankaaDoor.Pure
open Go.RowKit Go.Proofs.YtnehephjliankaaDoor.PFnExactTermsText Go.Proofs.YtnehephjliankaaDoorW.PrintWords Go.Proofs.YtnehephjliankaaDoorW.PrintLast Go.Proofs.YtnehephjliankaaDoor.U
set_option linter.unusedSimpArgs false
set_option linter.unusedVariables false

def okITerm (x : S72) : Prop := x.f2.length ≤ 1048576 ∧ x.f3.length ≤ 1048576
theorem rd_Term_get (x : List S72) (i : Nat) (h : i < x.length) : rd_T72 x (i : Int) = x[i] := by simp [rd_T72, List.getD_eq_getElem?_getD, h]
theorem rd_Range_get (x : List S58) (i : Nat) (h : i < x.length) : rd_T58 x (i : Int) = x[i] := by simp [rd_T58, List.getD_eq_getElem?_getD, h]
def okRange (r : S58) : Bool := decide ((0 ≤ r.f0 ∧ r.f0 ≤ 999) ∧ (0 ≤ r.f1 ∧ r.f1 ≤ 999))
def rangesFault (x : List S58) : Int := if x.length < 1 ∨ 8 < x.length then 2 else if x.all okRange = true then 0 else 3
def hasC (t : S72) : Bool := decide (t.f0 = 6) || decide (t.f0 = 7)
def formT (t : S72) : Bool := decide (1 ≤ t.f0 ∧ t.f0 ≤ 11) && ((decide (2 ≤ t.f0 ∧ t.f0 ≤ 5) || decide (t.f1 = 0)) && ((hasC t || decide (t.f2.length = 0)) && ((decide (t.f0 = 8) || decide (t.f3.length = 0)) && (decide (10 ≤ t.f0) || (decide (t.f5 = 0) && (decide (t.f0 = 9) || decide (t.f4 = 0)))))))
def okCode (c : Int) : Bool := decide ((0 ≤ c ∧ c ≤ 55295 ∨ 57344 ≤ c ∧ c ≤ 65535) ∧ 33 ≤ c ∧ c ≠ 127)
def codesOk (x : List Int) : Bool := x.all okCode && decide (1 ≤ (x.length : Int) ∧ (x.length : Int) ≤ 20)
def numOk (t : S72) : Bool := if t.f0 = 2 then decide (t.f1 = 1 ∨ t.f1 = 2 ∨ t.f1 = 4 ∨ t.f1 = 8) else if t.f0 = 3 ∨ t.f0 = 4 then decide (0 ≤ t.f1 ∧ t.f1 ≤ 9999) else if t.f0 = 5 then decide (0 ≤ t.f1 ∧ t.f1 ≤ 400) else true
def valueT (t : S72) : Int := if numOk t = true then (if hasC t = true then (if codesOk t.f2 = true then 0 else 3) else if t.f0 = 8 then rangesFault t.f3 else 0) else 3
def stepT (s : List Int) (t : S72) : Int ⊕ List Int :=
  if formT t = true then (if valueT t = 0 then
    (if t.f0 = 9 then (if (s.length : Int) = 0 ∨ t.f4 ≠ (s.length : Int) - 1 then .inl 1 else .inr (s ++ [1 + rd s ((s.length : Int) - 1)]))
     else if 9 < t.f0 then (if (s.length : Int) < 2 ∨ t.f5 ≠ (s.length : Int) - 1 ∨ t.f4 < 0 ∨ t.f4 ≠ (s.length : Int) - 1 - rd s ((s.length : Int) - 1) then .inl 1 else .inr (s ++ [1 + (rd s ((s.length : Int) - 1) + rd s t.f4)]))
     else .inr (s ++ [1]))
    else .inl (valueT t)) else .inl 1
def termsFault (ts : List S72) : Int := if 1 ≤ ts.length ∧ ts.length ≤ 12 then (match run stepT ts [] with | .inl r => r | .inr s => if rd s ((ts.length : Int) - 1) = ts.length then 0 else 1) else 2
def InvT (ts : List S72) (i : Nat) (s : List Int) : Prop := s.length = i ∧ ∀ j : Nat, j < i → 1 ≤ rd s (j : Int) ∧ rd s (j : Int) ≤ (j : Int) + 1 ∧ Ev (fun k => spec_l12First.f k ts (j : Int)) ((j : Int) - rd s (j : Int) + 1)
theorem rd_app (s : List Int) (a : Int) (j : Nat) (h : j < s.length) : rd (s ++ [a]) (j : Int) = rd s (j : Int) := by
  rw [rd_get _ j (by simp; omega), rd_get _ j h, List.getElem_append_left h]
theorem rd_last (s : List Int) (a : Int) : rd (s ++ [a]) (s.length : Int) = a := by
  rw [rd_get _ s.length (by simp)]; simp
theorem kindsT (n : Int) : (2 ≤ n ∧ n ≤ 5 ∧ n ≠ 6 ∧ n ≠ 7 ∧ n ≠ 8 ∧ n ≠ 9 ∧ ¬ 10 ≤ n ∧ ¬ 9 ≤ n ∧ n ≠ 10 ∧ n ≠ 11) ∨ n = 6 ∨ n = 7 ∨ n = 8 ∨ n = 9 ∨ n = 10 ∨ n = 11 ∨ (¬ (2 ≤ n ∧ n ≤ 5) ∧ n ≠ 6 ∧ n ≠ 7 ∧ n ≠ 8 ∧ n ≠ 9 ∧ ¬ 10 ≤ n ∧ ¬ 9 ≤ n ∧ n ≠ 10 ∧ n ≠ 11) ∨ 11 < n := by omega
theorem InvT_step (ts : List S72) (i : Nat) (s s' : List Int) (hi : i < ts.length) (h : InvT ts i s) (hs : stepT s ts[i] = .inr s') : InvT ts (i + 1) s' := by
  obtain ⟨hl, hj⟩ := h
  unfold stepT at hs
  by_cases hf : formT ts[i] = true
  case neg => rw [if_neg hf] at hs; cases hs
  rw [if_pos hf] at hs
  by_cases hv : valueT ts[i] = 0
  case neg => rw [if_neg hv] at hs; cases hs
  rw [if_pos hv] at hs
  have first : ∀ r : Int, (9 ≤ ts[i].f0 → Ev (fun k => spec_l12First.f k ts ts[i].f4) r) → (¬ 9 ≤ ts[i].f0 → r = (i : Int)) → Ev (fun k => spec_l12First.f k ts (i : Int)) r := by
    intro r h1 h2
    refine Ev.succ ?_
    simp only [spec_l12First.f, rd_Term_get ts i hi]
    refine Ev.pos (by omega) (Ev.pos (by omega) ?_)
    by_cases h9 : 9 ≤ ts[i].f0
    · exact Ev.pos h9 (Ev.bind (h1 h9) (Ev.now _))
    · rw [h2 h9]; exact Ev.neg h9 (Ev.now _)
  have mk : ∀ a : Int, s' = s ++ [a] → 1 ≤ a → a ≤ (i : Int) + 1 → Ev (fun k => spec_l12First.f k ts (i : Int)) ((i : Int) - a + 1) → InvT ts (i + 1) s' := by
    intro a hs' h1 h2 h3
    subst hs'
    refine ⟨by simp [hl], fun j hji => ?_⟩
    by_cases hjl : j < i
    · rw [rd_app s a j (by omega)]; exact hj j hjl
    · have e : j = s.length := by omega
      subst e
      rw [rd_last]
      subst hl
      exact ⟨h1, h2, h3⟩
  by_cases h9 : ts[i].f0 = 9
  · rw [if_pos h9] at hs
    by_cases hb : (s.length : Int) = 0 ∨ ts[i].f4 ≠ (s.length : Int) - 1
    · rw [if_pos hb] at hs; cases hs
    rw [if_neg hb] at hs; cases hs
    have hp : 0 < i := by omega
    have hk := hj (i - 1) (by omega)
    have e : (s.length : Int) - 1 = ((i - 1 : Nat) : Int) := by omega
    have e' : rd s ((s.length : Int) - 1) = rd s ((i - 1 : Nat) : Int) := congrArg (rd s) e
    refine mk _ rfl (by omega) (by omega) (first _ (fun _ => ?_) (fun h => absurd (by omega) h))
    have e4 : ts[i].f4 = ((i - 1 : Nat) : Int) := by omega
    rw [e4, e']
    have := hk.2.2
    rw [show (i : Int) - (1 + rd s ((i - 1 : Nat) : Int)) + 1 = ((i - 1 : Nat) : Int) - rd s ((i - 1 : Nat) : Int) + 1 by omega]
    exact this
  rw [if_neg h9] at hs
  by_cases h10 : 9 < ts[i].f0
  · rw [if_pos h10] at hs
    by_cases hb : (s.length : Int) < 2 ∨ ts[i].f5 ≠ (s.length : Int) - 1 ∨ ts[i].f4 < 0 ∨ ts[i].f4 ≠ (s.length : Int) - 1 - rd s ((s.length : Int) - 1)
    · rw [if_pos hb] at hs; cases hs
    rw [if_neg hb] at hs; cases hs
    have hp : 1 < i := by omega
    have hk := hj (i - 1) (by omega)
    have e : (s.length : Int) - 1 = ((i - 1 : Nat) : Int) := by omega
    have e' : rd s ((s.length : Int) - 1) = rd s ((i - 1 : Nat) : Int) := congrArg (rd s) e
    rw [e] at hb
    obtain ⟨q, hq⟩ : ∃ q : Nat, ts[i].f4 = (q : Int) := ⟨ts[i].f4.toNat, by omega⟩
    rw [hq] at hb
    have hkq := hj q (by omega)
    have eq' : rd s ts[i].f4 = rd s (q : Int) := congrArg (rd s) hq
    refine mk _ rfl (by omega) (by omega) (first _ (fun _ => ?_) (fun h => absurd (by omega) h))
    rw [e', eq', hq]
    rw [show (i : Int) - (1 + (rd s ((i - 1 : Nat) : Int) + rd s (q : Int))) + 1 = (q : Int) - rd s (q : Int) + 1 by omega]
    exact hkq.2.2
  · rw [if_neg h10] at hs; cases hs
    exact mk 1 rfl (by omega) (by omega) (first _ (fun h => absurd h (by omega)) (fun _ => by omega))
theorem l1In_eq (a b c : Int) : spec_l1In.f a b c = some (decide (b ≤ a ∧ a ≤ c)) := by
  unfold spec_l1In.f
  by_cases h : b ≤ a <;> simp [h]
theorem within_eq (a b c : Int) : impl_within.f a b c = some (decide (b ≤ a ∧ a ≤ c)) := by
  unfold impl_within.f
  by_cases h : b ≤ a <;> simp [h]
theorem kindsN (n : Int) : n = 1 ∨ n = 2 ∨ n = 3 ∨ n = 4 ∨ n = 5 ∨ n = 6 ∨ n = 7 ∨ n = 8 ∨ n = 9 ∨ n = 10 ∨ n = 11 ∨ ¬ (1 ≤ n ∧ n ≤ 11) := by omega
theorem dropT {x : List S72} {i : Nat} (hi : i < x.length) : rd_T72 (x.drop ((i : Int)).toNat) 0 = x[i] ∧ 0 < ((x.drop ((i : Int)).toNat).length : Int) := by
  constructor
  · have := rd_Term_get (x.drop i) 0 (by simp; omega)
    simpa using this
  · simp; omega
set_option maxHeartbeats 4000000 in
theorem ev_l12Form (x : List S72) (i : Nat) (hi : i < x.length) : Ev (fun k => spec_l12Form.f k (x.drop ((i : Int)).toNat)) (formT x[i]) := by
  refine Ev.at 1 (fun k => ?_)
  obtain ⟨hr, hl⟩ := dropT hi
  simp only [spec_l12Form.f, spec_l12Form.j0, hr, if_pos hl, l1In_eq, Option.bind_some, spec_l12Has.f, spec_l12Two.f]
  generalize x[i] = t
  obtain ⟨f0, f1, f2, f3, f4, f5⟩ := t
  simp only [formT, hasC]
  rcases kindsN f0 with rfl | rfl | rfl | rfl | rfl | rfl | rfl | rfl | rfl | rfl | rfl | hn
  case _ => by_cases h1 : f1 = 0 <;> by_cases h2 : f2 = [] <;> by_cases h3 : f3 = [] <;> by_cases h4 : f4 = 0 <;> by_cases h5 : f5 = 0 <;> simp [*]
  all_goals first
    | (simp only [decide_eq_false hn, Bool.false_and]; simp; done)
    | (by_cases h1 : f1 = 0 <;> by_cases h2 : f2 = [] <;> by_cases h3 : f3 = [] <;> by_cases h4 : f4 = 0 <;> by_cases h5 : f5 = 0 <;> simp [*])
set_option maxHeartbeats 4000000 in
theorem isOnlyT (t : S72) (hk : 1 ≤ t.f0 ∧ t.f0 ≤ 11) : impl_Term_isOnly.f t.f0 t.f1 t.f2 t.f3 t.f4 t.f5 = some (formT t) := by
  obtain ⟨f0, f1, f2, f3, f4, f5⟩ := t
  simp only at hk
  simp only [impl_Term_isOnly.f, impl_hasNum.f, impl_hasCodes.f, within_eq, Option.bind_some, formT, hasC]
  rcases kindsN f0 with rfl | rfl | rfl | rfl | rfl | rfl | rfl | rfl | rfl | rfl | rfl | hn
  case _ => by_cases h1 : f1 = 0 <;> by_cases h2 : f2 = [] <;> by_cases h3 : f3 = [] <;> by_cases h4 : f4 = 0 <;> by_cases h5 : f5 = 0 <;> simp [*]
  all_goals first
    | (exact absurd hk hn)
    | (by_cases h1 : f1 = 0 <;> by_cases h2 : f2 = [] <;> by_cases h3 : f3 = [] <;> by_cases h4 : f4 = 0 <;> by_cases h5 : f5 = 0 <;> simp [*])
theorem isNumT (t : S72) : Ev (fun k => impl_Term_isNum.f k t.f0 t.f1 t.f2 t.f3 t.f4 t.f5) (numOk t) := by
  refine Ev.at 1 (fun k => ?_)
  obtain ⟨f0, f1, f2, f3, f4, f5⟩ := t
  simp only [impl_Term_isNum.f, impl_Term_isNum.j0, impl_isDate.f, within_eq, Option.bind_some, numOk]
  by_cases h2 : f0 = 2
  · rw [if_pos h2, if_pos h2]
    by_cases a1 : f1 = 1
    · simp [a1]
    · by_cases a2 : f1 = 2
      · simp [a2]
      · by_cases a4 : f1 = 4
        · simp [a4]
        · by_cases a8 : f1 = 8 <;> simp [a1, a2, a4, a8]
  · rw [if_neg h2, if_neg h2]
    by_cases h3 : f0 = 3
    · simp [h3]
    · by_cases h4 : f0 = 4
      · simp [h4]
      · by_cases h5 : f0 = 5
        · simp [h5]
        · simp [h3, h4, h5]
theorem l2Char_eq (c : Int) : spec_l2Char.f c = some (decide (0 ≤ c ∧ c ≤ 55295 ∨ 57344 ≤ c ∧ c ≤ 65535)) := by
  unfold spec_l2Char.f
  by_cases h : 0 ≤ c ∧ c ≤ 55295
  · simp [l1In_eq, h]
  · by_cases h2 : 57344 ≤ c ∧ c ≤ 65535
    · simp [l1In_eq, h2]
    · have h' : decide (0 ≤ c ∧ c ≤ 55295) = false := decide_eq_false h
      have h2' : decide (57344 ≤ c ∧ c ≤ 65535) = false := decide_eq_false h2
      have h3 : ¬ (0 ≤ c ∧ c ≤ 55295 ∨ 57344 ≤ c ∧ c ≤ 65535) := by omega
      simp [l1In_eq, h', h2', h3]
theorem isChar_eq (c : Int) : impl_isChar.f c = some (decide (0 ≤ c ∧ c ≤ 55295 ∨ 57344 ≤ c ∧ c ≤ 65535)) := by
  unfold impl_isChar.f
  simp only [within_eq, Option.bind_some]
  by_cases h : 0 ≤ c ∧ c ≤ 65535
  · rw [if_pos (decide_eq_true h)]
    congr 1
    rw [Bool.eq_iff_iff]
    simp
    omega
  · rw [if_neg (by simpa using h)]
    have : ¬ (0 ≤ c ∧ c ≤ 55295 ∨ 57344 ≤ c ∧ c ≤ 65535) := by omega
    simp [this]
theorem ev_l12Codes (x : List Int) (hx : x.length ≤ 1048576) : Ev (fun k => spec_l12Codes.f k x) (codesOk x) := by
  unfold spec_l12Codes.f codesOk
  have h := ev_find (fun k i => spec_l12Codes.l0 k x i) x (fun a => if okCode a = true then none else some false) (decide (1 ≤ (x.length : Int) ∧ (x.length : Int) ≤ 20)) ?_ ?_ ?_
  · rw [find_guard] at h
    by_cases hall : x.all okCode = true
    · rw [if_pos hall] at h; rw [hall, Bool.true_and]; exact h
    · rw [if_neg hall] at h; rw [Bool.not_eq_true] at hall; rw [hall, Bool.false_and]; exact h
  · refine Ev.succ ?_
    simp only [spec_l12Codes.l0, Int.lt_irrefl, if_false, l1In_eq, Option.bind_some]
    exact Ev.now _
  · intro i hi r hr
    by_cases hc : okCode x[i] = true
    · rw [if_pos hc] at hr; cases hr
    rw [if_neg hc] at hr; cases hr
    simp only [okCode, decide_eq_true_eq] at hc
    refine Ev.succ ?_
    simp only [spec_l12Codes.l0, rd_get x i hi, l2Char_eq, Option.bind_some]
    refine Ev.pos (by omega) (Ev.pos (by omega) ?_)
    by_cases h1 : 0 ≤ x[i] ∧ x[i] ≤ 55295 ∨ 57344 ≤ x[i] ∧ x[i] ≤ 65535
    · refine Ev.pos (decide_eq_true h1) ?_
      by_cases h2 : x[i] < 33
      · exact Ev.pos h2 (Ev.now _)
      · exact Ev.neg h2 (Ev.pos (by omega) (Ev.now _))
    · exact Ev.neg (by simpa using h1) (Ev.now _)
  · intro i hi hr r h
    by_cases hc : okCode x[i] = true
    case neg => rw [if_neg hc] at hr; cases hr
    simp only [okCode, decide_eq_true_eq] at hc
    refine Ev.succ ?_
    simp only [spec_l12Codes.l0, rd_get x i hi, l2Char_eq, Option.bind_some, wsucc hi (show x.length ≤ 281474976710656 by omega)]
    exact Ev.pos (by omega) (Ev.pos (by omega) (Ev.pos (decide_eq_true hc.1) (Ev.neg (by omega) (Ev.neg (by omega) h))))
theorem areCodes1_eq (c : Int) : impl_Term_areCodes_1.f c = some (!okCode c) := by
  unfold impl_Term_areCodes_1.f okCode
  rw [isChar_eq]
  simp only [Option.bind_some]
  by_cases h : 0 ≤ c ∧ c ≤ 55295 ∨ 57344 ≤ c ∧ c ≤ 65535
  · rw [if_pos (decide_eq_true h)]
    by_cases h2 : c < 33
    · rw [if_pos h2]
      have : ¬ (33 ≤ c) := by omega
      simp [this]
    · rw [if_neg h2]
      by_cases h3 : c = 127
      · simp [h3]
      · have : 33 ≤ c := by omega
        simp [h, h3, this]
  · rw [if_neg (by simpa using h)]
    simp [h]
theorem find_all_idx (p : Int → Bool) (x : List Int) : decide ((((List.range x.length).findSome? fun i => if p (x.getD i 0) = true then none else some (i : Int)).getD (-1)) ≥ 0) = !(x.all p) := by
  rw [Bool.eq_iff_iff]
  simp only [decide_eq_true_eq, Bool.not_eq_true', ge_iff_le]
  cases hf : (List.range x.length).findSome? fun i => if p (x.getD i 0) = true then none else some (i : Int) with
  | none =>
    simp only [Option.getD_none]
    rw [List.findSome?_eq_none_iff] at hf
    have hall : x.all p = true := by
      rw [List.all_eq_true]
      intro a ha
      obtain ⟨j, hj, rfl⟩ := List.mem_iff_getElem.1 ha
      have := hf j (by simpa using hj)
      simp only [List.getD_eq_getElem?_getD, List.getElem?_eq_getElem hj, Option.getD_some] at this
      by_cases hp : p x[j] = true
      · exact hp
      · rw [if_neg hp] at this; cases this
    rw [hall]
    simp
  | some v =>
    simp only [Option.getD_some]
    obtain ⟨l1, a, l2, _, h2, _⟩ := List.findSome?_eq_some_iff.1 hf
    obtain ⟨a, ha, hv⟩ := List.exists_of_findSome?_eq_some hf
    have ha' : a < x.length := by simpa using ha
    by_cases hp : p (x.getD a 0) = true
    · rw [if_pos hp] at hv; cases hv
    · rw [if_neg hp] at hv
      cases hv
      constructor
      · intro _
        rw [← Bool.not_eq_true, List.all_eq_true]
        intro hall
        apply hp
        rw [List.getD_eq_getElem?_getD, List.getElem?_eq_getElem ha', Option.getD_some]
        exact hall _ (List.getElem_mem ha')
      · intro _; omega
theorem ev_areCodesC (x : List Int) (hx : x.length ≤ 1048576) : Ev (fun k => slices_ContainsFunc_int64_int64_v0.f k x) (!(x.all okCode)) := by
  unfold slices_ContainsFunc_int64_int64_v0.f slices_IndexFunc_int64_int64_v1.f
  have h := ev_findI (fun k i => slices_IndexFunc_int64_int64_v1.l0 k x (x.length : Int) i) x.length (fun i => if okCode (x.getD i 0) = true then none else some (i : Int)) (-1) ?_ ?_ ?_
  · refine Ev.bind h ?_
    rw [find_all_idx]
    exact Ev.now _
  · refine Ev.succ ?_
    simp only [slices_IndexFunc_int64_int64_v1.l0, Int.lt_irrefl, if_false]
    exact Ev.now _
  · intro i hi r hr
    have hg : x.getD i 0 = x[i] := by rw [List.getD_eq_getElem?_getD, List.getElem?_eq_getElem hi, Option.getD_some]
    rw [hg] at hr
    refine Ev.succ ?_
    simp only [slices_IndexFunc_int64_int64_v1.l0, rd_get x i hi, areCodes1_eq, Option.bind_some]
    by_cases hp : okCode x[i] = true
    · rw [if_pos hp] at hr; cases hr
    · rw [if_neg hp] at hr; cases hr
      exact Ev.pos (by omega) (Ev.pos (by omega) (Ev.pos (by omega) (Ev.pos (by simpa using hp) (Ev.now _))))
  · intro i hi hr r h
    have hg : x.getD i 0 = x[i] := by rw [List.getD_eq_getElem?_getD, List.getElem?_eq_getElem hi, Option.getD_some]
    rw [hg] at hr
    refine Ev.succ ?_
    simp only [slices_IndexFunc_int64_int64_v1.l0, rd_get x i hi, areCodes1_eq, Option.bind_some, wsucc hi (show x.length ≤ 281474976710656 by omega)]
    by_cases hp : okCode x[i] = true
    · exact Ev.pos (by omega) (Ev.pos (by omega) (Ev.pos (by omega) (Ev.neg (by simp [hp]) h)))
    · rw [if_neg hp] at hr; cases hr
theorem areCodesT (t : S72) (hx : t.f2.length ≤ 1048576) : Ev (fun k => impl_Term_areCodes.f k t.f0 t.f1 t.f2 t.f3 t.f4 t.f5) (!hasC t || codesOk t.f2) := by
  unfold impl_Term_areCodes.f
  have hh : impl_hasCodes.f t.f0 = some (hasC t) := by
    unfold impl_hasCodes.f hasC
    by_cases h : t.f0 = 6
    · simp [h]
    · rw [if_neg h]
      by_cases h7 : t.f0 = 7
      · simp [h7]
      · simp [h, h7]
  refine Ev.bindc hh ?_
  cases hc : hasC t with
  | false => exact Ev.neg (by simp) (Ev.now _)
  | true =>
    refine Ev.pos rfl ?_
    simp only [impl_length_int64.f, within_eq, Option.bind_some, codesOk]
    by_cases hl : 1 ≤ (t.f2.length : Int) ∧ (t.f2.length : Int) ≤ 20
    · refine Ev.pos (decide_eq_true hl) (Ev.bind (ev_areCodesC t.f2 hx) ?_)
      simp only [decide_eq_true hl, Bool.not_not, Bool.and_true, Bool.not_true, Bool.false_or]
      exact Ev.now _
    · refine Ev.neg (by simpa using hl) ?_
      simp only [decide_eq_false hl, Bool.and_false, Bool.not_true, Bool.or_self]
      exact Ev.now _
theorem ev_l11Fault (x : List S58) (hx : x.length ≤ 1048576) : Ev (fun k => spec_l11Fault.f k x) (rangesFault x) := by
  unfold spec_l11Fault.f rangesFault
  by_cases h1 : x.length < 1
  · rw [if_pos (by omega)]
    refine Ev.pos (by omega) (Ev.succ ?_)
    simp only [spec_l11Fault.j0, if_true]
    exact Ev.now _
  refine Ev.neg (by omega) (Ev.succ ?_)
  simp only [spec_l11Fault.j0]
  by_cases h2 : 8 < x.length
  · rw [if_pos (by omega)]
    exact Ev.pos (decide_eq_true (by omega)) (Ev.now _)
  rw [if_neg (by omega)]
  refine Ev.neg (by simp; omega) ?_
  have h := ev_find (fun k i => spec_l11Fault.l0 k x i) x (fun r => if okRange r = true then none else some 3) 0 ?_ ?_ ?_
  · rw [find_guard] at h; exact h
  · refine Ev.succ ?_
    simp only [spec_l11Fault.l0, Int.lt_irrefl, if_false]
    exact Ev.now _
  · intro i hi r hr
    by_cases hok : okRange x[i] = true
    · rw [if_pos hok] at hr; cases hr
    rw [if_neg hok] at hr; cases hr
    simp only [okRange, decide_eq_true_eq] at hok
    refine Ev.succ ?_
    simp only [spec_l11Fault.l0, rd_Range_get x i hi, l1In_eq, Option.bind_some]
    refine Ev.pos (by omega) (Ev.pos (by omega) ?_)
    by_cases ha : 0 ≤ x[i].f0 ∧ x[i].f0 ≤ 999
    · refine Ev.pos (decide_eq_true ha) (Ev.neg ?_ (Ev.now _))
      simp only [decide_eq_true_eq]; exact fun hb => hok ⟨ha, hb⟩
    · exact Ev.neg (by simpa using ha) (Ev.now _)
  · intro i hi hr r h
    by_cases hok : okRange x[i] = true
    case neg => rw [if_neg hok] at hr; cases hr
    simp only [okRange, decide_eq_true_eq] at hok
    refine Ev.succ ?_
    simp only [spec_l11Fault.l0, rd_Range_get x i hi, l1In_eq, Option.bind_some]
    refine Ev.pos (by omega) (Ev.pos (by omega) (Ev.pos (decide_eq_true hok.1) (Ev.pos (decide_eq_true hok.2) ?_)))
    simp only [wsucc hi (show x.length ≤ 281474976710656 by omega)]
    exact h
theorem ev_implRangesFault (x : List S58) (hx : x.length ≤ 1048576) : Ev (fun k => impl_RangesFault.f k x) (rangesFault x) := by
  unfold impl_RangesFault.f rangesFault
  simp only [impl_Range.f, within_eq, Option.bind_some]
  by_cases h1 : x.length < 1 ∨ 8 < x.length
  · rw [if_pos h1]
    exact Ev.neg (by simp; omega) (Ev.now _)
  rw [if_neg h1]
  refine Ev.pos (decide_eq_true (by omega)) ?_
  have h := ev_find (fun k i => impl_RangesFault.l0 k x (x.length : Int) i) x (fun r => if okRange r = true then none else some 3) 0 ?_ ?_ ?_
  · rw [find_guard] at h; exact h
  · refine Ev.succ ?_
    simp only [impl_RangesFault.l0, Int.lt_irrefl, if_false]
    exact Ev.now _
  · intro i hi r hr
    by_cases hok : okRange x[i] = true
    · rw [if_pos hok] at hr; cases hr
    rw [if_neg hok] at hr; cases hr
    simp only [okRange, decide_eq_true_eq] at hok
    refine Ev.succ ?_
    simp only [impl_RangesFault.l0, rd_Range_get x i hi, within_eq, Option.bind_some]
    refine Ev.pos (by omega) (Ev.pos (by omega) (Ev.pos (by omega) ?_))
    by_cases ha : 0 ≤ x[i].f0 ∧ x[i].f0 ≤ 999
    · refine Ev.pos (decide_eq_true ha) (Ev.neg ?_ (Ev.now _))
      simp only [decide_eq_true_eq]; exact fun hb => hok ⟨ha, hb⟩
    · exact Ev.neg (by simpa using ha) (Ev.now _)
  · intro i hi hr r h
    by_cases hok : okRange x[i] = true
    case neg => rw [if_neg hok] at hr; cases hr
    simp only [okRange, decide_eq_true_eq] at hok
    refine Ev.succ ?_
    simp only [impl_RangesFault.l0, rd_Range_get x i hi, within_eq, Option.bind_some]
    refine Ev.pos (by omega) (Ev.pos (by omega) (Ev.pos (by omega) (Ev.pos (decide_eq_true hok.1) (Ev.pos (decide_eq_true hok.2) ?_))))
    simp only [wsucc hi (show x.length ≤ 281474976710656 by omega)]
    exact h
theorem ev_l12Value (x : List S72) (i : Nat) (hi : i < x.length) (hf : formT x[i] = true) (h2 : x[i].f2.length ≤ 1048576) (h3 : x[i].f3.length ≤ 1048576) : Ev (fun k => spec_l12Value.f k (x.drop ((i : Int)).toNat)) (valueT x[i]) := by
  obtain ⟨hr, hl⟩ := dropT hi
  have hcodes := ev_l12Codes x[i].f2 h2
  have hranges := ev_l11Fault x[i].f3 h3
  unfold spec_l12Value.f valueT
  simp only [hr, if_pos hl]
  generalize x[i] = t at *
  obtain ⟨f0, f1, f2, f3, f4, f5⟩ := t
  simp only [numOk, hasC] at *
  have hk : 1 ≤ f0 ∧ f0 ≤ 11 := by
    simp only [formT, Bool.and_eq_true, decide_eq_true_eq] at hf
    exact hf.1
  have j1 : ∀ b : Bool, b = (decide (f0 = 6) || decide (f0 = 7)) → f0 ≠ 2 → f0 ≠ 3 → f0 ≠ 4 → f0 ≠ 5 → Ev (fun k => spec_l12Value.j1 k (x.drop ((i : Int)).toNat) true f0 b) (if (decide (f0 = 6) || decide (f0 = 7)) = true then (if codesOk f2 = true then 0 else 3) else if f0 = 8 then rangesFault f3 else 0) := by
    intro b hb n2 n3 n4 n5
    refine Ev.succ ?_
    simp only [spec_l12Value.j1, hr]
    rw [hb]
    by_cases h67 : (decide (f0 = 6) || decide (f0 = 7)) = true
    · rw [if_pos h67]
      refine Ev.pos h67 (Ev.pos hl (Ev.bind hcodes (Ev.ite (fun _ => Ev.now _) (fun _ => Ev.now _))))
    · rw [if_neg h67]
      refine Ev.neg h67 (Ev.ite (fun _ => Ev.pos hl (Ev.bind hranges (Ev.now _))) (fun _ => Ev.pos trivial (Ev.now _)))
  by_cases n2 : f0 = 2
  · subst n2
    refine Ev.pos rfl ?_
    by_cases a1 : f1 = 1
    · refine Ev.pos a1 ?_; simp [a1]; exact Ev.now _
    refine Ev.neg a1 ?_
    by_cases a2 : f1 = 2
    · refine Ev.pos a2 ?_; simp [a2]; exact Ev.now _
    refine Ev.neg a2 ?_
    by_cases a4 : f1 = 4
    · refine Ev.pos a4 ?_; simp [a4]; exact Ev.now _
    refine Ev.neg a4 ?_
    by_cases a8 : f1 = 8
    · refine Ev.pos a8 ?_; simp [a8]; exact Ev.now _
    refine Ev.neg a8 ?_
    simp [a1, a2, a4, a8]; exact Ev.now _
  refine Ev.neg n2 ?_
  rw [if_neg n2]
  have j0 : ∀ b : Bool, b = (decide (f0 = 3) || decide (f0 = 4)) → Ev (fun k => spec_l12Value.j0 k (x.drop ((i : Int)).toNat) true f0 b) (if (if f0 = 3 ∨ f0 = 4 then decide (0 ≤ f1 ∧ f1 ≤ 9999) else if f0 = 5 then decide (0 ≤ f1 ∧ f1 ≤ 400) else true) = true then (if (decide (f0 = 6) || decide (f0 = 7)) = true then (if codesOk f2 = true then 0 else 3) else if f0 = 8 then rangesFault f3 else 0) else 3) := by
    intro b hb
    refine Ev.succ ?_
    simp only [spec_l12Value.j0, hr, l1In_eq, Option.bind_some]
    rw [hb]
    by_cases h34 : f0 = 3 ∨ f0 = 4
    · rw [if_pos h34]
      refine Ev.pos (by simpa using h34) (Ev.pos hl ?_)
      have e67 : (decide (f0 = 6) || decide (f0 = 7)) = false := by
        rcases h34 with rfl | rfl <;> rfl
      have n8 : f0 ≠ 8 := by omega
      rw [e67, if_neg n8]
      simp only [Bool.false_eq_true, if_false]
      exact Ev.ite (fun _ => Ev.now _) (fun _ => Ev.now _)
    rw [if_neg h34]
    refine Ev.neg (by simpa using h34) ?_
    by_cases h5 : f0 = 5
    · subst h5
      refine Ev.pos rfl (Ev.pos hl ?_)
      rw [if_pos rfl]
      simp only [show ((decide ((5 : Int) = 6) || decide ((5 : Int) = 7)) = true) = False by decide, if_false, show ((5 : Int) = 8) = False by decide]
      exact Ev.ite (fun _ => Ev.now _) (fun _ => Ev.now _)
    rw [if_neg h5]
    refine Ev.neg h5 ?_
    simp only [if_true]
    by_cases h6 : f0 = 6
    · exact Ev.pos h6 (j1 _ (by subst h6; rfl) n2 (fun e => h34 (.inl e)) (fun e => h34 (.inr e)) h5)
    · exact Ev.neg h6 (j1 _ (by simp [h6]; by_cases h7 : f0 = 7 <;> simp [h7]) n2 (fun e => h34 (.inl e)) (fun e => h34 (.inr e)) h5)
  by_cases n3 : f0 = 3
  · exact Ev.pos n3 (j0 _ (by subst n3; rfl))
  · exact Ev.neg n3 (j0 _ (by by_cases h4 : f0 = 4 <;> simp [n3, h4]))
theorem first_at (ts : List S72) (i : Nat) (s : List Int) (h : InvT ts i s) (hi : 0 < i) : Ev (fun k => spec_l12First.f k ts ((i : Int) - 1)) ((i : Int) - rd s ((i : Int) - 1)) := by
  have := (h.2 (i - 1) (by omega)).2.2
  have e : ((i - 1 : Nat) : Int) = (i : Int) - 1 := by omega
  rw [e] at this
  rw [show (i : Int) - rd s ((i : Int) - 1) = (i : Int) - 1 - rd s ((i : Int) - 1) + 1 by omega]
  exact this
theorem ev_l12Behind (ts : List S72) (i : Nat) (s : List Int) (hi : i < ts.length) (hx : ts.length ≤ 12) (h : InvT ts i s) (hf : formT ts[i] = true) (hv : valueT ts[i] = 0) :
    Ev (fun k => spec_l12Behind.f k ts (i : Int)) (match stepT s ts[i] with | .inl _ => false | .inr _ => true) := by
  unfold spec_l12Behind.f stepT
  simp only [rd_Term_get ts i hi]
  rw [if_pos hf, if_pos hv]
  have hl : s.length = i := h.1
  have hk : 1 ≤ ts[i].f0 ∧ ts[i].f0 ≤ 11 := by
    simp only [formT, Bool.and_eq_true, decide_eq_true_eq] at hf
    exact hf.1
  have hrd : 0 < i → 1 ≤ rd s ((i : Int) - 1) ∧ rd s ((i : Int) - 1) ≤ i := by
    intro hp
    have := h.2 (i - 1) (by omega)
    have e : ((i - 1 : Nat) : Int) = (i : Int) - 1 := by omega
    rw [e] at this
    omega
  refine Ev.pos (by omega) (Ev.pos (by omega) ?_)
  have hw : wrap64 ((i : Int) - 1) = (i : Int) - 1 := wid (by omega) (by omega)
  rw [hw, hl]
  by_cases h9 : ts[i].f0 = 9
  · rw [if_pos h9]
    refine Ev.pos h9 ?_
    by_cases hp : (i : Int) > 0
    · refine Ev.pos hp ?_
      by_cases h4 : ts[i].f4 = (i : Int) - 1
      · rw [if_neg (by omega)]
        simp only [h4, beq_self_eq_true]
        exact Ev.now _
      · rw [if_pos (.inr h4)]
        have : (ts[i].f4 == (i : Int) - 1) = false := beq_eq_false_iff_ne.2 h4
        rw [this]
        exact Ev.now _
    · refine Ev.neg hp ?_
      rw [if_pos (.inl (by omega))]
      exact Ev.now _
  rw [if_neg h9]
  refine Ev.neg h9 ?_
  have h2 : spec_l12Two.f ts[i].f0 = some (decide (9 < ts[i].f0)) := by
    unfold spec_l12Two.f
    by_cases a : ts[i].f0 = 10
    · rw [a]; rfl
    · rw [if_neg a]
      by_cases b : ts[i].f0 = 11
      · rw [b]; rfl
      · have c : ¬ 9 < ts[i].f0 := by omega
        simp [b, c]
  refine Ev.bindc h2 ?_
  by_cases h10 : 9 < ts[i].f0
  · rw [if_pos h10]
    refine Ev.pos (decide_eq_true h10) ?_
    by_cases hp : (i : Int) > 1
    · refine Ev.pos hp ?_
      have hr := hrd (by omega)
      by_cases h5 : ts[i].f5 = (i : Int) - 1
      · refine Ev.pos h5 ?_
        have hfirst := first_at ts i s h (by omega)
        refine Ev.bind hfirst ?_
        by_cases hpos : (i : Int) - rd s ((i : Int) - 1) > 0
        · refine Ev.pos hpos (Ev.bind hfirst ?_)
          rw [wid (x := (i : Int) - rd s ((i : Int) - 1) - 1) (by omega) (by omega)]
          by_cases h4 : ts[i].f4 = (i : Int) - rd s ((i : Int) - 1) - 1
          · rw [if_neg (by omega)]
            simp only [h4, beq_self_eq_true]
            exact Ev.now _
          · rw [if_pos (by omega)]
            have : (ts[i].f4 == (i : Int) - rd s ((i : Int) - 1) - 1) = false := beq_eq_false_iff_ne.2 h4
            rw [this]
            exact Ev.now _
        · rw [if_pos (by omega)]
          exact Ev.neg hpos (Ev.now _)
      · rw [if_pos (.inr (.inl h5))]
        exact Ev.neg h5 (Ev.now _)
    · rw [if_pos (.inl (by omega))]
      exact Ev.neg hp (Ev.now _)
  · rw [if_neg h10]
    exact Ev.neg (by simpa using h10) (Ev.now _)
theorem stepT_cases (s : List Int) (t : S72) (hf : formT t = true) (hv : valueT t = 0) : stepT s t = .inl 1 ∨ ∃ s', stepT s t = .inr s' := by
  unfold stepT
  rw [if_pos hf, if_pos hv]
  by_cases h9 : t.f0 = 9
  · rw [if_pos h9]
    by_cases hb : (s.length : Int) = 0 ∨ t.f4 ≠ (s.length : Int) - 1
    · exact .inl (if_pos hb)
    · exact .inr ⟨_, if_neg hb⟩
  rw [if_neg h9]
  by_cases h10 : 9 < t.f0
  · rw [if_pos h10]
    by_cases hb : (s.length : Int) < 2 ∨ t.f5 ≠ (s.length : Int) - 1 ∨ t.f4 < 0 ∨ t.f4 ≠ (s.length : Int) - 1 - rd s ((s.length : Int) - 1)
    · exact .inl (if_pos hb)
    · exact .inr ⟨_, if_neg hb⟩
  · rw [if_neg h10]
    exact .inr ⟨_, rfl⟩
theorem ev_l12Fault (ts : List S72) (hok : ∀ y ∈ ts, okITerm y) : Ev (fun k => spec_l12Fault.f k ts) (termsFault ts) := by
  unfold spec_l12Fault.f termsFault
  by_cases hlen : 1 ≤ ts.length ∧ ts.length ≤ 12
  case neg =>
    rw [if_neg hlen]
    by_cases h1 : (ts.length : Int) < 1
    · refine Ev.pos h1 (Ev.succ ?_)
      simp only [spec_l12Fault.j0]
      exact Ev.pos trivial (Ev.now _)
    · refine Ev.neg h1 (Ev.succ ?_)
      simp only [spec_l12Fault.j0]
      exact Ev.pos (by simp; omega) (Ev.now _)
  rw [if_pos hlen]
  refine Ev.neg (by omega) (Ev.succ ?_)
  simp only [spec_l12Fault.j0]
  refine Ev.neg (by simp; omega) ?_
  have h := ev_run (fun k (_ : List Int) i => spec_l12Fault.l0 k ts i) ts stepT (fun s => if rd s ((ts.length : Int) - 1) = ts.length then 0 else 1) (InvT ts) ?_ ?_ ?_ 0 [] (by omega) ⟨rfl, fun j hj => absurd hj (by omega)⟩
  · rw [List.drop_zero] at h; revert h; cases run stepT ts [] <;> exact fun h => h
  · intro s hI
    refine Ev.succ ?_
    simp only [spec_l12Fault.l0, Int.lt_irrefl, if_false]
    rw [wid (x := (ts.length : Int) - 1) (by omega) (by omega)]
    refine Ev.bind (first_at ts ts.length s hI (by omega)) ?_
    by_cases hr : rd s ((ts.length : Int) - 1) = ts.length
    · rw [if_pos hr]; exact Ev.pos (by omega) (Ev.now _)
    · rw [if_neg hr]; exact Ev.neg (by omega) (Ev.now _)
  · intro i hi s r hI hs
    refine Ev.succ ?_
    simp only [spec_l12Fault.l0]
    refine Ev.pos (by omega) (Ev.pos (by omega) (Ev.bind (ev_l12Form ts i hi) ?_))
    have ok := hok ts[i] (List.getElem_mem hi)
    by_cases hf : formT ts[i] = true
    case neg =>
      unfold stepT at hs; rw [if_neg hf] at hs; cases hs
      exact Ev.neg hf (Ev.now _)
    refine Ev.pos hf (Ev.bind (ev_l12Value ts i hi hf ok.1 ok.2) ?_)
    by_cases hv : valueT ts[i] = 0
    case neg =>
      unfold stepT at hs; rw [if_pos hf, if_neg hv] at hs; cases hs
      exact Ev.neg hv (Ev.now _)
    refine Ev.pos hv (Ev.bind (ev_l12Behind ts i s hi hlen.2 hI hf hv) ?_)
    rw [hs]
    rcases stepT_cases s ts[i] hf hv with h | ⟨s', h⟩
    · rw [hs] at h; cases h
      exact Ev.neg (by simp) (Ev.now _)
    · rw [hs] at h; cases h
  · intro i hi s s' hI hs
    refine ⟨InvT_step ts i s s' hi hI hs, fun r h => ?_⟩
    refine Ev.succ ?_
    simp only [spec_l12Fault.l0, wsucc hi (show ts.length ≤ 281474976710656 by omega)]
    refine Ev.pos (by omega) (Ev.pos (by omega) (Ev.bind (ev_l12Form ts i hi) ?_))
    have ok := hok ts[i] (List.getElem_mem hi)
    by_cases hf : formT ts[i] = true
    case neg => unfold stepT at hs; rw [if_neg hf] at hs; cases hs
    refine Ev.pos hf (Ev.bind (ev_l12Value ts i hi hf ok.1 ok.2) ?_)
    by_cases hv : valueT ts[i] = 0
    case neg => unfold stepT at hs; rw [if_pos hf, if_neg hv] at hs; cases hs
    refine Ev.pos hv (Ev.bind (ev_l12Behind ts i s hi hlen.2 hI hf hv) ?_)
    rw [hs]
    exact Ev.pos rfl h
theorem InvT_rd (ts : List S72) (i : Nat) (s : List Int) (h : InvT ts i s) (q : Int) (h0 : 0 ≤ q) (h1 : q < i) : 1 ≤ rd s q ∧ rd s q ≤ q + 1 := by
  have := h.2 q.toNat (by omega)
  have e : ((q.toNat : Nat) : Int) = q := by omega
  rw [e] at this
  exact ⟨this.1, this.2.1⟩
/-- What the program does with one term, whatever follows. -/
theorem ev_implStep (ts : List S72) (i : Nat) (s : List Int) (hi : i < ts.length) (hx : ts.length ≤ 12) (h : InvT ts i s) (ok : okITerm ts[i]) (r : Int)
    (hl : ∀ v, stepT s ts[i] = .inl v → r = v) (hr : ∀ s', stepT s ts[i] = .inr s' → Ev (fun k => impl_TermsFault.l0 k ts s' ts (ts.length : Int) ((i + 1 : Nat) : Int)) r) :
    Ev (fun k => impl_TermsFault.l0 k ts s ts (ts.length : Int) (i : Int)) r := by
  have hlen : s.length = i := h.1
  have hw : wrap64 ((i : Int) - 1) = (i : Int) - 1 := wid (by omega) (by omega)
  have j2 : formT ts[i] = true → valueT ts[i] = 0 → Ev (fun k => impl_TermsFault.j2 k ts s (i : Int) 1 ts (ts.length : Int) (i : Int) ts[i].f0 ts[i].f1 ts[i].f2 ts[i].f3 ts[i].f4 ts[i].f5) r := by
    intro hf hv
    unfold stepT at hl hr
    rw [if_pos hf, if_pos hv] at hl hr
    refine Ev.succ ?_
    simp only [impl_TermsFault.j2, hw, wsucc hi (show ts.length ≤ 281474976710656 by omega)]
    rw [hlen] at hl hr
    by_cases h9 : ts[i].f0 = 9
    · rw [if_pos h9] at hl hr
      refine Ev.pos h9 ?_
      by_cases h0 : (i : Int) = 0
      · rw [if_pos (.inl h0)] at hl
        rw [hl 1 rfl]
        exact Ev.pos h0 (Ev.now _)
      refine Ev.neg h0 ?_
      by_cases h4 : ts[i].f4 = (i : Int) - 1
      · rw [if_neg (by omega)] at hr
        refine Ev.pos h4 (Ev.pos (by omega) (Ev.pos (by omega) (Ev.pos (by omega) ?_)))
        have hq := InvT_rd ts i s h ((i : Int) - 1) (by omega) (by omega)
        rw [wid (x := 1 + rd s ((i : Int) - 1)) (by omega) (by omega)]
        exact hr _ rfl
      · rw [if_pos (.inr h4)] at hl
        rw [hl 1 rfl]
        exact Ev.neg h4 (Ev.now _)
    rw [if_neg h9] at hl hr
    refine Ev.neg h9 ?_
    by_cases h10 : 9 < ts[i].f0
    · rw [if_pos h10] at hl hr
      refine Ev.pos h10 ?_
      by_cases h2 : (i : Int) < 2
      · rw [if_pos (.inl h2)] at hl
        rw [hl 1 rfl]
        exact Ev.pos h2 (Ev.now _)
      refine Ev.neg h2 ?_
      by_cases h5 : ts[i].f5 = (i : Int) - 1
      case neg =>
        rw [if_pos (.inr (.inl h5))] at hl
        rw [hl 1 rfl]
        exact Ev.neg h5 (Ev.now _)
      refine Ev.pos h5 ?_
      by_cases h4 : ts[i].f4 < 0
      · rw [if_pos (.inr (.inr (.inl h4)))] at hl
        rw [hl 1 rfl]
        exact Ev.pos h4 (Ev.now _)
      have hq := InvT_rd ts i s h ((i : Int) - 1) (by omega) (by omega)
      rw [wid (x := (i : Int) - 1 - rd s ((i : Int) - 1)) (by omega) (by omega)]
      refine Ev.neg h4 (Ev.pos (by omega) (Ev.pos (by omega) ?_))
      by_cases h6 : ts[i].f4 = (i : Int) - 1 - rd s ((i : Int) - 1)
      · rw [if_neg (by omega)] at hr
        have hq2 := InvT_rd ts i s h ts[i].f4 (by omega) (by omega)
        refine Ev.pos h6 (Ev.pos (by omega) (Ev.pos (by omega) (Ev.pos (by omega) ?_)))
        rw [wid (x := rd s ((i : Int) - 1) + rd s ts[i].f4) (by omega) (by omega), wid (x := 1 + (rd s ((i : Int) - 1) + rd s ts[i].f4)) (by omega) (by omega)]
        exact hr _ rfl
      · rw [if_pos (.inr (.inr (.inr h6)))] at hl
        rw [hl 1 rfl]
        exact Ev.neg h6 (Ev.now _)
    · rw [if_neg h10] at hr
      exact Ev.neg h10 (Ev.pos (by omega) (hr _ rfl))
  have j1 : ∀ b : Bool, (b = !(formT ts[i])) → Ev (fun k => impl_TermsFault.j1 k ts s (i : Int) 1 ts (ts.length : Int) (i : Int) b ts[i].f0 ts[i].f1 ts[i].f2 ts[i].f3 ts[i].f4 ts[i].f5) r := by
    intro b hb
    refine Ev.succ ?_
    simp only [impl_TermsFault.j1]
    rw [hb]
    by_cases hf : formT ts[i] = true
    case neg =>
      unfold stepT at hl
      rw [if_neg hf] at hl
      rw [hl 1 rfl]
      exact Ev.pos (by simpa using hf) (Ev.now _)
    refine Ev.neg (by simp [hf]) (Ev.bind (isNumT ts[i]) ?_)
    by_cases hn : numOk ts[i] = true
    case neg =>
      have hv : valueT ts[i] = 3 := by unfold valueT; rw [if_neg hn]
      unfold stepT at hl
      rw [if_pos hf, if_neg (by rw [hv]; decide), hv] at hl
      rw [hl 3 rfl]
      exact Ev.neg hn (Ev.now _)
    refine Ev.pos hn (Ev.bind (areCodesT ts[i] ok.1) ?_)
    by_cases hc : (!hasC ts[i] || codesOk ts[i].f2) = true
    case neg =>
      have hc1 : hasC ts[i] = true := by
        cases e : hasC ts[i] with
        | true => rfl
        | false => rw [e] at hc; exact absurd rfl hc
      have hc2 : ¬ codesOk ts[i].f2 = true := by
        intro e; rw [e] at hc; exact hc (by simp)
      have hv : valueT ts[i] = 3 := by unfold valueT; rw [if_pos hn, if_pos hc1, if_neg hc2]
      unfold stepT at hl
      rw [if_pos hf, if_neg (by rw [hv]; decide), hv] at hl
      rw [hl 3 rfl]
      exact Ev.neg hc (Ev.now _)
    refine Ev.pos hc ?_
    by_cases h8 : ts[i].f0 = 8
    · refine Ev.pos h8 (Ev.bind (ev_implRangesFault ts[i].f3 ok.2) ?_)
      have hc1 : ¬ hasC ts[i] = true := by
        unfold hasC; rw [h8]; decide
      have hv : valueT ts[i] = rangesFault ts[i].f3 := by unfold valueT; rw [if_pos hn, if_neg hc1, if_pos h8]
      by_cases h0 : rangesFault ts[i].f3 = 0
      · exact Ev.pos h0 (j2 hf (by rw [hv, h0]))
      · unfold stepT at hl
        rw [if_pos hf, if_neg (by rw [hv]; exact h0), hv] at hl
        rw [hl _ rfl]
        exact Ev.neg h0 (Ev.now _)
    · refine Ev.neg h8 (j2 hf ?_)
      unfold valueT
      rw [if_pos hn]
      by_cases hc1 : hasC ts[i] = true
      · rw [if_pos hc1]
        rw [hc1] at hc
        rw [if_pos (by simpa using hc)]
      · rw [if_neg hc1, if_neg h8]
  refine Ev.succ ?_
  simp only [impl_TermsFault.l0, rd_Term_get ts i hi, within_eq, Option.bind_some]
  refine Ev.pos (by omega) (Ev.pos (by omega) (Ev.pos (by omega) ?_))
  by_cases hk : 1 ≤ ts[i].f0 ∧ ts[i].f0 ≤ 11
  · exact Ev.pos (decide_eq_true hk) (Ev.bindc (isOnlyT ts[i] hk) (j1 _ rfl))
  · refine Ev.neg (by simpa using hk) (j1 _ ?_)
    unfold formT
    rw [decide_eq_false hk]
    rfl
theorem ev_implTermsFault (ts : List S72) (hok : ∀ y ∈ ts, okITerm y) : Ev (fun k => impl_TermsFault.f k ts) (termsFault ts) := by
  unfold impl_TermsFault.f termsFault
  simp only [impl_Term.f, within_eq, Option.bind_some]
  by_cases hlen : 1 ≤ ts.length ∧ ts.length ≤ 12
  case neg =>
    rw [if_neg hlen]
    exact Ev.neg (by simp; omega) (Ev.now _)
  rw [if_pos hlen]
  refine Ev.pos (by simp; omega) ?_
  have h := ev_run (fun k (s : List Int) i => impl_TermsFault.l0 k ts s ts (ts.length : Int) i) ts stepT (fun s => if rd s ((ts.length : Int) - 1) = ts.length then 0 else 1) (InvT ts) ?_ ?_ ?_ 0 [] (by omega) ⟨rfl, fun j hj => absurd hj (by omega)⟩
  · rw [List.drop_zero] at h; revert h; cases run stepT ts [] <;> exact fun h => h
  · intro s hI
    have hl : s.length = ts.length := hI.1
    refine Ev.succ ?_
    simp only [impl_TermsFault.l0, Int.lt_irrefl, if_false, impl_Term.f, Option.bind_some]
    rw [wid (x := (ts.length : Int) - 1) (by omega) (by omega)]
    exact Ev.pos (by omega) (Ev.pos (by omega) (Ev.ite (fun _ => Ev.now _) (fun _ => Ev.now _)))
  · intro i hi s r hI hs
    exact ev_implStep ts i s hi hlen.2 hI (hok _ (List.getElem_mem hi)) r (fun v hv => by rw [hs] at hv; cases hv; rfl) (fun s' hs' => by rw [hs] at hs'; cases hs')
  · intro i hi s s' hI hs
    refine ⟨InvT_step ts i s s' hi hI hs, fun r h => ?_⟩
    exact ev_implStep ts i s hi hlen.2 hI (hok _ (List.getElem_mem hi)) r (fun v hv => by rw [hs] at hv; cases hv) (fun s2 hs2 => by rw [hs] at hs2; cases hs2; exact h)
-- needs:
def ba (l : List UInt8) : ByteArray := ⟨l.toArray⟩
theorem ba_size (l : List UInt8) : (ba l).size = l.length := by simp [ba, ByteArray.size]
theorem ba_append (a b : List UInt8) : ba a ++ ba b = ba (a ++ b) := by
  apply ByteArray.ext
  simp [ba, ByteArray.data_append]
theorem ba_data (l : List UInt8) : (ba l).data.toList = l := by simp [ba]
def numL (n : Int) : List UInt8 := if n = 0 then [42] else Lib.decDigits n.toNat
theorem decDigits_le {u : Nat} (h : u < 1000) : (Lib.decDigits u).length ≤ 3 := by
  by_cases h1 : u < 10
  · rw [Lib.decDigits, dif_pos h1]; simp
  · rw [Lib.decDigits, dif_neg h1]
    by_cases h2 : u / 10 < 10
    · rw [Lib.decDigits, dif_pos h2]; simp
    · rw [Lib.decDigits, dif_neg h2, Lib.decDigits, dif_pos (by omega)]; simp
theorem numL_le {n : Int} (h0 : 0 ≤ n) (h1 : n ≤ 999) : (numL n).length ≤ 3 := by
  unfold numL
  split
  · simp
  · exact decDigits_le (by omega)
def wordL (r : S58) : List UInt8 := if r.f0 = r.f1 then numL r.f0 else numL r.f0 ++ (58 :: numL r.f1)
def textL (x : List S58) : List UInt8 := Lib.join (x.map wordL) [44]
theorem wordL_le {r : S58} (h : okRange r = true) : (wordL r).length ≤ 7 := by
  simp only [okRange, decide_eq_true_eq] at h
  have h0 := numL_le h.1.1 h.1.2
  have h1 := numL_le h.2.1 h.2.2
  unfold wordL
  split
  · omega
  · simp only [List.length_append, List.length_cons]; omega
theorem join_snoc (xs : List (List UInt8)) (y sep : List UInt8) : Lib.join (xs ++ [y]) sep = if xs = [] then y else Lib.join xs sep ++ (sep ++ y) := by
  cases xs with
  | nil => simp [Lib.join_one]
  | cons x r =>
    rw [if_neg (by simp), List.cons_append, Lib.join_cons, Lib.join_cons]
    simp [Lib.joinTail]
theorem textL_succ (x : List S58) (i : Nat) (h : i < x.length) : textL (x.take (i + 1)) = if i = 0 then wordL x[i] else textL (x.take i) ++ (44 :: wordL x[i]) := by
  unfold textL
  rw [List.take_succ_eq_append_getElem h, List.map_append, List.map_cons, List.map_nil, join_snoc]
  by_cases h0 : i = 0
  · subst h0; simp
  · rw [if_neg h0, if_neg (by intro he; have := congrArg List.length he; simp only [List.length_map, List.length_take, List.length_nil] at this; omega)]; rfl
theorem textL_le (x : List S58) (hx : x.all okRange = true) (i : Nat) (h : i ≤ x.length) : (textL (x.take i)).length ≤ 8 * i := by
  induction i with
  | zero => simp [textL, Lib.join_nil]
  | succ i ih =>
    have := ih (by omega)
    have hw := wordL_le (List.all_eq_true.1 hx x[i] (List.getElem_mem _))
    rw [textL_succ x i (by omega)]
    split
    · omega
    · simp only [List.length_append, List.length_cons]; omega
theorem endText_eq (n : Int) (h0 : 0 ≤ n) (h1 : n ≤ 999) : impl_endText.f n = some (ba (numL n)) := by
  unfold impl_endText.f impl_decimal.f strconv_FormatInt.f numL
  by_cases h : n = 0
  · rw [if_pos h, if_pos h]; rfl
  · rw [if_neg h, if_neg h, if_pos ⟨rfl, by omega, by omega⟩]
    obtain ⟨m, rfl⟩ := Int.eq_ofNat_of_zero_le h0
    simp only [Option.bind_some, Lib.itoa_nonneg, Int.toNat_natCast]
    rfl
theorem digit_eq (m : Nat) (h : m < 10) : strOfNums [(wrap64 (48 + (m : Int))) % 256] = ba [UInt8.ofNat (48 + m)] := by
  rw [wid (by omega) (by omega), show (48 + (m : Int)) % 256 = ((48 + m : Nat) : Int) by omega]
  rfl
theorem ev_l1Digits (n : Nat) (hn : n ≤ 999) : Ev (fun k => spec_l1Digits.f k (n : Int)) (ba (Lib.decDigits n)) := by
  induction n using Nat.strongRecOn with
  | _ n ih =>
    refine Ev.succ ?_
    simp only [spec_l1Digits.f]
    by_cases h : n < 10
    · refine Ev.pos (by omega) ?_
      rw [Lib.decDigits_one h, digit_eq n h]
      exact Ev.now _
    · refine Ev.neg (by omega) ?_
      have e1 : wrap64 (Int.tdiv (n : Int) 10) = ((n / 10 : Nat) : Int) := by rw [Int.tdiv_eq_ediv_of_nonneg (by omega), wid (by omega) (by omega)]; omega
      have e2 : Int.tmod (n : Int) 10 = ((n % 10 : Nat) : Int) := by rw [Int.tmod_eq_emod_of_nonneg (by omega)]; omega
      rw [e1, e2]
      refine Ev.bind (ih (n / 10) (by omega) (by omega)) ?_
      have hl := decDigits_le (u := n / 10) (by omega)
      rw [show Lib.decDigits n = Lib.decDigits (n / 10) ++ [UInt8.ofNat (48 + n % 10)] by rw [Lib.decDigits, dif_neg h]]
      simp only [Option.bind_some, digit_eq (n % 10) (show n % 10 < 10 by omega), ba_append, ba_size]
      exact Ev.pos (by simp only [List.length_singleton]; omega) (Ev.now _)
theorem ev_l11Number (n : Int) (h0 : 0 ≤ n) (h1 : n ≤ 999) : Ev (fun k => spec_l11Number.f k n) (ba (numL n)) := by
  unfold spec_l11Number.f numL
  by_cases h : n = 0
  · rw [if_pos h]; exact Ev.pos h (Ev.now _)
  · rw [if_neg h]
    obtain ⟨m, rfl⟩ := Int.eq_ofNat_of_zero_le h0
    exact Ev.neg h (Ev.bind (ev_l1Digits m (by omega)) (Ev.now _))
theorem ev_setText (x : List S58) (hl : x.length ≤ 8) (hx : x.all okRange = true) : Ev (fun k => impl_setText.f k x) (ba (textL x)) := by
  unfold impl_setText.f
  have h := ev_iter (fun k (s : List ByteArray) i => impl_setText.l0 k s x (x.length : Int) i) x.length (fun i => (x.take i).map (fun r => ba (wordL r))) (ba (textL x)) ?_ ?_
  · simpa using h
  · refine Ev.succ ?_
    simp only [impl_setText.l0, Int.lt_irrefl, if_false, List.take_length]
    have e : ((x.map (fun r => ba (wordL r))).map (fun y => y.data.toList)) = x.map wordL := by
      rw [List.map_map]
      exact List.map_congr_left (fun r _ => ba_data _)
    have hj : strings_Join.f (x.map (fun r => ba (wordL r))) (⟨#[44]⟩ : ByteArray) = some (ba (textL x)) := by
      unfold strings_Join.f
      rw [e]
      have ht := textL_le x hx x.length (Nat.le_refl _)
      rw [List.take_length] at ht
      rw [if_pos ⟨by rw [List.length_map]; omega, by change (textL x).length ≤ _; omega⟩]
      rfl
    rw [hj]
    exact Ev.now _
  · intro i hi r h
    have hk := List.all_eq_true.1 hx x[i] (List.getElem_mem _)
    simp only [okRange, decide_eq_true_eq] at hk
    have h0 := numL_le hk.1.1 hk.1.2
    have h1 := numL_le hk.2.1 hk.2.2
    refine Ev.succ ?_
    simp only [impl_setText.l0, rd_Range_get x i hi, endText_eq _ hk.1.1 hk.1.2, endText_eq _ hk.2.1 hk.2.2, Option.bind_some, wsucc hi (show x.length ≤ 281474976710656 by omega), List.length_map, List.length_take]
    refine Ev.pos (by omega) (Ev.pos (by omega) (Ev.pos (by omega) ?_))
    rw [List.take_succ_eq_append_getElem hi, List.map_append, List.map_cons, List.map_nil] at h
    unfold wordL at h
    by_cases hq : x[i].f0 = x[i].f1
    · rw [if_pos hq] at h
      exact Ev.pos hq (Ev.pos (by omega) h)
    · rw [if_neg hq] at h
      refine Ev.neg hq (Ev.pos (by rw [ba_size]; omega) ?_)
      rw [show (⟨#[58]⟩ : ByteArray) ++ ba (numL x[i].f1) = ba (58 :: numL x[i].f1) from ba_append [58] _]
      refine Ev.pos (by rw [ba_size, ba_size, List.length_cons]; omega) (Ev.pos (by omega) ?_)
      rw [ba_append]
      exact h
theorem ev_l11Text (x : List S58) (hl : x.length ≤ 8) (hx : x.all okRange = true) : Ev (fun k => spec_l11Text.f k x) (ba (textL x)) := by
  unfold spec_l11Text.f
  have h := ev_iter (fun k (s : ByteArray) i => spec_l11Text.l0 k x s i) x.length (fun i => ba (textL (x.take i))) (ba (textL x)) ?_ ?_
  · exact h
  · refine Ev.succ ?_
    simp only [spec_l11Text.l0, Int.lt_irrefl, if_false, List.take_length]
    exact Ev.now _
  · intro i hi r h
    have hk := List.all_eq_true.1 hx x[i] (List.getElem_mem _)
    simp only [okRange, decide_eq_true_eq] at hk
    have h0 := numL_le hk.1.1 hk.1.2
    have h1 := numL_le hk.2.1 hk.2.2
    have ht := textL_le x hx i (by omega)
    refine Ev.succ ?_
    simp only [spec_l11Text.l0]
    refine Ev.pos (by omega) ?_
    have step : ∀ p : List UInt8, p.length ≤ 100 → textL (x.take (i + 1)) = p ++ wordL x[i] → Ev (fun k => spec_l11Text.j1 k x (ba p) (i : Int)) r := by
      intro p hp he
      refine Ev.succ ?_
      simp only [spec_l11Text.j1, rd_Range_get x i hi, wsucc hi (show x.length ≤ 281474976710656 by omega)]
      refine Ev.pos (by omega) (Ev.pos (by omega) (Ev.bind (ev_l11Number _ hk.1.1 hk.1.2) (Ev.pos (by rw [ba_size, ba_size]; omega) ?_)))
      simp only [ba_append]
      rw [he] at h
      unfold wordL at h
      by_cases hq : x[i].f0 = x[i].f1
      · rw [if_pos hq] at h
        exact Ev.pos hq h
      · rw [if_neg hq] at h
        refine Ev.neg hq (Ev.pos (by rw [ba_size, List.length_append]; omega) (Ev.bind (ev_l11Number _ hk.2.1 hk.2.2) ?_))
        rw [show ba (p ++ numL x[i].f0) ++ (⟨#[58]⟩ : ByteArray) = ba ((p ++ numL x[i].f0) ++ [58]) from ba_append _ [58]]
        refine Ev.pos (by rw [ba_size, ba_size, List.length_append, List.length_append, List.length_singleton]; omega) ?_
        rw [ba_append]
        simpa using h
    by_cases hz : i = 0
    · subst hz
      refine Ev.neg (by simp) ?_
      have := step [] (by simp) (by rw [textL_succ x 0 hi]; simp)
      simpa [textL, Lib.join_nil] using this
    · refine Ev.pos (by omega) (Ev.pos (by rw [ba_size]; omega) ?_)
      rw [show ba (textL (x.take i)) ++ (⟨#[44]⟩ : ByteArray) = ba (textL (x.take i) ++ [44]) from ba_append _ [44]]
      exact step _ (by simp only [List.length_append, List.length_singleton]; omega) (by rw [textL_succ x i hi, if_neg hz]; simp)
def flagsTx (n : Int) : ByteArray := (impl_flagsText.f 40 n).getD ByteArray.empty
theorem flagsTx_impl (n : Int) (h0 : 0 ≤ n) (h1 : n ≤ 15) : Ev (fun k => impl_flagsText.f k n) (flagsTx n) := by
  have hc : n = 0 ∨ n = 1 ∨ n = 2 ∨ n = 3 ∨ n = 4 ∨ n = 5 ∨ n = 6 ∨ n = 7 ∨ n = 8 ∨ n = 9 ∨ n = 10 ∨ n = 11 ∨ n = 12 ∨ n = 13 ∨ n = 14 ∨ n = 15 := by omega
  rcases hc with rfl | rfl | rfl | rfl | rfl | rfl | rfl | rfl | rfl | rfl | rfl | rfl | rfl | rfl | rfl | rfl
  all_goals exact Ev.of (fun k => impl_flagsText.mono _ k) (k := 40) (by kernel_rfl)
theorem flagsTx_spec (n : Int) (h0 : 0 ≤ n) (h1 : n ≤ 15) : Ev (fun k => spec_l7Flags.f k n) (flagsTx n) := by
  have hc : n = 0 ∨ n = 1 ∨ n = 2 ∨ n = 3 ∨ n = 4 ∨ n = 5 ∨ n = 6 ∨ n = 7 ∨ n = 8 ∨ n = 9 ∨ n = 10 ∨ n = 11 ∨ n = 12 ∨ n = 13 ∨ n = 14 ∨ n = 15 := by omega
  rcases hc with rfl | rfl | rfl | rfl | rfl | rfl | rfl | rfl | rfl | rfl | rfl | rfl | rfl | rfl | rfl | rfl
  all_goals exact Ev.of (fun k => spec_l7Flags.mono _ k) (k := 40) (by kernel_rfl)
theorem run_steps {α σ ρ : Type} (f : σ → α → ρ ⊕ σ) : ∀ (l : List α) (s s' : σ), run f l s = .inr s' → ∃ st : Nat → σ, st 0 = s ∧ st l.length = s' ∧ ∀ (i : Nat) (h : i < l.length), f (st i) l[i] = .inr (st (i + 1))
  | [], s, s', h => by
    cases h
    exact ⟨fun _ => s, rfl, rfl, fun i h => absurd h (by simp)⟩
  | a :: l, s, s', h => by
    cases ha : f s a with
    | inl r => rw [run_inl ha] at h; cases h
    | inr s1 =>
      rw [run_inr ha] at h
      obtain ⟨st, h0, h1, h2⟩ := run_steps f l s1 s' h
      refine ⟨fun i => match i with | 0 => s | i + 1 => st i, rfl, by simpa using h1, fun i hi => ?_⟩
      cases i with
      | zero => simp only [List.getElem_cons_zero, h0]; exact ha
      | succ i => simp only [List.getElem_cons_succ]; exact h2 i (by simpa using hi)
/-- What is known of each of right terms. -/
def goodT (x : List S72) (i : Nat) (t : S72) : Prop := formT t = true ∧ valueT t = 0 ∧ (t.f0 = 9 → ∃ p : Nat, p < i ∧ t.f4 = (p : Int)) ∧ (9 < t.f0 → ∃ p q : Nat, p < i ∧ q < i ∧ t.f4 = (p : Int) ∧ t.f5 = (q : Int))
theorem good_of (x : List S72) (h : termsFault x = 0) : (1 ≤ x.length ∧ x.length ≤ 12) ∧ ∀ (i : Nat) (hi : i < x.length), goodT x i x[i] := by
  unfold termsFault at h
  by_cases hl : 1 ≤ x.length ∧ x.length ≤ 12
  case neg => rw [if_neg hl] at h; exact absurd h (by decide)
  rw [if_pos hl] at h
  refine ⟨hl, ?_⟩
  have nz : ∀ (s : List Int) (t : S72) (r : Int), stepT s t = .inl r → r ≠ 0 := by
    intro s t r hr
    unfold stepT at hr
    by_cases c1 : formT t = true
    case neg => rw [if_neg c1] at hr; cases hr; decide
    rw [if_pos c1] at hr
    by_cases c2 : valueT t = 0
    case neg => rw [if_neg c2] at hr; cases hr; exact c2
    rw [if_pos c2] at hr
    by_cases c3 : t.f0 = 9
    · rw [if_pos c3] at hr
      split at hr <;> cases hr
      decide
    · rw [if_neg c3] at hr
      by_cases c4 : 9 < t.f0
      · rw [if_pos c4] at hr
        split at hr <;> cases hr
        decide
      · rw [if_neg c4] at hr; cases hr
  have nz2 : ∀ (l : List S72) (s : List Int) (r : Int), run stepT l s = .inl r → r ≠ 0 := by
    intro l
    induction l with
    | nil => intro s r hr; cases hr
    | cons a l ih =>
      intro s r hr
      cases ha : stepT s a with
      | inl q => rw [run_inl ha] at hr; cases hr; exact nz s a _ ha
      | inr s1 => rw [run_inr ha] at hr; exact ih s1 r hr
  cases hrun : run stepT x [] with
  | inl r => rw [hrun] at h; exact absurd h (nz2 x [] r hrun)
  | inr s =>
    obtain ⟨st, h0, _, h2⟩ := run_steps stepT x [] s hrun
    have inv : ∀ i, i ≤ x.length → InvT x i (st i) := by
      intro i
      induction i with
      | zero => intro _; rw [h0]; exact ⟨rfl, fun j hj => absurd hj (by omega)⟩
      | succ i ih => intro hi; exact InvT_step x i _ _ (by omega) (ih (by omega)) (h2 i (by omega))
    intro i hi
    have hI := inv i (by omega)
    have hs := h2 i hi
    generalize st i = s at hI hs
    generalize st (i + 1) = s' at hs
    have hlen := hI.1
    unfold stepT at hs
    by_cases c1 : formT x[i] = true
    case neg => rw [if_neg c1] at hs; cases hs
    rw [if_pos c1] at hs
    by_cases c2 : valueT x[i] = 0
    case neg => rw [if_neg c2] at hs; cases hs
    rw [if_pos c2] at hs
    refine ⟨c1, c2, ?_, ?_⟩
    · intro c3
      rw [if_pos c3] at hs
      split at hs
      · cases hs
      · rename_i hn
        exact ⟨i - 1, by omega, by omega⟩
    · intro c4
      rw [if_neg (by omega), if_pos c4] at hs
      split at hs
      · cases hs
      · rename_i hn
        have := InvT_rd x i s hI ((s.length : Int) - 1) (by omega) (by omega)
        exact ⟨x[i].f4.toNat, i - 1, by omega, by omega, by omega, by omega⟩
theorem word_eq (n : Int) (h0 : 1 ≤ n) (h1 : n ≤ 11) : ∃ w : ByteArray, spec_l12Word.f n = some w ∧ w.size ≤ 7 ∧ rdOf ByteArray.empty ([(⟨#[97, 108, 108]⟩ : ByteArray), (⟨#[102, 108, 97, 103]⟩ : ByteArray), (⟨#[115, 105, 110, 99, 101]⟩ : ByteArray), (⟨#[98, 101, 102, 111, 114, 101]⟩ : ByteArray), (⟨#[108, 97, 114, 103, 101, 114]⟩ : ByteArray), (⟨#[115, 117, 98, 106, 101, 99, 116]⟩ : ByteArray), (⟨#[98, 111, 100, 121]⟩ : ByteArray), (⟨#[117, 105, 100]⟩ : ByteArray), (⟨#[110, 111, 116]⟩ : ByteArray), (⟨#[97, 110, 100]⟩ : ByteArray), (⟨#[111, 114]⟩ : ByteArray)] : List ByteArray) (wrap64 (n - 1)) = w := by
  have hc : n = 1 ∨ n = 2 ∨ n = 3 ∨ n = 4 ∨ n = 5 ∨ n = 6 ∨ n = 7 ∨ n = 8 ∨ n = 9 ∨ n = 10 ∨ n = 11 := by omega
  rcases hc with rfl | rfl | rfl | rfl | rfl | rfl | rfl | rfl | rfl | rfl | rfl
  · exact ⟨⟨#[97, 108, 108]⟩, by kernel_rfl, by decide, by kernel_rfl⟩
  · exact ⟨⟨#[102, 108, 97, 103]⟩, by kernel_rfl, by decide, by kernel_rfl⟩
  · exact ⟨⟨#[115, 105, 110, 99, 101]⟩, by kernel_rfl, by decide, by kernel_rfl⟩
  · exact ⟨⟨#[98, 101, 102, 111, 114, 101]⟩, by kernel_rfl, by decide, by kernel_rfl⟩
  · exact ⟨⟨#[108, 97, 114, 103, 101, 114]⟩, by kernel_rfl, by decide, by kernel_rfl⟩
  · exact ⟨⟨#[115, 117, 98, 106, 101, 99, 116]⟩, by kernel_rfl, by decide, by kernel_rfl⟩
  · exact ⟨⟨#[98, 111, 100, 121]⟩, by kernel_rfl, by decide, by kernel_rfl⟩
  · exact ⟨⟨#[117, 105, 100]⟩, by kernel_rfl, by decide, by kernel_rfl⟩
  · exact ⟨⟨#[110, 111, 116]⟩, by kernel_rfl, by decide, by kernel_rfl⟩
  · exact ⟨⟨#[97, 110, 100]⟩, by kernel_rfl, by decide, by kernel_rfl⟩
  · exact ⟨⟨#[111, 114]⟩, by kernel_rfl, by decide, by kernel_rfl⟩
/-- The bytes of a character in utf-8. -/
def encC (c : Int) : List Int := if c ≥ 2048 then [(wrap64 (224 + (wrap64 (Int.tdiv c 4096)))) % 256, (wrap64 (128 + (Int.tmod (wrap64 (Int.tdiv c 64)) 64))) % 256, (wrap64 (128 + (Int.tmod c 64))) % 256] else if c ≥ 128 then [(wrap64 (192 + (wrap64 (Int.tdiv c 64)))) % 256, (wrap64 (128 + (Int.tmod c 64))) % 256] else [c % 256]
theorem encC_le (c : Int) : (encC c).length ≤ 3 := by
  unfold encC
  split
  · simp
  · split <;> simp
theorem ev_encI (c : Int) : Ev (fun k => impl_encodeChar.f k 4 c) (encC c) := by
  refine Ev.at 3 (fun k => ?_)
  unfold encC
  simp only [impl_encodeChar.f, impl_encodeChar.j0, impl_encodeChar.j1, impl_encodeChar.j2, impl_encodeChar_1.f, Option.bind_some]
  by_cases h1 : c ≥ 2048
  · simp [h1]
  · by_cases h2 : c ≥ 128
    · simp [h1, h2]
    · simp [h1, h2]
theorem ev_encS (c : Int) : Ev (fun k => spec_l2Bytes.f k 4 c) (encC c) := by
  refine Ev.at 1 (fun k => ?_)
  unfold encC
  simp only [spec_l2Bytes.f, spec_l2Bytes.j0, Option.bind_some]
  by_cases h2 : c < 128
  · rw [if_neg (show ¬ c ≥ 2048 by omega), if_neg (show ¬ c ≥ 128 by omega)]
    simp [h2]
  · by_cases h1 : c < 2048
    · rw [if_neg (show ¬ c ≥ 2048 by omega), if_pos (show c ≥ 128 by omega)]
      simp [h2, h1]
    · rw [if_pos (show c ≥ 2048 by omega)]
      simp [h2, h1]
def encL (x : List Int) : List Int := x.flatMap encC
theorem encL_succ (x : List Int) (i : Nat) (h : i < x.length) : encL (x.take (i + 1)) = encL (x.take i) ++ encC x[i] := by
  unfold encL
  rw [List.take_succ_eq_append_getElem h, List.flatMap_append, List.flatMap_cons, List.flatMap_nil, List.append_nil]
theorem encL_le (x : List Int) : ∀ i, i ≤ x.length → (encL (x.take i)).length ≤ 3 * i
  | 0, _ => by simp [encL]
  | i + 1, h => by
    have := encL_le x i (by omega)
    have := encC_le x[i]
    rw [encL_succ x i (by omega), List.length_append]
    omega
theorem ev_encodeChars (x : List Int) (hx : x.length ≤ 20) : Ev (fun k => impl_encodeChars.f k 4 x) (encL x) := by
  unfold impl_encodeChars.f
  have h := ev_iter (fun k (s : List Int) i => impl_encodeChars.l0 k 4 s x (x.length : Int) i) x.length (fun i => encL (x.take i)) (encL x) ?_ ?_
  · simpa [encL] using h
  · refine Ev.succ ?_
    simp only [impl_encodeChars.l0, Int.lt_irrefl, if_false, List.take_length]
    exact Ev.now _
  · intro i hi r h
    have h1 := encL_le x i (by omega)
    have h2 := encC_le x[i]
    refine Ev.succ ?_
    simp only [impl_encodeChars.l0, rd_get x i hi, wsucc hi (show x.length ≤ 281474976710656 by omega)]
    rw [encL_succ x i hi] at h
    exact Ev.pos (by omega) (Ev.pos (by omega) (Ev.pos (by omega) (Ev.bind (ev_encI x[i]) (Ev.pos (by omega) h))))
theorem ev_l2Encode (x : List Int) (hx : x.length ≤ 20) : Ev (fun k => spec_l2Encode.f k 4 x) (encL x, 0) := by
  unfold spec_l2Encode.f
  have h := ev_iter (fun k (s : List Int) i => spec_l2Encode.l0 k 4 x s i) x.length (fun i => encL (x.take i)) (encL x, 0) ?_ ?_
  · simpa [encL] using h
  · have := encL_le x x.length (Nat.le_refl _)
    rw [List.take_length] at this ⊢
    refine Ev.succ ?_
    simp only [spec_l2Encode.l0]
    exact Ev.neg (by omega) (Ev.neg (by omega) (Ev.now _))
  · intro i hi r h
    have h1 := encL_le x i (by omega)
    have h2 := encC_le x[i]
    refine Ev.succ ?_
    simp only [spec_l2Encode.l0, rd_get x i hi, wsucc hi (show x.length ≤ 281474976710656 by omega)]
    rw [encL_succ x i hi] at h
    have hh : Ev (fun k => spec_l2Has.f k 4 x[i]) true := ⟨0, fun k _ => by simp [spec_l2Has.f]⟩
    exact Ev.pos (by omega) (Ev.pos (by omega) (Ev.bind hh (Ev.pos rfl (Ev.bind (ev_encS x[i]) (Ev.pos (by omega) h)))))
theorem ev_digits4 (n : Nat) (hn : n ≤ 9999) : Ev (fun k => spec_l1Digits.f k (n : Int)) (ba (Lib.decDigits n)) := by
  by_cases h : n ≤ 999
  · exact ev_l1Digits n h
  · refine Ev.succ ?_
    simp only [spec_l1Digits.f]
    refine Ev.neg (by omega) ?_
    have e1 : wrap64 (Int.tdiv (n : Int) 10) = ((n / 10 : Nat) : Int) := by rw [Int.tdiv_eq_ediv_of_nonneg (by omega), wid (by omega) (by omega)]; omega
    have e2 : Int.tmod (n : Int) 10 = ((n % 10 : Nat) : Int) := by rw [Int.tmod_eq_emod_of_nonneg (by omega)]; omega
    rw [e1, e2]
    refine Ev.bind (ev_l1Digits (n / 10) (by omega)) ?_
    have hl := decDigits_le (u := n / 10) (by omega)
    rw [show Lib.decDigits n = Lib.decDigits (n / 10) ++ [UInt8.ofNat (48 + n % 10)] by rw [Lib.decDigits, dif_neg (by omega)]]
    simp only [Option.bind_some, digit_eq (n % 10) (show n % 10 < 10 by omega), ba_append, ba_size]
    exact Ev.pos (by simp only [List.length_singleton]; omega) (Ev.now _)
theorem decDigits_le4 (n : Nat) (hn : n ≤ 9999) : (Lib.decDigits n).length ≤ 4 := by
  by_cases h : n < 10
  · rw [Lib.decDigits_one h]; simp
  · have hl := decDigits_le (u := n / 10) (by omega)
    rw [show Lib.decDigits n = Lib.decDigits (n / 10) ++ [UInt8.ofNat (48 + n % 10)] by rw [Lib.decDigits, dif_neg h], List.length_append, List.length_singleton]
    omega
theorem decimal_eq (n : Nat) (hn : n ≤ 9999) : impl_decimal.f (n : Int) = some (ba (Lib.decDigits n)) := by
  unfold impl_decimal.f strconv_FormatInt.f
  rw [if_pos ⟨rfl, by omega, by omega⟩]
  simp only [Option.bind_some, Lib.itoa_nonneg]
  rfl
theorem flags_size (n : Int) (h : n = 1 ∨ n = 2 ∨ n = 4 ∨ n = 8) : (flagsTx n).size ≤ 100 := by
  rcases h with rfl | rfl | rfl | rfl
  all_goals exact of_decide_eq_true (by kernel_rfl)
def cvRange (x : S61) : S58 := ⟨x.f0, x.f1⟩
theorem rd_lRange_get (x : List S61) (i : Nat) (h : i < x.length) : rd_T61 x (i : Int) = x[i] := by simp [rd_T61, List.getD_eq_getElem?_getD, h]
def cvTerm (x : S68) : S72 := ⟨x.f0, x.f1, x.f2, x.f3.map cvRange, x.f4, x.f5⟩
def bigTerm (x : S68) : Prop := x.f2.length ≤ 140737488351232 ∧ x.f3.length * 16 ≤ 140737488351232
def okTerm (x : S68) : Prop := x.f2.length ≤ 1048576 ∧ x.f3.length ≤ 1048576
theorem okITerm_cv {x : List S68} (hin : ∀ y ∈ x, okTerm y) : ∀ y ∈ x.map cvTerm, okITerm y := by
  intro y hy
  obtain ⟨z, hz, rfl⟩ := List.mem_map.1 hy
  have := hin z hz
  exact ⟨this.1, by simpa [cvTerm] using this.2⟩
theorem rd_lTerm_get (x : List S68) (i : Nat) (h : i < x.length) : rd_T68 x (i : Int) = x[i] := by simp [rd_T68, List.getD_eq_getElem?_getD, h]
theorem szInt64S_eq (x : List Int) (m : Int) (hx : x.length ≤ 140737488351232) (h0 : 0 ≤ m) (h1 : m ≤ 1048576) : laws_szInt64S.f x m = some (if m - x.length < 0 then -1 else m - x.length) := by
  unfold laws_szInt64S.f
  rw [wid (by omega) (by omega)]
  split <;> rfl
theorem szRangeS_eq (x : List S61) (m : Int) (hx : x.length * 16 ≤ 140737488351232) (h0 : 0 ≤ m) (h1 : m ≤ 1048576) : laws_szRangeS.f x m = some (if m - x.length < 0 then -1 else m - x.length) := by
  unfold laws_szRangeS.f
  rw [wid (by omega) (by omega)]
  split <;> rfl
theorem ev_toInt64S (x : List Int) (hx : x.length ≤ 1048576) : Ev (fun k => laws_toInt64S.f k x) x := by
  unfold laws_toInt64S.f
  have h := ev_copy (fun k y i => laws_toInt64S.l0 k x y i) x (fun a => a) (fun y => y) ?_ ?_ (List.replicate x.length 0) (by simp)
  · simp only [List.map_id'] at h
    refine Ev.pos (by omega) (Ev.pos (by omega) ?_)
    simp only [Int.toNat_natCast]
    exact h
  · refine Ev.succ ?_
    simp only [laws_toInt64S.l0, Int.lt_irrefl, if_false]
    exact Ev.now _
  · intro i hi y hy r h
    refine Ev.succ ?_
    simp only [laws_toInt64S.l0]
    refine Ev.pos (by omega) (Ev.pos (by omega) (Ev.pos (by omega) ?_))
    simp only [Int.toNat_natCast, rd_get x i hi, wsucc hi (show x.length ≤ 281474976710656 by omega)]
    exact h
theorem ev_toRangeS (x : List S61) (hx : x.length ≤ 1048576) : Ev (fun k => laws_toRangeS.f k x) (x.map cvRange) := by
  unfold laws_toRangeS.f
  have h := ev_copy (fun k y i => laws_toRangeS.l0 k x y i) x cvRange (fun y => y) ?_ ?_ (List.replicate x.length z58) (by simp)
  · refine Ev.pos (by omega) (Ev.pos (by omega) ?_)
    simp only [Int.toNat_natCast]
    exact h
  · refine Ev.succ ?_
    simp only [laws_toRangeS.l0, Int.lt_irrefl, if_false]
    exact Ev.now _
  · intro i hi y hy r h
    refine Ev.succ ?_
    simp only [laws_toRangeS.l0, laws_toRange.f, Option.bind_some]
    refine Ev.pos (by omega) (Ev.pos (by omega) (Ev.pos (by omega) ?_))
    simp only [Int.toNat_natCast, rd_lRange_get x i hi, wsucc hi (show x.length ≤ 281474976710656 by omega)]
    exact h
theorem ev_eqInt64S (x : List Int) (hx : x.length ≤ 1048576) : Ev (fun k => laws_eqInt64S.f k x x) true := by
  unfold laws_eqInt64S.f
  refine Ev.pos rfl ?_
  refine ev_iter (fun k (_ : Unit) i => laws_eqInt64S.l0 k x x i) x.length (fun _ => ()) true ?_ ?_
  · refine Ev.succ ?_
    simp only [laws_eqInt64S.l0, Int.lt_irrefl, if_false]
    exact Ev.now _
  · intro i hi r h
    refine Ev.succ ?_
    simp only [laws_eqInt64S.l0]
    refine Ev.pos (by omega) (Ev.pos (by omega) (Ev.pos (by omega) (Ev.pos trivial ?_)))
    simp only [wsucc hi (show x.length ≤ 281474976710656 by omega)]
    exact h
theorem ev_eqRangeS (x : List S58) (hx : x.length ≤ 1048576) : Ev (fun k => laws_eqRangeS.f k x x) true := by
  unfold laws_eqRangeS.f
  refine Ev.pos rfl ?_
  refine ev_iter (fun k (_ : Unit) i => laws_eqRangeS.l0 k x x i) x.length (fun _ => ()) true ?_ ?_
  · refine Ev.succ ?_
    simp only [laws_eqRangeS.l0, Int.lt_irrefl, if_false]
    exact Ev.now _
  · intro i hi r h
    refine Ev.succ ?_
    simp only [laws_eqRangeS.l0, laws_eqRange.f]
    refine Ev.pos (by omega) (Ev.pos (by omega) (Ev.pos (by omega) ?_))
    simp only [if_true, Option.bind_some, wsucc hi (show x.length ≤ 281474976710656 by omega)]
    exact h
theorem ev_szTerm (y : S68) (hy : bigTerm y) (m : Int) (h0 : 0 ≤ m) (h1 : m ≤ 1048576) : ∃ r, Ev (fun _ => laws_szTerm.f y.f0 y.f1 y.f2 y.f3 y.f4 y.f5 m) r ∧ (r < 0 ∨ (0 ≤ r ∧ r ≤ m ∧ okTerm y)) := by
  obtain ⟨b2, b3⟩ := hy
  unfold laws_szTerm.f okTerm
  rw [szInt64S_eq y.f2 m b2 (by omega) (by omega)]
  simp only [Option.bind_some]
  by_cases c2 : m - (y.f2.length : Int) < 0
  · rw [if_pos c2]
    exact ⟨-1, Ev.pos (by omega) (Ev.now _), .inl (by omega)⟩
  rw [if_neg c2, szRangeS_eq y.f3 (m - y.f2.length) b3 (by omega) (by omega)]
  simp only [Option.bind_some]
  by_cases c3 : m - (y.f2.length : Int) - (y.f3.length : Int) < 0
  · rw [if_pos c3]
    exact ⟨-1, Ev.neg (by omega) (Ev.pos (by omega) (Ev.now _)), .inl (by omega)⟩
  · rw [if_neg c3]
    exact ⟨_, Ev.neg (by omega) (Ev.neg (by omega) (Ev.now _)), .inr ⟨by omega, by omega, by omega, by omega⟩⟩
theorem ev_toTerm (y : S68) (hy : okTerm y) : Ev (fun k => laws_toTerm.f k y.f0 y.f1 y.f2 y.f3 y.f4 y.f5) (y.f0, y.f1, y.f2, y.f3.map cvRange, y.f4, y.f5) := by
  unfold laws_toTerm.f
  exact Ev.bind (ev_toInt64S _ hy.1) (Ev.bind (ev_toRangeS _ hy.2) (Ev.now _))
theorem ev_eqTerm (y : S72) (hy : okITerm y) : Ev (fun k => laws_eqTerm.f k y.f0 y.f1 y.f2 y.f3 y.f4 y.f5 y.f0 y.f1 y.f2 y.f3 y.f4 y.f5) true := by
  unfold laws_eqTerm.f
  refine Ev.pos rfl (Ev.pos rfl (Ev.bind (ev_eqInt64S _ hy.1) (Ev.pos rfl (Ev.bind (ev_eqRangeS _ hy.2) (Ev.pos rfl (Ev.pos rfl (Ev.pos rfl (Ev.now _))))))))
theorem ev_szTermS (x : List S68) (hx : x.length ≤ 140737488351232) (hin : ∀ y ∈ x, bigTerm y) (m : Int) (h0 : 0 ≤ m) (h1 : m ≤ 1048576) :
    ∃ r, Ev (fun k => laws_szTermS.f k x m) r ∧ (r < 0 ∨ (0 ≤ r ∧ r ≤ m ∧ x.length ≤ 1048576 ∧ ∀ y ∈ x, okTerm y)) := by
  unfold laws_szTermS.f
  simp only [wid (x := m - x.length) (by omega) (by omega)]
  by_cases hn : m - (x.length : Int) < 0
  · exact ⟨-1, Ev.pos hn (Ev.now _), .inl (by omega)⟩
  suffices H : ∃ r, Ev (fun k => laws_szTermS.l0 k x (m - x.length) 0) r ∧ (r < 0 ∨ (0 ≤ r ∧ r ≤ m - x.length ∧ ∀ a ∈ x, okTerm a)) by
    obtain ⟨r, hr, hr'⟩ := H
    refine ⟨r, Ev.neg hn hr, ?_⟩
    rcases hr' with h | ⟨a, b, c⟩
    · exact .inl h
    · exact .inr ⟨a, by omega, by omega, c⟩
  refine ev_szL (fun k m i => laws_szTermS.l0 k x m i) x okTerm ?_ ?_ (m - x.length) (by omega) (by omega)
  · intro m hm
    refine Ev.succ ?_
    simp only [laws_szTermS.l0, Int.lt_irrefl, if_false]
    exact Ev.now _
  · intro i hi m hm0 hm1
    obtain ⟨r, hr, hr'⟩ := ev_szTerm x[i] (hin x[i] (List.getElem_mem hi)) m hm0 hm1
    refine ⟨r, hr', ?_, ?_⟩
    · intro hneg
      refine Ev.succ ?_
      simp only [laws_szTermS.l0, rd_lTerm_get x i hi]
      exact Ev.pos (by omega) (Ev.pos (by omega) (Ev.bind hr (Ev.pos hneg (Ev.now _))))
    · intro hpos q hq
      refine Ev.succ ?_
      simp only [laws_szTermS.l0, rd_lTerm_get x i hi, wsucc hi (show x.length ≤ 281474976710656 by omega)]
      exact Ev.pos (by omega) (Ev.pos (by omega) (Ev.bind hr (Ev.neg (by omega) hq)))
theorem ev_toTermS (x : List S68) (hx : x.length ≤ 1048576) (hin : ∀ y ∈ x, okTerm y) : Ev (fun k => laws_toTermS.f k x) (x.map cvTerm) := by
  unfold laws_toTermS.f
  have h := ev_copy (fun k y i => laws_toTermS.l0 k x y i) x cvTerm (fun y => y) ?_ ?_ (List.replicate x.length z72) (by simp)
  · refine Ev.pos (by omega) (Ev.pos (by omega) ?_)
    simp only [Int.toNat_natCast]
    exact h
  · refine Ev.succ ?_
    simp only [laws_toTermS.l0, Int.lt_irrefl, if_false]
    exact Ev.now _
  · intro i hi y hy r h
    refine Ev.succ ?_
    simp only [laws_toTermS.l0, rd_lTerm_get x i hi]
    refine Ev.pos (by omega) (Ev.pos (by omega) (Ev.bind (ev_toTerm _ (hin _ (List.getElem_mem hi))) (Ev.pos (by omega) ?_)))
    simp only [Int.toNat_natCast, wsucc hi (show x.length ≤ 281474976710656 by omega)]
    exact h
theorem ev_eqTermS (x : List S72) (hx : x.length ≤ 1048576) (hin : ∀ y ∈ x, okITerm y) : Ev (fun k => laws_eqTermS.f k x x) true := by
  unfold laws_eqTermS.f
  refine Ev.pos rfl ?_
  refine ev_iter (fun k (_ : Unit) i => laws_eqTermS.l0 k x x i) x.length (fun _ => ()) true ?_ ?_
  · refine Ev.succ ?_
    simp only [laws_eqTermS.l0, Int.lt_irrefl, if_false]
    exact Ev.now _
  · intro i hi r h
    refine Ev.succ ?_
    simp only [laws_eqTermS.l0, rd_Term_get x i hi]
    refine Ev.pos (by omega) (Ev.pos (by omega) (Ev.pos (by omega) (Ev.bind (ev_eqTerm _ (hin _ (List.getElem_mem hi))) (Ev.pos rfl ?_))))
    simp only [wsucc hi (show x.length ≤ 281474976710656 by omega)]
    exact h
theorem sp_size (b : ByteArray) : ((⟨#[32]⟩ : ByteArray) ++ b).size = 1 + b.size := by rw [ByteArray.size_append]; rfl
/-- A word, a blank and what stands behind it: as the program puts it together. -/
theorem ev_out {w b : ByteArray} (hw : w.size ≤ 7) (hb : b.size ≤ 1000000000000) : Ev (fun _ : Nat => if 1 + b.size ≤ 9223372036854775807 then (if w.size + ((⟨#[32]⟩ : ByteArray) ++ b).size ≤ 9223372036854775807 then some (w ++ ((⟨#[32]⟩ : ByteArray) ++ b)) else none) else none) (w ++ ((⟨#[32]⟩ : ByteArray) ++ b)) := by
  exact Ev.pos (by omega) (Ev.pos (by rw [sp_size]; omega) (Ev.now _))
theorem ev_tail1 {b : ByteArray} (hb : b.size ≤ 1000000000000) : Ev (fun _ : Nat => if 1 + b.size ≤ 9223372036854775807 then some ((⟨#[32]⟩ : ByteArray) ++ b) else none) ((⟨#[32]⟩ : ByteArray) ++ b) := Ev.pos (by omega) (Ev.now _)
/-- The reference's text out of the text of what is behind the word. -/
theorem ev_specText (x : List S72) (i : Nat) (hi : i < x.length) {w t : ByteArray} (hw : spec_l12Word.f x[i].f0 = some w) (hws : w.size ≤ 7) (hts : t.size ≤ 1000000000000) (h : Ev (fun k => spec_l12Tail.f k x (i : Int)) t) : Ev (fun k => spec_l12Text.g (spec_l12Tail.f k) x (i : Int)) (w ++ t) := by
  unfold spec_l12Text.g
  rw [rd_Term_get x i hi, hw]
  simp only [Option.bind_some]
  exact Ev.pos (by omega) (Ev.pos (by omega) (Ev.bind h (Ev.pos (by omega) (Ev.now _))))
theorem le4 (a b : Nat) (h : a < b) : 4 ^ a * 4 ≤ 4 ^ b := by
  rw [← Nat.pow_succ]
  exact Nat.pow_le_pow_right (by decide) h
theorem ev_text (x : List S72) (hx : x.length ≤ 12) (hg : ∀ (i : Nat) (hi : i < x.length), goodT x i x[i]) : ∀ (i : Nat), i < x.length → ∃ t : ByteArray, t.size ≤ 1000 * 4 ^ i ∧ Ev (fun k => impl_termText.f k x (i : Int)) t ∧ Ev (fun k => spec_l12Text.g (spec_l12Tail.f k) x (i : Int)) t := by
  intro i
  induction i using Nat.strongRecOn with
  | _ i ih =>
    intro hi
    have hpow : ∀ j : Nat, j < 12 → 4 ^ j ≤ 16777216 := fun j hj => by
      have : (4 : Nat) ^ j ≤ 4 ^ 12 := Nat.pow_le_pow_right (by decide) (by omega)
      have e : (4 : Nat) ^ 12 = 16777216 := by decide
      omega
    have hpi := hpow i (by omega)
    have hp1 : 1 ≤ 4 ^ i := Nat.one_le_pow _ _ (by decide)
    obtain ⟨hf, hv, g9, g10⟩ := hg i hi
    have hk : 1 ≤ x[i].f0 ∧ x[i].f0 ≤ 11 := by
      simp only [formT, Bool.and_eq_true, decide_eq_true_eq] at hf
      exact hf.1
    obtain ⟨w, hw, hws, hwi⟩ := word_eq x[i].f0 hk.1 hk.2
    -- the program's way to a kind
    have start : ∀ (g : Nat → ByteArray → Option ByteArray) (t : ByteArray), Ev (fun k => g k w) t → (∀ k, impl_termText.f (k + 1) x (i : Int) = g k w) → Ev (fun k => impl_termText.f k x (i : Int)) t := fun g t h he => Ev.step he h
    have tail : ∀ t : ByteArray, t.size ≤ 1000000000000 → Ev (fun k => spec_l12Tail.f k x (i : Int)) t → Ev (fun k => spec_l12Text.g (spec_l12Tail.f k) x (i : Int)) (w ++ t) := fun t h h' => ev_specText x i hi hw hws h h'
    have one : ∀ (t : ByteArray), Ev (fun k => if x[i].f0 = 2 then ((impl_flagsText.f k x[i].f1).bind fun t405 => (if 1 + t405.size ≤ 9223372036854775807 then (if w.size + ((⟨#[32]⟩ : ByteArray) ++ t405).size ≤ 9223372036854775807 then (some (w ++ ((⟨#[32]⟩ : ByteArray) ++ t405))) else (none)) else (none))) else ((impl_hasNum.f x[i].f0).bind fun t406 => (if t406 = true then ((impl_decimal.f x[i].f1).bind fun t407 => (if 1 + t407.size ≤ 9223372036854775807 then (if w.size + ((⟨#[32]⟩ : ByteArray) ++ t407).size ≤ 9223372036854775807 then (some (w ++ ((⟨#[32]⟩ : ByteArray) ++ t407))) else (none)) else (none))) else ((impl_hasCodes.f x[i].f0).bind fun t408 => (if t408 = true then ((impl_encodeChars.f k 4 x[i].f2).bind fun t409 => (if 1 + (strOfNums t409).size ≤ 9223372036854775807 then (if w.size + ((⟨#[32]⟩ : ByteArray) ++ (strOfNums t409)).size ≤ 9223372036854775807 then (some (w ++ ((⟨#[32]⟩ : ByteArray) ++ (strOfNums t409)))) else (none)) else (none))) else (if x[i].f0 = 8 then ((impl_setText.f k x[i].f3).bind fun t412 => (if 1 + t412.size ≤ 9223372036854775807 then (if w.size + ((⟨#[32]⟩ : ByteArray) ++ t412).size ≤ 9223372036854775807 then (some (w ++ ((⟨#[32]⟩ : ByteArray) ++ t412))) else (none)) else (none))) else (if x[i].f0 = 9 then ((impl_termText.f k x x[i].f4).bind fun t413 => (if 1 + t413.size ≤ 9223372036854775807 then (if w.size + ((⟨#[32]⟩ : ByteArray) ++ t413).size ≤ 9223372036854775807 then (some (w ++ ((⟨#[32]⟩ : ByteArray) ++ t413))) else (none)) else (none))) else (if x[i].f0 > 9 then ((impl_termText.f k x x[i].f4).bind fun t414 => (if 1 + t414.size ≤ 9223372036854775807 then (if ((⟨#[32]⟩ : ByteArray) ++ t414).size + 1 ≤ 9223372036854775807 then ((impl_termText.f k x x[i].f5).bind fun t415 => (if (((⟨#[32]⟩ : ByteArray) ++ t414) ++ (⟨#[32]⟩ : ByteArray)).size + t415.size ≤ 9223372036854775807 then (if w.size + ((((⟨#[32]⟩ : ByteArray) ++ t414) ++ (⟨#[32]⟩ : ByteArray)) ++ t415).size ≤ 9223372036854775807 then (some (w ++ ((((⟨#[32]⟩ : ByteArray) ++ t414) ++ (⟨#[32]⟩ : ByteArray)) ++ t415))) else (none)) else (none))) else (none)) else (none))) else (some w))))))))) t → Ev (fun k => impl_termText.f k x (i : Int)) t := by
      intro t h
      refine Ev.succ ?_
      simp only [impl_termText.f, rd_Term_get x i hi, Option.bind_some]
      refine Ev.pos (by omega) (Ev.pos (by omega) (Ev.pos (by rw [wid (by omega) (by omega)]; omega) (Ev.pos (by simp only [List.length_cons, List.length_nil]; rw [wid (by omega) (by omega)]; omega) ?_)))
      rw [hwi]
      exact h
    have hn : impl_hasNum.f x[i].f0 = some (decide (2 ≤ x[i].f0 ∧ x[i].f0 ≤ 5)) := by
      unfold impl_hasNum.f
      rw [within_eq]; rfl
    have hc : impl_hasCodes.f x[i].f0 = some (hasC x[i]) := by
      unfold impl_hasCodes.f hasC
      by_cases h6 : x[i].f0 = 6
      · simp [h6]
      · by_cases h7 : x[i].f0 = 7 <;> simp [h6, h7]
    have bound : ∀ b : ByteArray, b.size ≤ 100 → (w ++ ((⟨#[32]⟩ : ByteArray) ++ b)).size ≤ 1000 * 4 ^ i := fun b hb => by rw [ByteArray.size_append, sp_size]; omega
    -- the reference's way to a kind
    have tl : ∀ (t : ByteArray), Ev (fun k => if x[i].f0 = 1 then (some (⟨#[]⟩ : ByteArray)) else (if x[i].f0 = 2 then ((spec_l7Flags.f k x[i].f1).bind fun t223 => (if 1 + t223.size ≤ 9223372036854775807 then (some ((⟨#[32]⟩ : ByteArray) ++ t223)) else (none))) else (if x[i].f0 = 6 then ((spec_l2Encode.f k 4 x[i].f2).bind fun bt224 => (if 1 + (strOfNums bt224.1).size ≤ 9223372036854775807 then (some ((⟨#[32]⟩ : ByteArray) ++ (strOfNums bt224.1))) else (none))) else (if x[i].f0 = 7 then ((spec_l2Encode.f k 4 x[i].f2).bind fun bt228 => (if 1 + (strOfNums bt228.1).size ≤ 9223372036854775807 then (some ((⟨#[32]⟩ : ByteArray) ++ (strOfNums bt228.1))) else (none))) else (if x[i].f0 = 8 then ((spec_l11Text.f k x[i].f3).bind fun t232 => (if 1 + t232.size ≤ 9223372036854775807 then (some ((⟨#[32]⟩ : ByteArray) ++ t232)) else (none))) else (if x[i].f0 = 9 then ((spec_l12Text.g (spec_l12Tail.f k) x x[i].f4).bind fun t233 => (if 1 + t233.size ≤ 9223372036854775807 then (some ((⟨#[32]⟩ : ByteArray) ++ t233)) else (none))) else (if x[i].f0 = 10 then ((spec_l12Text.g (spec_l12Tail.f k) x x[i].f4).bind fun t235 => (if 1 + t235.size ≤ 9223372036854775807 then (if ((⟨#[32]⟩ : ByteArray) ++ t235).size + 1 ≤ 9223372036854775807 then ((spec_l12Text.g (spec_l12Tail.f k) x x[i].f5).bind fun t237 => (if (((⟨#[32]⟩ : ByteArray) ++ t235) ++ (⟨#[32]⟩ : ByteArray)).size + t237.size ≤ 9223372036854775807 then (some ((((⟨#[32]⟩ : ByteArray) ++ t235) ++ (⟨#[32]⟩ : ByteArray)) ++ t237)) else (none))) else (none)) else (none))) else (if x[i].f0 = 11 then ((spec_l12Text.g (spec_l12Tail.f k) x x[i].f4).bind fun t239 => (if 1 + t239.size ≤ 9223372036854775807 then (if ((⟨#[32]⟩ : ByteArray) ++ t239).size + 1 ≤ 9223372036854775807 then ((spec_l12Text.g (spec_l12Tail.f k) x x[i].f5).bind fun t241 => (if (((⟨#[32]⟩ : ByteArray) ++ t239) ++ (⟨#[32]⟩ : ByteArray)).size + t241.size ≤ 9223372036854775807 then (some ((((⟨#[32]⟩ : ByteArray) ++ t239) ++ (⟨#[32]⟩ : ByteArray)) ++ t241)) else (none))) else (none)) else (none))) else ((spec_l1Digits.f k x[i].f1).bind fun t242 => (if 1 + t242.size ≤ 9223372036854775807 then (some ((⟨#[32]⟩ : ByteArray) ++ t242)) else (none))))))))))) t → Ev (fun k => spec_l12Tail.f k x (i : Int)) t := by
      intro t h
      refine Ev.succ ?_
      simp only [spec_l12Tail.f, rd_Term_get x i hi]
      exact Ev.pos (by omega) (Ev.pos (by omega) h)
    have hv' := hv
    unfold valueT at hv'
    by_cases hno : numOk x[i] = true
    case neg => rw [if_neg hno] at hv'; exact absurd hv' (by decide)
    rw [if_pos hno] at hv'
    unfold numOk at hno
    have k1 : ∀ n : Int, x[i].f0 = n → n ≠ 6 → n ≠ 7 → hasC x[i] = false := fun n h h6 h7 => by unfold hasC; rw [h]; simp [h6, h7]
    by_cases c1 : x[i].f0 = 1
    · have hcf := k1 1 c1 (by decide) (by decide)
      refine ⟨w ++ (⟨#[]⟩ : ByteArray), by rw [ByteArray.size_append, show (⟨#[]⟩ : ByteArray).size = 0 from rfl]; omega, one _ ?_, tail _ (by rw [show (⟨#[]⟩ : ByteArray).size = 0 from rfl]; omega) (tl _ (Ev.pos c1 (Ev.now _)))⟩
      rw [hn, hc, hcf, decide_eq_false (by omega), show w ++ (⟨#[]⟩ : ByteArray) = w from ByteArray.append_empty]
      simp only [Option.bind_some]
      exact Ev.neg (by omega) (Ev.neg (by simp) (Ev.neg (by simp) (Ev.neg (by omega) (Ev.neg (by omega) (Ev.neg (by omega) (Ev.now _))))))
    by_cases c2 : x[i].f0 = 2
    · rw [if_pos c2, decide_eq_true_eq] at hno
      have hs := flags_size _ hno
      refine ⟨w ++ ((⟨#[32]⟩ : ByteArray) ++ flagsTx x[i].f1), bound _ hs, one _ (Ev.pos c2 (Ev.bind (flagsTx_impl _ (by omega) (by omega)) (ev_out hws (by omega)))), tail _ (by rw [sp_size]; omega) (tl _ (Ev.neg c1 (Ev.pos c2 (Ev.bind (flagsTx_spec _ (by omega) (by omega)) (ev_tail1 (by omega))))))⟩
    rw [if_neg c2] at hno
    by_cases c5 : x[i].f0 ≤ 5
    · have hnum : 0 ≤ x[i].f1 ∧ x[i].f1 ≤ 9999 := by
        by_cases c34 : x[i].f0 = 3 ∨ x[i].f0 = 4
        · rw [if_pos c34, decide_eq_true_eq] at hno; exact hno
        · rw [if_neg c34, if_pos (by omega), decide_eq_true_eq] at hno; omega
      obtain ⟨m, hm⟩ := Int.eq_ofNat_of_zero_le hnum.1
      have hd4 := decDigits_le4 m (by omega)
      have hs : (ba (Lib.decDigits m)).size ≤ 100 := by rw [ba_size]; omega
      refine ⟨w ++ ((⟨#[32]⟩ : ByteArray) ++ ba (Lib.decDigits m)), bound _ hs, one _ (Ev.neg c2 ?_), tail _ (by rw [sp_size]; omega) (tl _ ?_)⟩
      · rw [hn, decide_eq_true (by omega), hm, decimal_eq m (by omega)]
        simp only [Option.bind_some]
        exact Ev.pos trivial (ev_out hws (by omega))
      · rw [hm]
        exact Ev.neg c1 (Ev.neg c2 (Ev.neg (by omega) (Ev.neg (by omega) (Ev.neg (by omega) (Ev.neg (by omega) (Ev.neg (by omega) (Ev.neg (by omega) (Ev.bind (ev_digits4 m (by omega)) (ev_tail1 (by omega))))))))))
    have hnf : decide (2 ≤ x[i].f0 ∧ x[i].f0 ≤ 5) = false := decide_eq_false (by omega)
    by_cases c67 : x[i].f0 = 6 ∨ x[i].f0 = 7
    · have hct : hasC x[i] = true := by unfold hasC; rcases c67 with h | h <;> simp [h]
      rw [if_pos hct] at hv'
      by_cases hco : codesOk x[i].f2 = true
      case neg => rw [if_neg hco] at hv'; exact absurd hv' (by decide)
      simp only [codesOk, Bool.and_eq_true, decide_eq_true_eq] at hco
      have hl := encL_le x[i].f2 x[i].f2.length (Nat.le_refl _)
      rw [List.take_length] at hl
      have hs : (strOfNums (encL x[i].f2)).size ≤ 100 := by rw [strOfNums_size]; omega
      refine ⟨w ++ ((⟨#[32]⟩ : ByteArray) ++ strOfNums (encL x[i].f2)), bound _ hs, one _ (Ev.neg c2 ?_), tail _ (by rw [sp_size]; omega) (tl _ (Ev.neg c1 (Ev.neg c2 ?_)))⟩
      · rw [hn, hnf, hc, hct]
        simp only [Option.bind_some]
        exact Ev.neg (by simp) (Ev.pos trivial (Ev.bind (ev_encodeChars _ (by omega)) (ev_out hws (by omega))))
      · by_cases c6 : x[i].f0 = 6
        · exact Ev.pos c6 (Ev.bind (ev_l2Encode _ (by omega)) (ev_tail1 (b := strOfNums (encL x[i].f2)) (by omega)))
        · exact Ev.neg c6 (Ev.pos (by omega) (Ev.bind (ev_l2Encode _ (by omega)) (ev_tail1 (b := strOfNums (encL x[i].f2)) (by omega))))
    have hcf : hasC x[i] = false := k1 x[i].f0 rfl (by omega) (by omega)
    rw [hcf] at hv'
    simp only [Bool.false_eq_true, if_false] at hv'
    by_cases c8 : x[i].f0 = 8
    · rw [if_pos c8] at hv'
      have hok : x[i].f3.length ≤ 8 ∧ x[i].f3.all okRange = true := by
        unfold rangesFault at hv'
        by_cases h1 : x[i].f3.length < 1 ∨ 8 < x[i].f3.length
        · rw [if_pos h1] at hv'; exact absurd hv' (by decide)
        · rw [if_neg h1] at hv'
          refine ⟨by omega, ?_⟩
          by_cases h2 : x[i].f3.all okRange = true
          · exact h2
          · rw [if_neg h2] at hv'; exact absurd hv' (by decide)
      have ht := textL_le x[i].f3 hok.2 x[i].f3.length (Nat.le_refl _)
      rw [List.take_length] at ht
      have hs : (ba (textL x[i].f3)).size ≤ 100 := by rw [ba_size]; omega
      refine ⟨w ++ ((⟨#[32]⟩ : ByteArray) ++ ba (textL x[i].f3)), bound _ hs, one _ (Ev.neg c2 ?_), tail _ (by rw [sp_size]; omega) (tl _ (Ev.neg c1 (Ev.neg c2 (Ev.neg (by omega) (Ev.neg (by omega) (Ev.pos c8 (Ev.bind (ev_l11Text _ hok.1 hok.2) (ev_tail1 (by omega)))))))))⟩
      rw [hn, hnf, hc, hcf]
      simp only [Option.bind_some]
      exact Ev.neg (by simp) (Ev.neg (by simp) (Ev.pos c8 (Ev.bind (ev_setText _ hok.1 hok.2) (ev_out hws (by omega)))))
    by_cases c9 : x[i].f0 = 9
    · obtain ⟨p, hp, h4⟩ := g9 c9
      obtain ⟨t, hts, hti, hts'⟩ := ih p hp (by omega)
      have hpp := hpow p (by omega)
      have hpl := le4 p i hp
      refine ⟨w ++ ((⟨#[32]⟩ : ByteArray) ++ t), by rw [ByteArray.size_append, sp_size]; omega, one _ (Ev.neg c2 ?_), tail _ (by rw [sp_size]; omega) (tl _ ?_)⟩
      · rw [hn, hnf, hc, hcf, h4]
        simp only [Option.bind_some]
        exact Ev.neg (by simp) (Ev.neg (by simp) (Ev.neg c8 (Ev.pos c9 (Ev.bind hti (ev_out hws (by omega))))))
      · rw [h4]
        exact Ev.neg c1 (Ev.neg c2 (Ev.neg (by omega) (Ev.neg (by omega) (Ev.neg c8 (Ev.pos c9 (Ev.bind hts' (ev_tail1 (by omega))))))))
    · obtain ⟨p, q, hp, hq, h4, h5⟩ := g10 (by omega)
      obtain ⟨t, hts, hti, hts'⟩ := ih p hp (by omega)
      obtain ⟨u, hus, hui, hus'⟩ := ih q hq (by omega)
      have hpp := hpow p (by omega)
      have hqq := hpow q (by omega)
      have hpl := le4 p i hp
      have hql := le4 q i hq
      have z1 : (((⟨#[32]⟩ : ByteArray) ++ t) ++ (⟨#[32]⟩ : ByteArray)).size = 2 + t.size := by rw [ByteArray.size_append, sp_size, show (⟨#[32]⟩ : ByteArray).size = 1 from rfl]; omega
      have z2 : ((((⟨#[32]⟩ : ByteArray) ++ t) ++ (⟨#[32]⟩ : ByteArray)) ++ u).size = 2 + t.size + u.size := by rw [ByteArray.size_append, z1]
      refine ⟨w ++ ((((⟨#[32]⟩ : ByteArray) ++ t) ++ (⟨#[32]⟩ : ByteArray)) ++ u), by rw [ByteArray.size_append, z2]; omega, one _ (Ev.neg c2 ?_), tail _ (by rw [z2]; omega) (tl _ ?_)⟩
      · rw [hn, hnf, hc, hcf, h4, h5]
        simp only [Option.bind_some]
        exact Ev.neg (by simp) (Ev.neg (by simp) (Ev.neg c8 (Ev.neg c9 (Ev.pos (by omega) (Ev.bind hti (Ev.pos (by omega) (Ev.pos (by rw [sp_size]; omega) (Ev.bind hui (Ev.pos (by rw [z1]; omega) (Ev.pos (by rw [z2]; omega) (Ev.now _)))))))))))
      · rw [h4, h5]
        have way : Ev (fun k => (spec_l12Text.g (spec_l12Tail.f k) x (p : Int)).bind fun t235 => (if 1 + t235.size ≤ 9223372036854775807 then (if ((⟨#[32]⟩ : ByteArray) ++ t235).size + 1 ≤ 9223372036854775807 then ((spec_l12Text.g (spec_l12Tail.f k) x (q : Int)).bind fun t237 => (if (((⟨#[32]⟩ : ByteArray) ++ t235) ++ (⟨#[32]⟩ : ByteArray)).size + t237.size ≤ 9223372036854775807 then (some ((((⟨#[32]⟩ : ByteArray) ++ t235) ++ (⟨#[32]⟩ : ByteArray)) ++ t237)) else (none))) else (none)) else (none))) ((((⟨#[32]⟩ : ByteArray) ++ t) ++ (⟨#[32]⟩ : ByteArray)) ++ u) :=
          Ev.bind hts' (Ev.pos (by omega) (Ev.pos (by rw [sp_size]; omega) (Ev.bind hus' (Ev.pos (by rw [z1]; omega) (Ev.now _)))))
        refine Ev.neg c1 (Ev.neg c2 (Ev.neg (by omega) (Ev.neg (by omega) (Ev.neg c8 (Ev.neg c9 ?_)))))
        by_cases c10 : x[i].f0 = 10
        · exact Ev.pos c10 way
        · exact Ev.neg c10 (Ev.pos (by omega) way)
theorem FnExactTermsText : ∀ (l0 : List (S68)), (l0.length * 80 ≤ 140737488351232 ∧ ∀ x1_ ∈ l0, ((Lit.int .i64 x1_.f0).wf = true ∧ (Lit.int .i64 x1_.f1).wf = true ∧ (x1_.f2.length * 8 ≤ 140737488351232 ∧ ∀ x2_ ∈ x1_.f2, (Lit.int .i64 x2_).wf = true) ∧ (x1_.f3.length * 16 ≤ 140737488351232 ∧ ∀ x2_ ∈ x1_.f3, ((Lit.int .i64 x2_.f0).wf = true ∧ (Lit.int .i64 x2_.f1).wf = true)) ∧ (Lit.int .i64 x1_.f4).wf = true ∧ (Lit.int .i64 x1_.f5).wf = true)) → ∃ k, laws_FnExactTermsText.f k l0 = some true := by
  rintro x ⟨hx, hin⟩
  apply Ev.get
  unfold laws_FnExactTermsText.f
  obtain ⟨r, hr, hr'⟩ := ev_szTermS x (by omega) (fun y hy => ⟨by have := (hin y hy).2.2.1.1; omega, (hin y hy).2.2.2.1.1⟩) 1048576 (by omega) (by omega)
  refine Ev.bind hr ?_
  rcases hr' with h | ⟨h0, _, hx', hok⟩
  · exact Ev.pos h (Ev.now _)
  have hto := ev_toTermS x hx' hok
  have hok' := okITerm_cv hok
  have hboth : ∃ R : Int × ByteArray, Ev (fun k => spec_TermsText.f k (x.map cvTerm)) R ∧ Ev (fun k => impl_TermsText.f k (x.map cvTerm)) R := by
    generalize x.map cvTerm = y at hok'
    by_cases hz : termsFault y = 0
    · obtain ⟨hl, hg⟩ := good_of y hz
      obtain ⟨t, _, hi, hs⟩ := ev_text y hl.2 hg (y.length - 1) (by omega)
      have e1 : wrap64 ((y.length : Int) - 1) = ((y.length - 1 : Nat) : Int) := by rw [wid (by omega) (by omega)]; omega
      refine ⟨(0, t), ?_, ?_⟩
      · unfold spec_TermsText.f spec_l12Text.f
        rw [e1]
        exact Ev.bind (ev_l12Fault _ hok') (Ev.pos hz (Ev.bind hs (Ev.now _)))
      · unfold impl_TermsText.f impl_Term.f
        simp only [Option.bind_some, e1]
        exact Ev.bind (ev_implTermsFault _ hok') (Ev.pos hz (Ev.bind hi (Ev.now _)))
    · refine ⟨(termsFault y, (⟨#[]⟩ : ByteArray)), ?_, ?_⟩
      · unfold spec_TermsText.f
        exact Ev.bind (ev_l12Fault _ hok') (Ev.neg hz (Ev.now _))
      · unfold impl_TermsText.f
        exact Ev.bind (ev_implTermsFault _ hok') (Ev.neg hz (Ev.now _))
  obtain ⟨R, hs, hi⟩ := hboth
  refine Ev.neg (by omega) (Ev.bind hto (Ev.bind hs (Ev.bind hto (Ev.bind hi (Ev.bindc (b := true) ?_ (Ev.pos rfl (Ev.bind hto ?_)))))))
  · simp [laws_eqTextResult.f]
  · exact Ev.bind (ev_eqTermS _ (by simpa using hx') hok') (Ev.pos rfl (Ev.now _))

end Go.Proofs.YtnehephjliankaaDoor.Pure

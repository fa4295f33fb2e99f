/- The fault of a command: the program and the reference say the same. Conditions: the sizes that the statement gives. -/
import Derived.Test.YtnehephjliankaaPFnExactCmdFaultx15
import Derived.Test.YtnehephjliankaaVFnExactCmdFaultU
namespace Go.Proofs.Ytnehephjliankaa.Pure
open Go.RowKit Go.Proofs.Ytnehephjliankaa.PFnExactCmdFault Go.Proofs.YtnehephjliankaaW.PrintWords Go.Proofs.YtnehephjliankaaW.PrintLast Go.Proofs.Ytnehephjliankaa.U
set_option linter.unusedSimpArgs false
set_option linter.unusedVariables false

def okITerm (x : S104) : Prop := x.f2.length ≤ 1048576 ∧ x.f3.length ≤ 1048576
theorem rd_Term_get (x : List S104) (i : Nat) (h : i < x.length) : rd_T104 x (i : Int) = x[i] := by simp [rd_T104, List.getD_eq_getElem?_getD, h]
theorem rd_Range_get (x : List S100) (i : Nat) (h : i < x.length) : rd_T100 x (i : Int) = x[i] := by simp [rd_T100, List.getD_eq_getElem?_getD, h]
def okRange (r : S100) : Bool := decide ((0 ≤ r.f0 ∧ r.f0 ≤ 999) ∧ (0 ≤ r.f1 ∧ r.f1 ≤ 999))
def rangesFault (x : List S100) : Int := if x.length < 1 ∨ 8 < x.length then 2 else if x.all okRange = true then 0 else 3
def hasC (t : S104) : Bool := decide (t.f0 = 6) || decide (t.f0 = 7)
def formT (t : S104) : Bool := decide (1 ≤ t.f0 ∧ t.f0 ≤ 11) && ((decide (2 ≤ t.f0 ∧ t.f0 ≤ 5) || decide (t.f1 = 0)) && ((hasC t || decide (t.f2.length = 0)) && ((decide (t.f0 = 8) || decide (t.f3.length = 0)) && (decide (10 ≤ t.f0) || (decide (t.f5 = 0) && (decide (t.f0 = 9) || decide (t.f4 = 0)))))))
def okCode (c : Int) : Bool := decide ((0 ≤ c ∧ c ≤ 55295 ∨ 57344 ≤ c ∧ c ≤ 65535) ∧ 33 ≤ c ∧ c ≠ 127)
def codesOk (x : List Int) : Bool := x.all okCode && decide (1 ≤ (x.length : Int) ∧ (x.length : Int) ≤ 20)
def numOk (t : S104) : Bool := if t.f0 = 2 then decide (t.f1 = 1 ∨ t.f1 = 2 ∨ t.f1 = 4 ∨ t.f1 = 8) else if t.f0 = 3 ∨ t.f0 = 4 then decide (0 ≤ t.f1 ∧ t.f1 ≤ 9999) else if t.f0 = 5 then decide (0 ≤ t.f1 ∧ t.f1 ≤ 400) else true
def valueT (t : S104) : Int := if numOk t = true then (if hasC t = true then (if codesOk t.f2 = true then 0 else 3) else if t.f0 = 8 then rangesFault t.f3 else 0) else 3
def stepT (s : List Int) (t : S104) : Int ⊕ List Int :=
  if formT t = true then (if valueT t = 0 then
    (if t.f0 = 9 then (if (s.length : Int) = 0 ∨ t.f4 ≠ (s.length : Int) - 1 then .inl 1 else .inr (s ++ [1 + rd s ((s.length : Int) - 1)]))
     else if 9 < t.f0 then (if (s.length : Int) < 2 ∨ t.f5 ≠ (s.length : Int) - 1 ∨ t.f4 < 0 ∨ t.f4 ≠ (s.length : Int) - 1 - rd s ((s.length : Int) - 1) then .inl 1 else .inr (s ++ [1 + (rd s ((s.length : Int) - 1) + rd s t.f4)]))
     else .inr (s ++ [1]))
    else .inl (valueT t)) else .inl 1
def termsFault (ts : List S104) : Int := if 1 ≤ ts.length ∧ ts.length ≤ 12 then (match run stepT ts [] with | .inl r => r | .inr s => if rd s ((ts.length : Int) - 1) = ts.length then 0 else 1) else 2
def InvT (ts : List S104) (i : Nat) (s : List Int) : Prop := s.length = i ∧ ∀ j : Nat, j < i → 1 ≤ rd s (j : Int) ∧ rd s (j : Int) ≤ (j : Int) + 1 ∧ Ev (fun k => spec_l12First.f k ts (j : Int)) ((j : Int) - rd s (j : Int) + 1)
theorem rd_app (s : List Int) (a : Int) (j : Nat) (h : j < s.length) : rd (s ++ [a]) (j : Int) = rd s (j : Int) := by
  rw [rd_get _ j (by simp; omega), rd_get _ j h, List.getElem_append_left h]
theorem rd_last (s : List Int) (a : Int) : rd (s ++ [a]) (s.length : Int) = a := by
  rw [rd_get _ s.length (by simp)]; simp
theorem kindsT (n : Int) : (2 ≤ n ∧ n ≤ 5 ∧ n ≠ 6 ∧ n ≠ 7 ∧ n ≠ 8 ∧ n ≠ 9 ∧ ¬ 10 ≤ n ∧ ¬ 9 ≤ n ∧ n ≠ 10 ∧ n ≠ 11) ∨ n = 6 ∨ n = 7 ∨ n = 8 ∨ n = 9 ∨ n = 10 ∨ n = 11 ∨ (¬ (2 ≤ n ∧ n ≤ 5) ∧ n ≠ 6 ∧ n ≠ 7 ∧ n ≠ 8 ∧ n ≠ 9 ∧ ¬ 10 ≤ n ∧ ¬ 9 ≤ n ∧ n ≠ 10 ∧ n ≠ 11) ∨ 11 < n := by omega
theorem InvT_step (ts : List S104) (i : Nat) (s s' : List Int) (hi : i < ts.length) (h : InvT ts i s) (hs : stepT s ts[i] = .inr s') : InvT ts (i + 1) s' := by
  obtain ⟨hl, hj⟩ := h
  unfold stepT at hs
  by_cases hf : formT ts[i] = true
  case neg => rw [if_neg hf] at hs; cases hs
  rw [if_pos hf] at hs
  by_cases hv : valueT ts[i] = 0
  case neg => rw [if_neg hv] at hs; cases hs
  rw [if_pos hv] at hs
  have first : ∀ r : Int, (9 ≤ ts[i].f0 → Ev (fun k => spec_l12First.f k ts ts[i].f4) r) → (¬ 9 ≤ ts[i].f0 → r = (i : Int)) → Ev (fun k => spec_l12First.f k ts (i : Int)) r := by
    intro r h1 h2
    refine Ev.succ ?_
    simp only [spec_l12First.f, rd_Term_get ts i hi]
    refine Ev.pos (by omega) (Ev.pos (by omega) ?_)
    by_cases h9 : 9 ≤ ts[i].f0
    · exact Ev.pos h9 (Ev.bind (h1 h9) (Ev.now _))
    · rw [h2 h9]; exact Ev.neg h9 (Ev.now _)
  have mk : ∀ a : Int, s' = s ++ [a] → 1 ≤ a → a ≤ (i : Int) + 1 → Ev (fun k => spec_l12First.f k ts (i : Int)) ((i : Int) - a + 1) → InvT ts (i + 1) s' := by
    intro a hs' h1 h2 h3
    subst hs'
    refine ⟨by simp [hl], fun j hji => ?_⟩
    by_cases hjl : j < i
    · rw [rd_app s a j (by omega)]; exact hj j hjl
    · have e : j = s.length := by omega
      subst e
      rw [rd_last]
      subst hl
      exact ⟨h1, h2, h3⟩
  by_cases h9 : ts[i].f0 = 9
  · rw [if_pos h9] at hs
    by_cases hb : (s.length : Int) = 0 ∨ ts[i].f4 ≠ (s.length : Int) - 1
    · rw [if_pos hb] at hs; cases hs
    rw [if_neg hb] at hs; cases hs
    have hp : 0 < i := by omega
    have hk := hj (i - 1) (by omega)
    have e : (s.length : Int) - 1 = ((i - 1 : Nat) : Int) := by omega
    have e' : rd s ((s.length : Int) - 1) = rd s ((i - 1 : Nat) : Int) := congrArg (rd s) e
    refine mk _ rfl (by omega) (by omega) (first _ (fun _ => ?_) (fun h => absurd (by omega) h))
    have e4 : ts[i].f4 = ((i - 1 : Nat) : Int) := by omega
    rw [e4, e']
    have := hk.2.2
    rw [show (i : Int) - (1 + rd s ((i - 1 : Nat) : Int)) + 1 = ((i - 1 : Nat) : Int) - rd s ((i - 1 : Nat) : Int) + 1 by omega]
    exact this
  rw [if_neg h9] at hs
  by_cases h10 : 9 < ts[i].f0
  · rw [if_pos h10] at hs
    by_cases hb : (s.length : Int) < 2 ∨ ts[i].f5 ≠ (s.length : Int) - 1 ∨ ts[i].f4 < 0 ∨ ts[i].f4 ≠ (s.length : Int) - 1 - rd s ((s.length : Int) - 1)
    · rw [if_pos hb] at hs; cases hs
    rw [if_neg hb] at hs; cases hs
    have hp : 1 < i := by omega
    have hk := hj (i - 1) (by omega)
    have e : (s.length : Int) - 1 = ((i - 1 : Nat) : Int) := by omega
    have e' : rd s ((s.length : Int) - 1) = rd s ((i - 1 : Nat) : Int) := congrArg (rd s) e
    rw [e] at hb
    obtain ⟨q, hq⟩ : ∃ q : Nat, ts[i].f4 = (q : Int) := ⟨ts[i].f4.toNat, by omega⟩
    rw [hq] at hb
    have hkq := hj q (by omega)
    have eq' : rd s ts[i].f4 = rd s (q : Int) := congrArg (rd s) hq
    refine mk _ rfl (by omega) (by omega) (first _ (fun _ => ?_) (fun h => absurd (by omega) h))
    rw [e', eq', hq]
    rw [show (i : Int) - (1 + (rd s ((i - 1 : Nat) : Int) + rd s (q : Int))) + 1 = (q : Int) - rd s (q : Int) + 1 by omega]
    exact hkq.2.2
  · rw [if_neg h10] at hs; cases hs
    exact mk 1 rfl (by omega) (by omega) (first _ (fun h => absurd h (by omega)) (fun _ => by omega))
theorem l1In_eq (a b c : Int) : spec_l1In.f a b c = some (decide (b ≤ a ∧ a ≤ c)) := by
  unfold spec_l1In.f
  by_cases h : b ≤ a <;> simp [h]
theorem within_eq (a b c : Int) : impl_within.f a b c = some (decide (b ≤ a ∧ a ≤ c)) := by
  unfold impl_within.f
  by_cases h : b ≤ a <;> simp [h]
theorem kindsN (n : Int) : n = 1 ∨ n = 2 ∨ n = 3 ∨ n = 4 ∨ n = 5 ∨ n = 6 ∨ n = 7 ∨ n = 8 ∨ n = 9 ∨ n = 10 ∨ n = 11 ∨ ¬ (1 ≤ n ∧ n ≤ 11) := by omega
theorem dropT {x : List S104} {i : Nat} (hi : i < x.length) : rd_T104 (x.drop ((i : Int)).toNat) 0 = x[i] ∧ 0 < ((x.drop ((i : Int)).toNat).length : Int) := by
  constructor
  · have := rd_Term_get (x.drop i) 0 (by simp; omega)
    simpa using this
  · simp; omega
set_option maxHeartbeats 4000000 in
theorem ev_l12Form (x : List S104) (i : Nat) (hi : i < x.length) : Ev (fun k => spec_l12Form.f k (x.drop ((i : Int)).toNat)) (formT x[i]) := by
  refine Ev.at 1 (fun k => ?_)
  obtain ⟨hr, hl⟩ := dropT hi
  simp only [spec_l12Form.f, spec_l12Form.j0, hr, if_pos hl, l1In_eq, Option.bind_some, spec_l12Has.f, spec_l12Two.f]
  generalize x[i] = t
  obtain ⟨f0, f1, f2, f3, f4, f5⟩ := t
  simp only [formT, hasC]
  rcases kindsN f0 with rfl | rfl | rfl | rfl | rfl | rfl | rfl | rfl | rfl | rfl | rfl | hn
  case _ => by_cases h1 : f1 = 0 <;> by_cases h2 : f2 = [] <;> by_cases h3 : f3 = [] <;> by_cases h4 : f4 = 0 <;> by_cases h5 : f5 = 0 <;> simp [*]
  all_goals first
    | (simp only [decide_eq_false hn, Bool.false_and]; simp; done)
    | (by_cases h1 : f1 = 0 <;> by_cases h2 : f2 = [] <;> by_cases h3 : f3 = [] <;> by_cases h4 : f4 = 0 <;> by_cases h5 : f5 = 0 <;> simp [*])
set_option maxHeartbeats 4000000 in
theorem isOnlyT (t : S104) (hk : 1 ≤ t.f0 ∧ t.f0 ≤ 11) : impl_Term_isOnly.f t.f0 t.f1 t.f2 t.f3 t.f4 t.f5 = some (formT t) := by
  obtain ⟨f0, f1, f2, f3, f4, f5⟩ := t
  simp only at hk
  simp only [impl_Term_isOnly.f, impl_hasNum.f, impl_hasCodes.f, within_eq, Option.bind_some, formT, hasC]
  rcases kindsN f0 with rfl | rfl | rfl | rfl | rfl | rfl | rfl | rfl | rfl | rfl | rfl | hn
  case _ => by_cases h1 : f1 = 0 <;> by_cases h2 : f2 = [] <;> by_cases h3 : f3 = [] <;> by_cases h4 : f4 = 0 <;> by_cases h5 : f5 = 0 <;> simp [*]
  all_goals first
    | (exact absurd hk hn)
    | (by_cases h1 : f1 = 0 <;> by_cases h2 : f2 = [] <;> by_cases h3 : f3 = [] <;> by_cases h4 : f4 = 0 <;> by_cases h5 : f5 = 0 <;> simp [*])
theorem isNumT (t : S104) : Ev (fun k => impl_Term_isNum.f k t.f0 t.f1 t.f2 t.f3 t.f4 t.f5) (numOk t) := by
  refine Ev.at 1 (fun k => ?_)
  obtain ⟨f0, f1, f2, f3, f4, f5⟩ := t
  simp only [impl_Term_isNum.f, impl_Term_isNum.j0, impl_isDate.f, within_eq, Option.bind_some, numOk]
  by_cases h2 : f0 = 2
  · rw [if_pos h2, if_pos h2]
    by_cases a1 : f1 = 1
    · simp [a1]
    · by_cases a2 : f1 = 2
      · simp [a2]
      · by_cases a4 : f1 = 4
        · simp [a4]
        · by_cases a8 : f1 = 8 <;> simp [a1, a2, a4, a8]
  · rw [if_neg h2, if_neg h2]
    by_cases h3 : f0 = 3
    · simp [h3]
    · by_cases h4 : f0 = 4
      · simp [h4]
      · by_cases h5 : f0 = 5
        · simp [h5]
        · simp [h3, h4, h5]
theorem l2Char_eq (c : Int) : spec_l2Char.f c = some (decide (0 ≤ c ∧ c ≤ 55295 ∨ 57344 ≤ c ∧ c ≤ 65535)) := by
  unfold spec_l2Char.f
  by_cases h : 0 ≤ c ∧ c ≤ 55295
  · simp [l1In_eq, h]
  · by_cases h2 : 57344 ≤ c ∧ c ≤ 65535
    · simp [l1In_eq, h2]
    · have h' : decide (0 ≤ c ∧ c ≤ 55295) = false := decide_eq_false h
      have h2' : decide (57344 ≤ c ∧ c ≤ 65535) = false := decide_eq_false h2
      have h3 : ¬ (0 ≤ c ∧ c ≤ 55295 ∨ 57344 ≤ c ∧ c ≤ 65535) := by omega
      simp [l1In_eq, h', h2', h3]
theorem isChar_eq (c : Int) : impl_isChar.f c = some (decide (0 ≤ c ∧ c ≤ 55295 ∨ 57344 ≤ c ∧ c ≤ 65535)) := by
  unfold impl_isChar.f
  simp only [within_eq, Option.bind_some]
  by_cases h : 0 ≤ c ∧ c ≤ 65535
  · rw [if_pos (decide_eq_true h)]
    congr 1
    rw [Bool.eq_iff_iff]
    simp
    omega
  · rw [if_neg (by simpa using h)]
    have : ¬ (0 ≤ c ∧ c ≤ 55295 ∨ 57344 ≤ c ∧ c ≤ 65535) := by omega
    simp [this]
theorem ev_l12Codes (x : List Int) (hx : x.length ≤ 1048576) : Ev (fun k => spec_l12Codes.f k x) (codesOk x) := by
  unfold spec_l12Codes.f codesOk
  have h := ev_find (fun k i => spec_l12Codes.l0 k x i) x (fun a => if okCode a = true then none else some false) (decide (1 ≤ (x.length : Int) ∧ (x.length : Int) ≤ 20)) ?_ ?_ ?_
  · rw [find_guard] at h
    by_cases hall : x.all okCode = true
    · rw [if_pos hall] at h; rw [hall, Bool.true_and]; exact h
    · rw [if_neg hall] at h; rw [Bool.not_eq_true] at hall; rw [hall, Bool.false_and]; exact h
  · refine Ev.succ ?_
    simp only [spec_l12Codes.l0, Int.lt_irrefl, if_false, l1In_eq, Option.bind_some]
    exact Ev.now _
  · intro i hi r hr
    by_cases hc : okCode x[i] = true
    · rw [if_pos hc] at hr; cases hr
    rw [if_neg hc] at hr; cases hr
    simp only [okCode, decide_eq_true_eq] at hc
    refine Ev.succ ?_
    simp only [spec_l12Codes.l0, rd_get x i hi, l2Char_eq, Option.bind_some]
    refine Ev.pos (by omega) (Ev.pos (by omega) ?_)
    by_cases h1 : 0 ≤ x[i] ∧ x[i] ≤ 55295 ∨ 57344 ≤ x[i] ∧ x[i] ≤ 65535
    · refine Ev.pos (decide_eq_true h1) ?_
      by_cases h2 : x[i] < 33
      · exact Ev.pos h2 (Ev.now _)
      · exact Ev.neg h2 (Ev.pos (by omega) (Ev.now _))
    · exact Ev.neg (by simpa using h1) (Ev.now _)
  · intro i hi hr r h
    by_cases hc : okCode x[i] = true
    case neg => rw [if_neg hc] at hr; cases hr
    simp only [okCode, decide_eq_true_eq] at hc
    refine Ev.succ ?_
    simp only [spec_l12Codes.l0, rd_get x i hi, l2Char_eq, Option.bind_some, wsucc hi (show x.length ≤ 281474976710656 by omega)]
    exact Ev.pos (by omega) (Ev.pos (by omega) (Ev.pos (decide_eq_true hc.1) (Ev.neg (by omega) (Ev.neg (by omega) h))))
theorem areCodes1_eq (c : Int) : impl_Term_areCodes_1.f c = some (!okCode c) := by
  unfold impl_Term_areCodes_1.f okCode
  rw [isChar_eq]
  simp only [Option.bind_some]
  by_cases h : 0 ≤ c ∧ c ≤ 55295 ∨ 57344 ≤ c ∧ c ≤ 65535
  · rw [if_pos (decide_eq_true h)]
    by_cases h2 : c < 33
    · rw [if_pos h2]
      have : ¬ (33 ≤ c) := by omega
      simp [this]
    · rw [if_neg h2]
      by_cases h3 : c = 127
      · simp [h3]
      · have : 33 ≤ c := by omega
        simp [h, h3, this]
  · rw [if_neg (by simpa using h)]
    simp [h]
theorem find_all_idx (p : Int → Bool) (x : List Int) : decide ((((List.range x.length).findSome? fun i => if p (x.getD i 0) = true then none else some (i : Int)).getD (-1)) ≥ 0) = !(x.all p) := by
  rw [Bool.eq_iff_iff]
  simp only [decide_eq_true_eq, Bool.not_eq_true', ge_iff_le]
  cases hf : (List.range x.length).findSome? fun i => if p (x.getD i 0) = true then none else some (i : Int) with
  | none =>
    simp only [Option.getD_none]
    rw [List.findSome?_eq_none_iff] at hf
    have hall : x.all p = true := by
      rw [List.all_eq_true]
      intro a ha
      obtain ⟨j, hj, rfl⟩ := List.mem_iff_getElem.1 ha
      have := hf j (by simpa using hj)
      simp only [List.getD_eq_getElem?_getD, List.getElem?_eq_getElem hj, Option.getD_some] at this
      by_cases hp : p x[j] = true
      · exact hp
      · rw [if_neg hp] at this; cases this
    rw [hall]
    simp
  | some v =>
    simp only [Option.getD_some]
    obtain ⟨l1, a, l2, _, h2, _⟩ := List.findSome?_eq_some_iff.1 hf
    obtain ⟨a, ha, hv⟩ := List.exists_of_findSome?_eq_some hf
    have ha' : a < x.length := by simpa using ha
    by_cases hp : p (x.getD a 0) = true
    · rw [if_pos hp] at hv; cases hv
    · rw [if_neg hp] at hv
      cases hv
      constructor
      · intro _
        rw [← Bool.not_eq_true, List.all_eq_true]
        intro hall
        apply hp
        rw [List.getD_eq_getElem?_getD, List.getElem?_eq_getElem ha', Option.getD_some]
        exact hall _ (List.getElem_mem ha')
      · intro _; omega
theorem ev_areCodesC (x : List Int) (hx : x.length ≤ 1048576) : Ev (fun k => slices_ContainsFunc_int64_int64_v2.f k x) (!(x.all okCode)) := by
  unfold slices_ContainsFunc_int64_int64_v2.f slices_IndexFunc_int64_int64_v3.f
  have h := ev_findI (fun k i => slices_IndexFunc_int64_int64_v3.l0 k x (x.length : Int) i) x.length (fun i => if okCode (x.getD i 0) = true then none else some (i : Int)) (-1) ?_ ?_ ?_
  · refine Ev.bind h ?_
    rw [find_all_idx]
    exact Ev.now _
  · refine Ev.succ ?_
    simp only [slices_IndexFunc_int64_int64_v3.l0, Int.lt_irrefl, if_false]
    exact Ev.now _
  · intro i hi r hr
    have hg : x.getD i 0 = x[i] := by rw [List.getD_eq_getElem?_getD, List.getElem?_eq_getElem hi, Option.getD_some]
    rw [hg] at hr
    refine Ev.succ ?_
    simp only [slices_IndexFunc_int64_int64_v3.l0, rd_get x i hi, areCodes1_eq, Option.bind_some]
    by_cases hp : okCode x[i] = true
    · rw [if_pos hp] at hr; cases hr
    · rw [if_neg hp] at hr; cases hr
      exact Ev.pos (by omega) (Ev.pos (by omega) (Ev.pos (by omega) (Ev.pos (by simpa using hp) (Ev.now _))))
  · intro i hi hr r h
    have hg : x.getD i 0 = x[i] := by rw [List.getD_eq_getElem?_getD, List.getElem?_eq_getElem hi, Option.getD_some]
    rw [hg] at hr
    refine Ev.succ ?_
    simp only [slices_IndexFunc_int64_int64_v3.l0, rd_get x i hi, areCodes1_eq, Option.bind_some, wsucc hi (show x.length ≤ 281474976710656 by omega)]
    by_cases hp : okCode x[i] = true
    · exact Ev.pos (by omega) (Ev.pos (by omega) (Ev.pos (by omega) (Ev.neg (by simp [hp]) h)))
    · rw [if_neg hp] at hr; cases hr
theorem areCodesT (t : S104) (hx : t.f2.length ≤ 1048576) : Ev (fun k => impl_Term_areCodes.f k t.f0 t.f1 t.f2 t.f3 t.f4 t.f5) (!hasC t || codesOk t.f2) := by
  unfold impl_Term_areCodes.f
  have hh : impl_hasCodes.f t.f0 = some (hasC t) := by
    unfold impl_hasCodes.f hasC
    by_cases h : t.f0 = 6
    · simp [h]
    · rw [if_neg h]
      by_cases h7 : t.f0 = 7
      · simp [h7]
      · simp [h, h7]
  refine Ev.bindc hh ?_
  cases hc : hasC t with
  | false => exact Ev.neg (by simp) (Ev.now _)
  | true =>
    refine Ev.pos rfl ?_
    simp only [impl_length_int64.f, within_eq, Option.bind_some, codesOk]
    by_cases hl : 1 ≤ (t.f2.length : Int) ∧ (t.f2.length : Int) ≤ 20
    · refine Ev.pos (decide_eq_true hl) (Ev.bind (ev_areCodesC t.f2 hx) ?_)
      simp only [decide_eq_true hl, Bool.not_not, Bool.and_true, Bool.not_true, Bool.false_or]
      exact Ev.now _
    · refine Ev.neg (by simpa using hl) ?_
      simp only [decide_eq_false hl, Bool.and_false, Bool.not_true, Bool.or_self]
      exact Ev.now _
theorem ev_l11Fault (x : List S100) (hx : x.length ≤ 1048576) : Ev (fun k => spec_l11Fault.f k x) (rangesFault x) := by
  unfold spec_l11Fault.f rangesFault
  by_cases h1 : x.length < 1
  · rw [if_pos (by omega)]
    refine Ev.pos (by omega) (Ev.succ ?_)
    simp only [spec_l11Fault.j0, if_true]
    exact Ev.now _
  refine Ev.neg (by omega) (Ev.succ ?_)
  simp only [spec_l11Fault.j0]
  by_cases h2 : 8 < x.length
  · rw [if_pos (by omega)]
    exact Ev.pos (decide_eq_true (by omega)) (Ev.now _)
  rw [if_neg (by omega)]
  refine Ev.neg (by simp; omega) ?_
  have h := ev_find (fun k i => spec_l11Fault.l0 k x i) x (fun r => if okRange r = true then none else some 3) 0 ?_ ?_ ?_
  · rw [find_guard] at h; exact h
  · refine Ev.succ ?_
    simp only [spec_l11Fault.l0, Int.lt_irrefl, if_false]
    exact Ev.now _
  · intro i hi r hr
    by_cases hok : okRange x[i] = true
    · rw [if_pos hok] at hr; cases hr
    rw [if_neg hok] at hr; cases hr
    simp only [okRange, decide_eq_true_eq] at hok
    refine Ev.succ ?_
    simp only [spec_l11Fault.l0, rd_Range_get x i hi, l1In_eq, Option.bind_some]
    refine Ev.pos (by omega) (Ev.pos (by omega) ?_)
    by_cases ha : 0 ≤ x[i].f0 ∧ x[i].f0 ≤ 999
    · refine Ev.pos (decide_eq_true ha) (Ev.neg ?_ (Ev.now _))
      simp only [decide_eq_true_eq]; exact fun hb => hok ⟨ha, hb⟩
    · exact Ev.neg (by simpa using ha) (Ev.now _)
  · intro i hi hr r h
    by_cases hok : okRange x[i] = true
    case neg => rw [if_neg hok] at hr; cases hr
    simp only [okRange, decide_eq_true_eq] at hok
    refine Ev.succ ?_
    simp only [spec_l11Fault.l0, rd_Range_get x i hi, l1In_eq, Option.bind_some]
    refine Ev.pos (by omega) (Ev.pos (by omega) (Ev.pos (decide_eq_true hok.1) (Ev.pos (decide_eq_true hok.2) ?_)))
    simp only [wsucc hi (show x.length ≤ 281474976710656 by omega)]
    exact h
theorem ev_implRangesFault (x : List S100) (hx : x.length ≤ 1048576) : Ev (fun k => impl_RangesFault.f k x) (rangesFault x) := by
  unfold impl_RangesFault.f rangesFault
  simp only [impl_Range.f, within_eq, Option.bind_some]
  by_cases h1 : x.length < 1 ∨ 8 < x.length
  · rw [if_pos h1]
    exact Ev.neg (by simp; omega) (Ev.now _)
  rw [if_neg h1]
  refine Ev.pos (decide_eq_true (by omega)) ?_
  have h := ev_find (fun k i => impl_RangesFault.l0 k x (x.length : Int) i) x (fun r => if okRange r = true then none else some 3) 0 ?_ ?_ ?_
  · rw [find_guard] at h; exact h
  · refine Ev.succ ?_
    simp only [impl_RangesFault.l0, Int.lt_irrefl, if_false]
    exact Ev.now _
  · intro i hi r hr
    by_cases hok : okRange x[i] = true
    · rw [if_pos hok] at hr; cases hr
    rw [if_neg hok] at hr; cases hr
    simp only [okRange, decide_eq_true_eq] at hok
    refine Ev.succ ?_
    simp only [impl_RangesFault.l0, rd_Range_get x i hi, within_eq, Option.bind_some]
    refine Ev.pos (by omega) (Ev.pos (by omega) (Ev.pos (by omega) ?_))
    by_cases ha : 0 ≤ x[i].f0 ∧ x[i].f0 ≤ 999
    · refine Ev.pos (decide_eq_true ha) (Ev.neg ?_ (Ev.now _))
      simp only [decide_eq_true_eq]; exact fun hb => hok ⟨ha, hb⟩
    · exact Ev.neg (by simpa using ha) (Ev.now _)
  · intro i hi hr r h
    by_cases hok : okRange x[i] = true
    case neg => rw [if_neg hok] at hr; cases hr
    simp only [okRange, decide_eq_true_eq] at hok
    refine Ev.succ ?_
    simp only [impl_RangesFault.l0, rd_Range_get x i hi, within_eq, Option.bind_some]
    refine Ev.pos (by omega) (Ev.pos (by omega) (Ev.pos (by omega) (Ev.pos (decide_eq_true hok.1) (Ev.pos (decide_eq_true hok.2) ?_))))
    simp only [wsucc hi (show x.length ≤ 281474976710656 by omega)]
    exact h
theorem ev_l12Value (x : List S104) (i : Nat) (hi : i < x.length) (hf : formT x[i] = true) (h2 : x[i].f2.length ≤ 1048576) (h3 : x[i].f3.length ≤ 1048576) : Ev (fun k => spec_l12Value.f k (x.drop ((i : Int)).toNat)) (valueT x[i]) := by
  obtain ⟨hr, hl⟩ := dropT hi
  have hcodes := ev_l12Codes x[i].f2 h2
  have hranges := ev_l11Fault x[i].f3 h3
  unfold spec_l12Value.f valueT
  simp only [hr, if_pos hl]
  generalize x[i] = t at *
  obtain ⟨f0, f1, f2, f3, f4, f5⟩ := t
  simp only [numOk, hasC] at *
  have hk : 1 ≤ f0 ∧ f0 ≤ 11 := by
    simp only [formT, Bool.and_eq_true, decide_eq_true_eq] at hf
    exact hf.1
  have j1 : ∀ b : Bool, b = (decide (f0 = 6) || decide (f0 = 7)) → f0 ≠ 2 → f0 ≠ 3 → f0 ≠ 4 → f0 ≠ 5 → Ev (fun k => spec_l12Value.j1 k (x.drop ((i : Int)).toNat) true f0 b) (if (decide (f0 = 6) || decide (f0 = 7)) = true then (if codesOk f2 = true then 0 else 3) else if f0 = 8 then rangesFault f3 else 0) := by
    intro b hb n2 n3 n4 n5
    refine Ev.succ ?_
    simp only [spec_l12Value.j1, hr]
    rw [hb]
    by_cases h67 : (decide (f0 = 6) || decide (f0 = 7)) = true
    · rw [if_pos h67]
      refine Ev.pos h67 (Ev.pos hl (Ev.bind hcodes (Ev.ite (fun _ => Ev.now _) (fun _ => Ev.now _))))
    · rw [if_neg h67]
      refine Ev.neg h67 (Ev.ite (fun _ => Ev.pos hl (Ev.bind hranges (Ev.now _))) (fun _ => Ev.pos trivial (Ev.now _)))
  by_cases n2 : f0 = 2
  · subst n2
    refine Ev.pos rfl ?_
    by_cases a1 : f1 = 1
    · refine Ev.pos a1 ?_; simp [a1]; exact Ev.now _
    refine Ev.neg a1 ?_
    by_cases a2 : f1 = 2
    · refine Ev.pos a2 ?_; simp [a2]; exact Ev.now _
    refine Ev.neg a2 ?_
    by_cases a4 : f1 = 4
    · refine Ev.pos a4 ?_; simp [a4]; exact Ev.now _
    refine Ev.neg a4 ?_
    by_cases a8 : f1 = 8
    · refine Ev.pos a8 ?_; simp [a8]; exact Ev.now _
    refine Ev.neg a8 ?_
    simp [a1, a2, a4, a8]; exact Ev.now _
  refine Ev.neg n2 ?_
  rw [if_neg n2]
  have j0 : ∀ b : Bool, b = (decide (f0 = 3) || decide (f0 = 4)) → Ev (fun k => spec_l12Value.j0 k (x.drop ((i : Int)).toNat) true f0 b) (if (if f0 = 3 ∨ f0 = 4 then decide (0 ≤ f1 ∧ f1 ≤ 9999) else if f0 = 5 then decide (0 ≤ f1 ∧ f1 ≤ 400) else true) = true then (if (decide (f0 = 6) || decide (f0 = 7)) = true then (if codesOk f2 = true then 0 else 3) else if f0 = 8 then rangesFault f3 else 0) else 3) := by
    intro b hb
    refine Ev.succ ?_
    simp only [spec_l12Value.j0, hr, l1In_eq, Option.bind_some]
    rw [hb]
    by_cases h34 : f0 = 3 ∨ f0 = 4
    · rw [if_pos h34]
      refine Ev.pos (by simpa using h34) (Ev.pos hl ?_)
      have e67 : (decide (f0 = 6) || decide (f0 = 7)) = false := by
        rcases h34 with rfl | rfl <;> rfl
      have n8 : f0 ≠ 8 := by omega
      rw [e67, if_neg n8]
      simp only [Bool.false_eq_true, if_false]
      exact Ev.ite (fun _ => Ev.now _) (fun _ => Ev.now _)
    rw [if_neg h34]
    refine Ev.neg (by simpa using h34) ?_
    by_cases h5 : f0 = 5
    · subst h5
      refine Ev.pos rfl (Ev.pos hl ?_)
      rw [if_pos rfl]
      simp only [show ((decide ((5 : Int) = 6) || decide ((5 : Int) = 7)) = true) = False by decide, if_false, show ((5 : Int) = 8) = False by decide]
      exact Ev.ite (fun _ => Ev.now _) (fun _ => Ev.now _)
    rw [if_neg h5]
    refine Ev.neg h5 ?_
    simp only [if_true]
    by_cases h6 : f0 = 6
    · exact Ev.pos h6 (j1 _ (by subst h6; rfl) n2 (fun e => h34 (.inl e)) (fun e => h34 (.inr e)) h5)
    · exact Ev.neg h6 (j1 _ (by simp [h6]; by_cases h7 : f0 = 7 <;> simp [h7]) n2 (fun e => h34 (.inl e)) (fun e => h34 (.inr e)) h5)
  by_cases n3 : f0 = 3
  · exact Ev.pos n3 (j0 _ (by subst n3; rfl))
  · exact Ev.neg n3 (j0 _ (by by_cases h4 : f0 = 4 <;> simp [n3, h4]))
theorem first_at (ts : List S104) (i : Nat) (s : List Int) (h : InvT ts i s) (hi : 0 < i) : Ev (fun k => spec_l12First.f k ts ((i : Int) - 1)) ((i : Int) - rd s ((i : Int) - 1)) := by
  have := (h.2 (i - 1) (by omega)).2.2
  have e : ((i - 1 : Nat) : Int) = (i : Int) - 1 := by omega
  rw [e] at this
  rw [show (i : Int) - rd s ((i : Int) - 1) = (i : Int) - 1 - rd s ((i : Int) - 1) + 1 by omega]
  exact this
theorem ev_l12Behind (ts : List S104) (i : Nat) (s : List Int) (hi : i < ts.length) (hx : ts.length ≤ 12) (h : InvT ts i s) (hf : formT ts[i] = true) (hv : valueT ts[i] = 0) :
    Ev (fun k => spec_l12Behind.f k ts (i : Int)) (match stepT s ts[i] with | .inl _ => false | .inr _ => true) := by
  unfold spec_l12Behind.f stepT
  simp only [rd_Term_get ts i hi]
  rw [if_pos hf, if_pos hv]
  have hl : s.length = i := h.1
  have hk : 1 ≤ ts[i].f0 ∧ ts[i].f0 ≤ 11 := by
    simp only [formT, Bool.and_eq_true, decide_eq_true_eq] at hf
    exact hf.1
  have hrd : 0 < i → 1 ≤ rd s ((i : Int) - 1) ∧ rd s ((i : Int) - 1) ≤ i := by
    intro hp
    have := h.2 (i - 1) (by omega)
    have e : ((i - 1 : Nat) : Int) = (i : Int) - 1 := by omega
    rw [e] at this
    omega
  refine Ev.pos (by omega) (Ev.pos (by omega) ?_)
  have hw : wrap64 ((i : Int) - 1) = (i : Int) - 1 := wid (by omega) (by omega)
  rw [hw, hl]
  by_cases h9 : ts[i].f0 = 9
  · rw [if_pos h9]
    refine Ev.pos h9 ?_
    by_cases hp : (i : Int) > 0
    · refine Ev.pos hp ?_
      by_cases h4 : ts[i].f4 = (i : Int) - 1
      · rw [if_neg (by omega)]
        simp only [h4, beq_self_eq_true]
        exact Ev.now _
      · rw [if_pos (.inr h4)]
        have : (ts[i].f4 == (i : Int) - 1) = false := beq_eq_false_iff_ne.2 h4
        rw [this]
        exact Ev.now _
    · refine Ev.neg hp ?_
      rw [if_pos (.inl (by omega))]
      exact Ev.now _
  rw [if_neg h9]
  refine Ev.neg h9 ?_
  have h2 : spec_l12Two.f ts[i].f0 = some (decide (9 < ts[i].f0)) := by
    unfold spec_l12Two.f
    by_cases a : ts[i].f0 = 10
    · rw [a]; rfl
    · rw [if_neg a]
      by_cases b : ts[i].f0 = 11
      · rw [b]; rfl
      · have c : ¬ 9 < ts[i].f0 := by omega
        simp [b, c]
  refine Ev.bindc h2 ?_
  by_cases h10 : 9 < ts[i].f0
  · rw [if_pos h10]
    refine Ev.pos (decide_eq_true h10) ?_
    by_cases hp : (i : Int) > 1
    · refine Ev.pos hp ?_
      have hr := hrd (by omega)
      by_cases h5 : ts[i].f5 = (i : Int) - 1
      · refine Ev.pos h5 ?_
        have hfirst := first_at ts i s h (by omega)
        refine Ev.bind hfirst ?_
        by_cases hpos : (i : Int) - rd s ((i : Int) - 1) > 0
        · refine Ev.pos hpos (Ev.bind hfirst ?_)
          rw [wid (x := (i : Int) - rd s ((i : Int) - 1) - 1) (by omega) (by omega)]
          by_cases h4 : ts[i].f4 = (i : Int) - rd s ((i : Int) - 1) - 1
          · rw [if_neg (by omega)]
            simp only [h4, beq_self_eq_true]
            exact Ev.now _
          · rw [if_pos (by omega)]
            have : (ts[i].f4 == (i : Int) - rd s ((i : Int) - 1) - 1) = false := beq_eq_false_iff_ne.2 h4
            rw [this]
            exact Ev.now _
        · rw [if_pos (by omega)]
          exact Ev.neg hpos (Ev.now _)
      · rw [if_pos (.inr (.inl h5))]
        exact Ev.neg h5 (Ev.now _)
    · rw [if_pos (.inl (by omega))]
      exact Ev.neg hp (Ev.now _)
  · rw [if_neg h10]
    exact Ev.neg (by simpa using h10) (Ev.now _)
theorem stepT_cases (s : List Int) (t : S104) (hf : formT t = true) (hv : valueT t = 0) : stepT s t = .inl 1 ∨ ∃ s', stepT s t = .inr s' := by
  unfold stepT
  rw [if_pos hf, if_pos hv]
  by_cases h9 : t.f0 = 9
  · rw [if_pos h9]
    by_cases hb : (s.length : Int) = 0 ∨ t.f4 ≠ (s.length : Int) - 1
    · exact .inl (if_pos hb)
    · exact .inr ⟨_, if_neg hb⟩
  rw [if_neg h9]
  by_cases h10 : 9 < t.f0
  · rw [if_pos h10]
    by_cases hb : (s.length : Int) < 2 ∨ t.f5 ≠ (s.length : Int) - 1 ∨ t.f4 < 0 ∨ t.f4 ≠ (s.length : Int) - 1 - rd s ((s.length : Int) - 1)
    · exact .inl (if_pos hb)
    · exact .inr ⟨_, if_neg hb⟩
  · rw [if_neg h10]
    exact .inr ⟨_, rfl⟩
theorem ev_l12Fault (ts : List S104) (hok : ∀ y ∈ ts, okITerm y) : Ev (fun k => spec_l12Fault.f k ts) (termsFault ts) := by
  unfold spec_l12Fault.f termsFault
  by_cases hlen : 1 ≤ ts.length ∧ ts.length ≤ 12
  case neg =>
    rw [if_neg hlen]
    by_cases h1 : (ts.length : Int) < 1
    · refine Ev.pos h1 (Ev.succ ?_)
      simp only [spec_l12Fault.j0]
      exact Ev.pos trivial (Ev.now _)
    · refine Ev.neg h1 (Ev.succ ?_)
      simp only [spec_l12Fault.j0]
      exact Ev.pos (by simp; omega) (Ev.now _)
  rw [if_pos hlen]
  refine Ev.neg (by omega) (Ev.succ ?_)
  simp only [spec_l12Fault.j0]
  refine Ev.neg (by simp; omega) ?_
  have h := ev_run (fun k (_ : List Int) i => spec_l12Fault.l0 k ts i) ts stepT (fun s => if rd s ((ts.length : Int) - 1) = ts.length then 0 else 1) (InvT ts) ?_ ?_ ?_ 0 [] (by omega) ⟨rfl, fun j hj => absurd hj (by omega)⟩
  · rw [List.drop_zero] at h; revert h; cases run stepT ts [] <;> exact fun h => h
  · intro s hI
    refine Ev.succ ?_
    simp only [spec_l12Fault.l0, Int.lt_irrefl, if_false]
    rw [wid (x := (ts.length : Int) - 1) (by omega) (by omega)]
    refine Ev.bind (first_at ts ts.length s hI (by omega)) ?_
    by_cases hr : rd s ((ts.length : Int) - 1) = ts.length
    · rw [if_pos hr]; exact Ev.pos (by omega) (Ev.now _)
    · rw [if_neg hr]; exact Ev.neg (by omega) (Ev.now _)
  · intro i hi s r hI hs
    refine Ev.succ ?_
    simp only [spec_l12Fault.l0]
    refine Ev.pos (by omega) (Ev.pos (by omega) (Ev.bind (ev_l12Form ts i hi) ?_))
    have ok := hok ts[i] (List.getElem_mem hi)
    by_cases hf : formT ts[i] = true
    case neg =>
      unfold stepT at hs; rw [if_neg hf] at hs; cases hs
      exact Ev.neg hf (Ev.now _)
    refine Ev.pos hf (Ev.bind (ev_l12Value ts i hi hf ok.1 ok.2) ?_)
    by_cases hv : valueT ts[i] = 0
    case neg =>
      unfold stepT at hs; rw [if_pos hf, if_neg hv] at hs; cases hs
      exact Ev.neg hv (Ev.now _)
    refine Ev.pos hv (Ev.bind (ev_l12Behind ts i s hi hlen.2 hI hf hv) ?_)
    rw [hs]
    rcases stepT_cases s ts[i] hf hv with h | ⟨s', h⟩
    · rw [hs] at h; cases h
      exact Ev.neg (by simp) (Ev.now _)
    · rw [hs] at h; cases h
  · intro i hi s s' hI hs
    refine ⟨InvT_step ts i s s' hi hI hs, fun r h => ?_⟩
    refine Ev.succ ?_
    simp only [spec_l12Fault.l0, wsucc hi (show ts.length ≤ 281474976710656 by omega)]
    refine Ev.pos (by omega) (Ev.pos (by omega) (Ev.bind (ev_l12Form ts i hi) ?_))
    have ok := hok ts[i] (List.getElem_mem hi)
    by_cases hf : formT ts[i] = true
    case neg => unfold stepT at hs; rw [if_neg hf] at hs; cases hs
    refine Ev.pos hf (Ev.bind (ev_l12Value ts i hi hf ok.1 ok.2) ?_)
    by_cases hv : valueT ts[i] = 0
    case neg => unfold stepT at hs; rw [if_pos hf, if_neg hv] at hs; cases hs
    refine Ev.pos hv (Ev.bind (ev_l12Behind ts i s hi hlen.2 hI hf hv) ?_)
    rw [hs]
    exact Ev.pos rfl h
theorem InvT_rd (ts : List S104) (i : Nat) (s : List Int) (h : InvT ts i s) (q : Int) (h0 : 0 ≤ q) (h1 : q < i) : 1 ≤ rd s q ∧ rd s q ≤ q + 1 := by
  have := h.2 q.toNat (by omega)
  have e : ((q.toNat : Nat) : Int) = q := by omega
  rw [e] at this
  exact ⟨this.1, this.2.1⟩
/-- What the program does with one term, whatever follows. -/
theorem ev_implStep (ts : List S104) (i : Nat) (s : List Int) (hi : i < ts.length) (hx : ts.length ≤ 12) (h : InvT ts i s) (ok : okITerm ts[i]) (r : Int)
    (hl : ∀ v, stepT s ts[i] = .inl v → r = v) (hr : ∀ s', stepT s ts[i] = .inr s' → Ev (fun k => impl_TermsFault.l0 k ts s' ts (ts.length : Int) ((i + 1 : Nat) : Int)) r) :
    Ev (fun k => impl_TermsFault.l0 k ts s ts (ts.length : Int) (i : Int)) r := by
  have hlen : s.length = i := h.1
  have hw : wrap64 ((i : Int) - 1) = (i : Int) - 1 := wid (by omega) (by omega)
  have j2 : formT ts[i] = true → valueT ts[i] = 0 → Ev (fun k => impl_TermsFault.j2 k ts s (i : Int) 1 ts (ts.length : Int) (i : Int) ts[i].f0 ts[i].f1 ts[i].f2 ts[i].f3 ts[i].f4 ts[i].f5) r := by
    intro hf hv
    unfold stepT at hl hr
    rw [if_pos hf, if_pos hv] at hl hr
    refine Ev.succ ?_
    simp only [impl_TermsFault.j2, hw, wsucc hi (show ts.length ≤ 281474976710656 by omega)]
    rw [hlen] at hl hr
    by_cases h9 : ts[i].f0 = 9
    · rw [if_pos h9] at hl hr
      refine Ev.pos h9 ?_
      by_cases h0 : (i : Int) = 0
      · rw [if_pos (.inl h0)] at hl
        rw [hl 1 rfl]
        exact Ev.pos h0 (Ev.now _)
      refine Ev.neg h0 ?_
      by_cases h4 : ts[i].f4 = (i : Int) - 1
      · rw [if_neg (by omega)] at hr
        refine Ev.pos h4 (Ev.pos (by omega) (Ev.pos (by omega) (Ev.pos (by omega) ?_)))
        have hq := InvT_rd ts i s h ((i : Int) - 1) (by omega) (by omega)
        rw [wid (x := 1 + rd s ((i : Int) - 1)) (by omega) (by omega)]
        exact hr _ rfl
      · rw [if_pos (.inr h4)] at hl
        rw [hl 1 rfl]
        exact Ev.neg h4 (Ev.now _)
    rw [if_neg h9] at hl hr
    refine Ev.neg h9 ?_
    by_cases h10 : 9 < ts[i].f0
    · rw [if_pos h10] at hl hr
      refine Ev.pos h10 ?_
      by_cases h2 : (i : Int) < 2
      · rw [if_pos (.inl h2)] at hl
        rw [hl 1 rfl]
        exact Ev.pos h2 (Ev.now _)
      refine Ev.neg h2 ?_
      by_cases h5 : ts[i].f5 = (i : Int) - 1
      case neg =>
        rw [if_pos (.inr (.inl h5))] at hl
        rw [hl 1 rfl]
        exact Ev.neg h5 (Ev.now _)
      refine Ev.pos h5 ?_
      by_cases h4 : ts[i].f4 < 0
      · rw [if_pos (.inr (.inr (.inl h4)))] at hl
        rw [hl 1 rfl]
        exact Ev.pos h4 (Ev.now _)
      have hq := InvT_rd ts i s h ((i : Int) - 1) (by omega) (by omega)
      rw [wid (x := (i : Int) - 1 - rd s ((i : Int) - 1)) (by omega) (by omega)]
      refine Ev.neg h4 (Ev.pos (by omega) (Ev.pos (by omega) ?_))
      by_cases h6 : ts[i].f4 = (i : Int) - 1 - rd s ((i : Int) - 1)
      · rw [if_neg (by omega)] at hr
        have hq2 := InvT_rd ts i s h ts[i].f4 (by omega) (by omega)
        refine Ev.pos h6 (Ev.pos (by omega) (Ev.pos (by omega) (Ev.pos (by omega) ?_)))
        rw [wid (x := rd s ((i : Int) - 1) + rd s ts[i].f4) (by omega) (by omega), wid (x := 1 + (rd s ((i : Int) - 1) + rd s ts[i].f4)) (by omega) (by omega)]
        exact hr _ rfl
      · rw [if_pos (.inr (.inr (.inr h6)))] at hl
        rw [hl 1 rfl]
        exact Ev.neg h6 (Ev.now _)
    · rw [if_neg h10] at hr
      exact Ev.neg h10 (Ev.pos (by omega) (hr _ rfl))
  have j1 : ∀ b : Bool, (b = !(formT ts[i])) → Ev (fun k => impl_TermsFault.j1 k ts s (i : Int) 1 ts (ts.length : Int) (i : Int) b ts[i].f0 ts[i].f1 ts[i].f2 ts[i].f3 ts[i].f4 ts[i].f5) r := by
    intro b hb
    refine Ev.succ ?_
    simp only [impl_TermsFault.j1]
    rw [hb]
    by_cases hf : formT ts[i] = true
    case neg =>
      unfold stepT at hl
      rw [if_neg hf] at hl
      rw [hl 1 rfl]
      exact Ev.pos (by simpa using hf) (Ev.now _)
    refine Ev.neg (by simp [hf]) (Ev.bind (isNumT ts[i]) ?_)
    by_cases hn : numOk ts[i] = true
    case neg =>
      have hv : valueT ts[i] = 3 := by unfold valueT; rw [if_neg hn]
      unfold stepT at hl
      rw [if_pos hf, if_neg (by rw [hv]; decide), hv] at hl
      rw [hl 3 rfl]
      exact Ev.neg hn (Ev.now _)
    refine Ev.pos hn (Ev.bind (areCodesT ts[i] ok.1) ?_)
    by_cases hc : (!hasC ts[i] || codesOk ts[i].f2) = true
    case neg =>
      have hc1 : hasC ts[i] = true := by
        cases e : hasC ts[i] with
        | true => rfl
        | false => rw [e] at hc; exact absurd rfl hc
      have hc2 : ¬ codesOk ts[i].f2 = true := by
        intro e; rw [e] at hc; exact hc (by simp)
      have hv : valueT ts[i] = 3 := by unfold valueT; rw [if_pos hn, if_pos hc1, if_neg hc2]
      unfold stepT at hl
      rw [if_pos hf, if_neg (by rw [hv]; decide), hv] at hl
      rw [hl 3 rfl]
      exact Ev.neg hc (Ev.now _)
    refine Ev.pos hc ?_
    by_cases h8 : ts[i].f0 = 8
    · refine Ev.pos h8 (Ev.bind (ev_implRangesFault ts[i].f3 ok.2) ?_)
      have hc1 : ¬ hasC ts[i] = true := by
        unfold hasC; rw [h8]; decide
      have hv : valueT ts[i] = rangesFault ts[i].f3 := by unfold valueT; rw [if_pos hn, if_neg hc1, if_pos h8]
      by_cases h0 : rangesFault ts[i].f3 = 0
      · exact Ev.pos h0 (j2 hf (by rw [hv, h0]))
      · unfold stepT at hl
        rw [if_pos hf, if_neg (by rw [hv]; exact h0), hv] at hl
        rw [hl _ rfl]
        exact Ev.neg h0 (Ev.now _)
    · refine Ev.neg h8 (j2 hf ?_)
      unfold valueT
      rw [if_pos hn]
      by_cases hc1 : hasC ts[i] = true
      · rw [if_pos hc1]
        rw [hc1] at hc
        rw [if_pos (by simpa using hc)]
      · rw [if_neg hc1, if_neg h8]
  refine Ev.succ ?_
  simp only [impl_TermsFault.l0, rd_Term_get ts i hi, within_eq, Option.bind_some]
  refine Ev.pos (by omega) (Ev.pos (by omega) (Ev.pos (by omega) ?_))
  by_cases hk : 1 ≤ ts[i].f0 ∧ ts[i].f0 ≤ 11
  · exact Ev.pos (decide_eq_true hk) (Ev.bindc (isOnlyT ts[i] hk) (j1 _ rfl))
  · refine Ev.neg (by simpa using hk) (j1 _ ?_)
    unfold formT
    rw [decide_eq_false hk]
    rfl
theorem ev_implTermsFault (ts : List S104) (hok : ∀ y ∈ ts, okITerm y) : Ev (fun k => impl_TermsFault.f k ts) (termsFault ts) := by
  unfold impl_TermsFault.f termsFault
  simp only [impl_Term.f, within_eq, Option.bind_some]
  by_cases hlen : 1 ≤ ts.length ∧ ts.length ≤ 12
  case neg =>
    rw [if_neg hlen]
    exact Ev.neg (by simp; omega) (Ev.now _)
  rw [if_pos hlen]
  refine Ev.pos (by simp; omega) ?_
  have h := ev_run (fun k (s : List Int) i => impl_TermsFault.l0 k ts s ts (ts.length : Int) i) ts stepT (fun s => if rd s ((ts.length : Int) - 1) = ts.length then 0 else 1) (InvT ts) ?_ ?_ ?_ 0 [] (by omega) ⟨rfl, fun j hj => absurd hj (by omega)⟩
  · rw [List.drop_zero] at h; revert h; cases run stepT ts [] <;> exact fun h => h
  · intro s hI
    have hl : s.length = ts.length := hI.1
    refine Ev.succ ?_
    simp only [impl_TermsFault.l0, Int.lt_irrefl, if_false, impl_Term.f, Option.bind_some]
    rw [wid (x := (ts.length : Int) - 1) (by omega) (by omega)]
    exact Ev.pos (by omega) (Ev.pos (by omega) (Ev.ite (fun _ => Ev.now _) (fun _ => Ev.now _)))
  · intro i hi s r hI hs
    exact ev_implStep ts i s hi hlen.2 hI (hok _ (List.getElem_mem hi)) r (fun v hv => by rw [hs] at hv; cases hv; rfl) (fun s' hs' => by rw [hs] at hs'; cases hs')
  · intro i hi s s' hI hs
    refine ⟨InvT_step ts i s s' hi hI hs, fun r h => ?_⟩
    exact ev_implStep ts i s hi hlen.2 hI (hok _ (List.getElem_mem hi)) r (fun v hv => by rw [hs] at hv; cases hv) (fun s2 hs2 => by rw [hs] at hs2; cases hs2; exact h)
def cvRange (x : S102) : S100 := ⟨x.f0, x.f1⟩
theorem rd_lRange_get (x : List S102) (i : Nat) (h : i < x.length) : rd_T102 x (i : Int) = x[i] := by simp [rd_T102, List.getD_eq_getElem?_getD, h]
def cvTerm (x : S96) : S104 := ⟨x.f0, x.f1, x.f2, x.f3.map cvRange, x.f4, x.f5⟩
def bigTerm (x : S96) : Prop := x.f2.length ≤ 140737488351232 ∧ x.f3.length * 16 ≤ 140737488351232
def okTerm (x : S96) : Prop := x.f2.length ≤ 1048576 ∧ x.f3.length ≤ 1048576
theorem okITerm_cv {x : List S96} (hin : ∀ y ∈ x, okTerm y) : ∀ y ∈ x.map cvTerm, okITerm y := by
  intro y hy
  obtain ⟨z, hz, rfl⟩ := List.mem_map.1 hy
  have := hin z hz
  exact ⟨this.1, by simpa [cvTerm] using this.2⟩
theorem rd_lTerm_get (x : List S96) (i : Nat) (h : i < x.length) : rd_T96 x (i : Int) = x[i] := by simp [rd_T96, List.getD_eq_getElem?_getD, h]
theorem szInt64S_eq (x : List Int) (m : Int) (hx : x.length ≤ 140737488351232) (h0 : 0 ≤ m) (h1 : m ≤ 1048576) : laws_szInt64S.f x m = some (if m - x.length < 0 then -1 else m - x.length) := by
  unfold laws_szInt64S.f
  rw [wid (by omega) (by omega)]
  split <;> rfl
theorem szRangeS_eq (x : List S102) (m : Int) (hx : x.length * 16 ≤ 140737488351232) (h0 : 0 ≤ m) (h1 : m ≤ 1048576) : laws_szRangeS.f x m = some (if m - x.length < 0 then -1 else m - x.length) := by
  unfold laws_szRangeS.f
  rw [wid (by omega) (by omega)]
  split <;> rfl
theorem ev_toInt64S (x : List Int) (hx : x.length ≤ 1048576) : Ev (fun k => laws_toInt64S.f k x) x := by
  unfold laws_toInt64S.f
  have h := ev_copy (fun k y i => laws_toInt64S.l0 k x y i) x (fun a => a) (fun y => y) ?_ ?_ (List.replicate x.length 0) (by simp)
  · simp only [List.map_id'] at h
    refine Ev.pos (by omega) (Ev.pos (by omega) ?_)
    simp only [Int.toNat_natCast]
    exact h
  · refine Ev.succ ?_
    simp only [laws_toInt64S.l0, Int.lt_irrefl, if_false]
    exact Ev.now _
  · intro i hi y hy r h
    refine Ev.succ ?_
    simp only [laws_toInt64S.l0]
    refine Ev.pos (by omega) (Ev.pos (by omega) (Ev.pos (by omega) ?_))
    simp only [Int.toNat_natCast, rd_get x i hi, wsucc hi (show x.length ≤ 281474976710656 by omega)]
    exact h
theorem ev_toRangeS (x : List S102) (hx : x.length ≤ 1048576) : Ev (fun k => laws_toRangeS.f k x) (x.map cvRange) := by
  unfold laws_toRangeS.f
  have h := ev_copy (fun k y i => laws_toRangeS.l0 k x y i) x cvRange (fun y => y) ?_ ?_ (List.replicate x.length z100) (by simp)
  · refine Ev.pos (by omega) (Ev.pos (by omega) ?_)
    simp only [Int.toNat_natCast]
    exact h
  · refine Ev.succ ?_
    simp only [laws_toRangeS.l0, Int.lt_irrefl, if_false]
    exact Ev.now _
  · intro i hi y hy r h
    refine Ev.succ ?_
    simp only [laws_toRangeS.l0, laws_toRange.f, Option.bind_some]
    refine Ev.pos (by omega) (Ev.pos (by omega) (Ev.pos (by omega) ?_))
    simp only [Int.toNat_natCast, rd_lRange_get x i hi, wsucc hi (show x.length ≤ 281474976710656 by omega)]
    exact h
theorem ev_eqInt64S (x : List Int) (hx : x.length ≤ 1048576) : Ev (fun k => laws_eqInt64S.f k x x) true := by
  unfold laws_eqInt64S.f
  refine Ev.pos rfl ?_
  refine ev_iter (fun k (_ : Unit) i => laws_eqInt64S.l0 k x x i) x.length (fun _ => ()) true ?_ ?_
  · refine Ev.succ ?_
    simp only [laws_eqInt64S.l0, Int.lt_irrefl, if_false]
    exact Ev.now _
  · intro i hi r h
    refine Ev.succ ?_
    simp only [laws_eqInt64S.l0]
    refine Ev.pos (by omega) (Ev.pos (by omega) (Ev.pos (by omega) (Ev.pos trivial ?_)))
    simp only [wsucc hi (show x.length ≤ 281474976710656 by omega)]
    exact h
theorem ev_eqRangeS (x : List S100) (hx : x.length ≤ 1048576) : Ev (fun k => laws_eqRangeS.f k x x) true := by
  unfold laws_eqRangeS.f
  refine Ev.pos rfl ?_
  refine ev_iter (fun k (_ : Unit) i => laws_eqRangeS.l0 k x x i) x.length (fun _ => ()) true ?_ ?_
  · refine Ev.succ ?_
    simp only [laws_eqRangeS.l0, Int.lt_irrefl, if_false]
    exact Ev.now _
  · intro i hi r h
    refine Ev.succ ?_
    simp only [laws_eqRangeS.l0, laws_eqRange.f]
    refine Ev.pos (by omega) (Ev.pos (by omega) (Ev.pos (by omega) ?_))
    simp only [if_true, Option.bind_some, wsucc hi (show x.length ≤ 281474976710656 by omega)]
    exact h
theorem ev_szTerm (y : S96) (hy : bigTerm y) (m : Int) (h0 : 0 ≤ m) (h1 : m ≤ 1048576) : ∃ r, Ev (fun _ => laws_szTerm.f y.f0 y.f1 y.f2 y.f3 y.f4 y.f5 m) r ∧ (r < 0 ∨ (0 ≤ r ∧ r ≤ m ∧ okTerm y)) := by
  obtain ⟨b2, b3⟩ := hy
  unfold laws_szTerm.f okTerm
  rw [szInt64S_eq y.f2 m b2 (by omega) (by omega)]
  simp only [Option.bind_some]
  by_cases c2 : m - (y.f2.length : Int) < 0
  · rw [if_pos c2]
    exact ⟨-1, Ev.pos (by omega) (Ev.now _), .inl (by omega)⟩
  rw [if_neg c2, szRangeS_eq y.f3 (m - y.f2.length) b3 (by omega) (by omega)]
  simp only [Option.bind_some]
  by_cases c3 : m - (y.f2.length : Int) - (y.f3.length : Int) < 0
  · rw [if_pos c3]
    exact ⟨-1, Ev.neg (by omega) (Ev.pos (by omega) (Ev.now _)), .inl (by omega)⟩
  · rw [if_neg c3]
    exact ⟨_, Ev.neg (by omega) (Ev.neg (by omega) (Ev.now _)), .inr ⟨by omega, by omega, by omega, by omega⟩⟩
theorem ev_toTerm (y : S96) (hy : okTerm y) : Ev (fun k => laws_toTerm.f k y.f0 y.f1 y.f2 y.f3 y.f4 y.f5) (y.f0, y.f1, y.f2, y.f3.map cvRange, y.f4, y.f5) := by
  unfold laws_toTerm.f
  exact Ev.bind (ev_toInt64S _ hy.1) (Ev.bind (ev_toRangeS _ hy.2) (Ev.now _))
theorem ev_eqTerm (y : S104) (hy : okITerm y) : Ev (fun k => laws_eqTerm.f k y.f0 y.f1 y.f2 y.f3 y.f4 y.f5 y.f0 y.f1 y.f2 y.f3 y.f4 y.f5) true := by
  unfold laws_eqTerm.f
  refine Ev.pos rfl (Ev.pos rfl (Ev.bind (ev_eqInt64S _ hy.1) (Ev.pos rfl (Ev.bind (ev_eqRangeS _ hy.2) (Ev.pos rfl (Ev.pos rfl (Ev.pos rfl (Ev.now _))))))))
theorem ev_szTermS (x : List S96) (hx : x.length ≤ 140737488351232) (hin : ∀ y ∈ x, bigTerm y) (m : Int) (h0 : 0 ≤ m) (h1 : m ≤ 1048576) :
    ∃ r, Ev (fun k => laws_szTermS.f k x m) r ∧ (r < 0 ∨ (0 ≤ r ∧ r ≤ m ∧ x.length ≤ 1048576 ∧ ∀ y ∈ x, okTerm y)) := by
  unfold laws_szTermS.f
  simp only [wid (x := m - x.length) (by omega) (by omega)]
  by_cases hn : m - (x.length : Int) < 0
  · exact ⟨-1, Ev.pos hn (Ev.now _), .inl (by omega)⟩
  suffices H : ∃ r, Ev (fun k => laws_szTermS.l0 k x (m - x.length) 0) r ∧ (r < 0 ∨ (0 ≤ r ∧ r ≤ m - x.length ∧ ∀ a ∈ x, okTerm a)) by
    obtain ⟨r, hr, hr'⟩ := H
    refine ⟨r, Ev.neg hn hr, ?_⟩
    rcases hr' with h | ⟨a, b, c⟩
    · exact .inl h
    · exact .inr ⟨a, by omega, by omega, c⟩
  refine ev_szL (fun k m i => laws_szTermS.l0 k x m i) x okTerm ?_ ?_ (m - x.length) (by omega) (by omega)
  · intro m hm
    refine Ev.succ ?_
    simp only [laws_szTermS.l0, Int.lt_irrefl, if_false]
    exact Ev.now _
  · intro i hi m hm0 hm1
    obtain ⟨r, hr, hr'⟩ := ev_szTerm x[i] (hin x[i] (List.getElem_mem hi)) m hm0 hm1
    refine ⟨r, hr', ?_, ?_⟩
    · intro hneg
      refine Ev.succ ?_
      simp only [laws_szTermS.l0, rd_lTerm_get x i hi]
      exact Ev.pos (by omega) (Ev.pos (by omega) (Ev.bind hr (Ev.pos hneg (Ev.now _))))
    · intro hpos q hq
      refine Ev.succ ?_
      simp only [laws_szTermS.l0, rd_lTerm_get x i hi, wsucc hi (show x.length ≤ 281474976710656 by omega)]
      exact Ev.pos (by omega) (Ev.pos (by omega) (Ev.bind hr (Ev.neg (by omega) hq)))
theorem ev_toTermS (x : List S96) (hx : x.length ≤ 1048576) (hin : ∀ y ∈ x, okTerm y) : Ev (fun k => laws_toTermS.f k x) (x.map cvTerm) := by
  unfold laws_toTermS.f
  have h := ev_copy (fun k y i => laws_toTermS.l0 k x y i) x cvTerm (fun y => y) ?_ ?_ (List.replicate x.length z104) (by simp)
  · refine Ev.pos (by omega) (Ev.pos (by omega) ?_)
    simp only [Int.toNat_natCast]
    exact h
  · refine Ev.succ ?_
    simp only [laws_toTermS.l0, Int.lt_irrefl, if_false]
    exact Ev.now _
  · intro i hi y hy r h
    refine Ev.succ ?_
    simp only [laws_toTermS.l0, rd_lTerm_get x i hi]
    refine Ev.pos (by omega) (Ev.pos (by omega) (Ev.bind (ev_toTerm _ (hin _ (List.getElem_mem hi))) (Ev.pos (by omega) ?_)))
    simp only [Int.toNat_natCast, wsucc hi (show x.length ≤ 281474976710656 by omega)]
    exact h
theorem ev_eqTermS (x : List S104) (hx : x.length ≤ 1048576) (hin : ∀ y ∈ x, okITerm y) : Ev (fun k => laws_eqTermS.f k x x) true := by
  unfold laws_eqTermS.f
  refine Ev.pos rfl ?_
  refine ev_iter (fun k (_ : Unit) i => laws_eqTermS.l0 k x x i) x.length (fun _ => ()) true ?_ ?_
  · refine Ev.succ ?_
    simp only [laws_eqTermS.l0, Int.lt_irrefl, if_false]
    exact Ev.now _
  · intro i hi r h
    refine Ev.succ ?_
    simp only [laws_eqTermS.l0, rd_Term_get x i hi]
    refine Ev.pos (by omega) (Ev.pos (by omega) (Ev.pos (by omega) (Ev.bind (ev_eqTerm _ (hin _ (List.getElem_mem hi))) (Ev.pos rfl ?_))))
    simp only [wsucc hi (show x.length ≤ 281474976710656 by omega)]
    exact h
theorem ev_toByteS (x : List Int) (hx : x.length ≤ 1048576) : Ev (fun k => laws_toByteS.f k x) x := by
  unfold laws_toByteS.f
  have h := ev_copy (fun k y i => laws_toByteS.l0 k x y i) x (fun a => a) (fun y => y) ?_ ?_ (List.replicate x.length 0) (by simp)
  · simp only [List.map_id'] at h
    refine Ev.pos (by omega) (Ev.pos (by omega) ?_)
    simp only [Int.toNat_natCast]
    exact h
  · refine Ev.succ ?_
    simp only [laws_toByteS.l0, Int.lt_irrefl, if_false]
    exact Ev.now _
  · intro i hi y hy r h
    refine Ev.succ ?_
    simp only [laws_toByteS.l0]
    refine Ev.pos (by omega) (Ev.pos (by omega) (Ev.pos (by omega) ?_))
    simp only [Int.toNat_natCast, rd_get x i hi, wsucc hi (show x.length ≤ 281474976710656 by omega)]
    exact h
theorem ev_eqByteS (x : List Int) (hx : x.length ≤ 1048576) : Ev (fun k => laws_eqByteS.f k x x) true := by
  unfold laws_eqByteS.f
  refine Ev.pos rfl ?_
  refine ev_iter (fun k (_ : Unit) i => laws_eqByteS.l0 k x x i) x.length (fun _ => ()) true ?_ ?_
  · refine Ev.succ ?_
    simp only [laws_eqByteS.l0, Int.lt_irrefl, if_false]
    exact Ev.now _
  · intro i hi r h
    refine Ev.succ ?_
    simp only [laws_eqByteS.l0]
    refine Ev.pos (by omega) (Ev.pos (by omega) (Ev.pos (by omega) (Ev.pos trivial ?_)))
    simp only [wsucc hi (show x.length ≤ 281474976710656 by omega)]
    exact h
theorem szByteS_eq (x : List Int) (m : Int) (hx : x.length ≤ 140737488351232) (h0 : 0 ≤ m) (h1 : m ≤ 1048576) : laws_szByteS.f x m = some (if m - x.length < 0 then -1 else m - x.length) := by
  unfold laws_szByteS.f
  rw [wid (by omega) (by omega)]
  split <;> rfl
theorem ev_szCmd (a0 : ByteArray) (a1 : Int) (a2 : ByteArray) (a3 : List S102) (a4 : Int) (a5 : Int) (a6 : Int) (a7 : List Int) (a8 : Int) (a9 : List Int) (a10 : Int) (a11 : Bool) (a12 : List S96) (a13 : Int) (h0 : a0.size ≤ 140737488351232) (h2 : a2.size ≤ 140737488351232) (h3 : a3.length * 16 ≤ 140737488351232) (h7 : a7.length ≤ 140737488351232) (h9 : a9.length ≤ 140737488351232) (h12 : a12.length ≤ 140737488351232) (hin : ∀ y ∈ a12, bigTerm y) (m : Int) (hm0 : 0 ≤ m) (hm1 : m ≤ 1048576) :
    ∃ r, Ev (fun k => laws_szCmd.f k a0 a1 a2 a3 a4 a5 a6 a7 a8 a9 a10 a11 a12 a13 m) r ∧ (r < 0 ∨ (0 ≤ r ∧ r ≤ m ∧ a0.size ≤ 1048576 ∧ a2.size ≤ 1048576 ∧ a3.length ≤ 1048576 ∧ a7.length ≤ 1048576 ∧ a9.length ≤ 1048576 ∧ a12.length ≤ 1048576 ∧ ∀ y ∈ a12, okTerm y)) := by
  unfold laws_szCmd.f
  rw [wid (x := m - (a0.size : Int)) (by omega) (by omega)]
  by_cases c0 : m - (a0.size : Int) < 0
  · exact ⟨-1, Ev.pos c0 (Ev.now _), .inl (by omega)⟩
  rw [wid (x := m - (a0.size : Int) - (a2.size : Int)) (by omega) (by omega)]
  by_cases c2 : m - (a0.size : Int) - (a2.size : Int) < 0
  · exact ⟨-1, Ev.neg c0 (Ev.pos c2 (Ev.now _)), .inl (by omega)⟩
  rw [szRangeS_eq a3 _ h3 (by omega) (by omega)]
  simp only [Option.bind_some]
  by_cases c3 : m - (a0.size : Int) - (a2.size : Int) - (a3.length : Int) < 0
  · rw [if_pos c3]
    exact ⟨-1, Ev.neg c0 (Ev.neg c2 (Ev.pos (by omega) (Ev.now _))), .inl (by omega)⟩
  rw [if_neg c3, szByteS_eq a7 _ h7 (by omega) (by omega)]
  simp only [Option.bind_some]
  by_cases c7 : m - (a0.size : Int) - (a2.size : Int) - (a3.length : Int) - (a7.length : Int) < 0
  · rw [if_pos c7]
    exact ⟨-1, Ev.neg c0 (Ev.neg c2 (Ev.neg c3 (Ev.pos (by omega) (Ev.now _)))), .inl (by omega)⟩
  rw [if_neg c7, szInt64S_eq a9 _ h9 (by omega) (by omega)]
  simp only [Option.bind_some]
  by_cases c9 : m - (a0.size : Int) - (a2.size : Int) - (a3.length : Int) - (a7.length : Int) - (a9.length : Int) < 0
  · rw [if_pos c9]
    exact ⟨-1, Ev.neg c0 (Ev.neg c2 (Ev.neg c3 (Ev.neg c7 (Ev.pos (by omega) (Ev.now _))))), .inl (by omega)⟩
  rw [if_neg c9]
  obtain ⟨r, hr, hr'⟩ := ev_szTermS a12 h12 hin (m - (a0.size : Int) - (a2.size : Int) - (a3.length : Int) - (a7.length : Int) - (a9.length : Int)) (by omega) (by omega)
  rcases hr' with h | ⟨g0, g1, g2, g3⟩
  · exact ⟨-1, Ev.neg c0 (Ev.neg c2 (Ev.neg c3 (Ev.neg c7 (Ev.neg c9 (Ev.bind hr (Ev.pos h (Ev.now _))))))), .inl (by omega)⟩
  · exact ⟨r, Ev.neg c0 (Ev.neg c2 (Ev.neg c3 (Ev.neg c7 (Ev.neg c9 (Ev.bind hr (Ev.neg (by omega) (Ev.now _))))))), .inr ⟨g0, by omega, by omega, by omega, by omega, by omega, by omega, g2, g3⟩⟩
theorem ev_toCmd (a0 : ByteArray) (a1 : Int) (a2 : ByteArray) (a3 : List S102) (a4 : Int) (a5 : Int) (a6 : Int) (a7 : List Int) (a8 : Int) (a9 : List Int) (a10 : Int) (a11 : Bool) (a12 : List S96) (a13 : Int) (h3 : a3.length ≤ 1048576) (h7 : a7.length ≤ 1048576) (h9 : a9.length ≤ 1048576) (h12 : a12.length ≤ 1048576) (hok : ∀ y ∈ a12, okTerm y) : Ev (fun k => laws_toCmd.f k a0 a1 a2 a3 a4 a5 a6 a7 a8 a9 a10 a11 a12 a13) (a0, a1, a2, a3.map cvRange, a4, a5, a6, a7, a8, a9, a10, a11, a12.map cvTerm, a13) := by
  unfold laws_toCmd.f
  exact Ev.bind (ev_toRangeS a3 h3) (Ev.bind (ev_toByteS a7 h7) (Ev.bind (ev_toInt64S a9 h9) (Ev.bind (ev_toTermS a12 h12 hok) (Ev.now _))))
theorem ev_eqCmd (a0 : ByteArray) (a1 : Int) (a2 : ByteArray) (a3 : List S100) (a4 : Int) (a5 : Int) (a6 : Int) (a7 : List Int) (a8 : Int) (a9 : List Int) (a10 : Int) (a11 : Bool) (a12 : List S104) (a13 : Int) (h3 : a3.length ≤ 1048576) (h7 : a7.length ≤ 1048576) (h9 : a9.length ≤ 1048576) (h12 : a12.length ≤ 1048576) (hok : ∀ y ∈ a12, okITerm y) : Ev (fun k => laws_eqCmd.f k a0 a1 a2 a3 a4 a5 a6 a7 a8 a9 a10 a11 a12 a13 a0 a1 a2 a3 a4 a5 a6 a7 a8 a9 a10 a11 a12 a13) true := by
  unfold laws_eqCmd.f
  exact Ev.pos rfl (Ev.pos rfl (Ev.pos rfl (Ev.bind (ev_eqRangeS a3 h3) (Ev.pos rfl (Ev.pos rfl (Ev.pos rfl (Ev.pos rfl (Ev.bind (ev_eqByteS a7 h7) (Ev.pos rfl (Ev.pos rfl (Ev.bind (ev_eqInt64S a9 h9) (Ev.pos rfl (Ev.pos rfl (Ev.neg (by simp) (Ev.bind (ev_eqTermS a12 h12 hok) (Ev.pos rfl (Ev.pos rfl (Ev.now _))))))))))))))))))
def tagByte (s : ByteArray) (i : Nat) : Bool := decide (97 ≤ bt s (i : Int) ∧ bt s (i : Int) ≤ 122) || decide (48 ≤ bt s (i : Int) ∧ bt s (i : Int) ≤ 57)
def isTagF (s : ByteArray) : Bool := (List.range s.size).all (fun i => tagByte s i) && decide (1 ≤ (s.size : Int) ∧ (s.size : Int) ≤ 4)
theorem ev_l14Tag (s : ByteArray) (hs : s.size ≤ 281474976710656) : Ev (fun k => spec_l14Tag.f k s) (isTagF s) := by
  unfold spec_l14Tag.f isTagF
  have h := ev_findI (fun k i => spec_l14Tag.l0 k s i) s.size (fun i => if tagByte s i = true then none else some false) (decide (1 ≤ (s.size : Int) ∧ (s.size : Int) ≤ 4)) ?_ ?_ ?_
  · rw [find_guard] at h
    by_cases hall : (List.range s.size).all (fun i => tagByte s i) = true
    · rw [if_pos hall] at h; rw [hall, Bool.true_and]; exact h
    · rw [if_neg hall] at h; rw [Bool.not_eq_true] at hall; rw [hall, Bool.false_and]; exact h
  · refine Ev.succ ?_
    simp only [spec_l14Tag.l0, Int.lt_irrefl, if_false, l1In_eq, Option.bind_some]
    exact Ev.now _
  · intro i hi r hr
    by_cases hc : tagByte s i = true
    · rw [if_pos hc] at hr; cases hr
    rw [if_neg hc] at hr; cases hr
    simp only [tagByte, Bool.or_eq_true, decide_eq_true_eq] at hc
    refine Ev.succ ?_
    simp only [spec_l14Tag.l0]
    refine Ev.pos (by omega) (Ev.pos (by omega) ?_)
    by_cases h1 : bt s (i : Int) ≥ 97
    · refine Ev.pos h1 (Ev.neg (by omega) ?_)
      by_cases h2 : bt s (i : Int) ≥ 48
      · exact Ev.pos h2 (Ev.neg (by omega) (Ev.now _))
      · exact Ev.neg h2 (Ev.now _)
    · refine Ev.neg h1 ?_
      by_cases h2 : bt s (i : Int) ≥ 48
      · exact Ev.pos h2 (Ev.neg (by omega) (Ev.now _))
      · exact Ev.neg h2 (Ev.now _)
  · intro i hi hr r h
    by_cases hc : tagByte s i = true
    case neg => rw [if_neg hc] at hr; cases hr
    simp only [tagByte, Bool.or_eq_true, decide_eq_true_eq] at hc
    refine Ev.succ ?_
    simp only [spec_l14Tag.l0, wsucc hi (show s.size ≤ 281474976710656 by omega)]
    refine Ev.pos (by omega) (Ev.pos (by omega) ?_)
    by_cases h1 : bt s (i : Int) ≥ 97
    · refine Ev.pos h1 ?_
      by_cases h3 : bt s (i : Int) ≤ 122
      · exact Ev.pos h3 h
      · exact Ev.neg h3 (Ev.pos (by omega) (Ev.pos (by omega) h))
    · exact Ev.neg h1 (Ev.pos (by omega) (Ev.pos (by omega) h))
theorem isDigit_eq (b : Int) : impl_isDigit.f b = some (decide (48 ≤ b ∧ b ≤ 57)) := by
  unfold impl_isDigit.f
  by_cases h : 48 ≤ b <;> simp [h]
theorem ev_isTag (s : ByteArray) (hs : s.size ≤ 281474976710656) : Ev (fun k => impl_isTag.f k s) (isTagF s) := by
  unfold impl_isTag.f isTagF
  have h := ev_findI (fun k i => impl_isTag.l0 k s (s.size : Int) i) s.size (fun i => if tagByte s i = true then none else some false) (decide (1 ≤ (s.size : Int) ∧ (s.size : Int) ≤ 4)) ?_ ?_ ?_
  · rw [find_guard] at h
    by_cases hall : (List.range s.size).all (fun i => tagByte s i) = true
    · rw [if_pos hall] at h; rw [hall, Bool.true_and]; exact h
    · rw [if_neg hall] at h; rw [Bool.not_eq_true] at hall; rw [hall, Bool.false_and]; exact h
  · refine Ev.succ ?_
    simp only [impl_isTag.l0, Int.lt_irrefl, if_false]
    by_cases h1 : 1 ≤ (s.size : Int)
    · refine Ev.pos h1 ?_; simp only [h1, true_and]; exact Ev.now _
    · refine Ev.neg h1 ?_; simp only [h1, false_and, decide_false]; exact Ev.now _
  · intro i hi r hr
    by_cases hc : tagByte s i = true
    · rw [if_pos hc] at hr; cases hr
    rw [if_neg hc] at hr; cases hr
    simp only [tagByte, Bool.or_eq_true, decide_eq_true_eq] at hc
    refine Ev.succ ?_
    simp only [impl_isTag.l0, isDigit_eq, Option.bind_some]
    refine Ev.pos (by omega) (Ev.pos (by omega) (Ev.pos (by omega) (Ev.neg (by simp; omega) ?_)))
    by_cases h1 : bt s (i : Int) < 97
    · exact Ev.pos h1 (Ev.now _)
    · exact Ev.neg h1 (Ev.pos (by omega) (Ev.now _))
  · intro i hi hr r h
    by_cases hc : tagByte s i = true
    case neg => rw [if_neg hc] at hr; cases hr
    simp only [tagByte, Bool.or_eq_true, decide_eq_true_eq] at hc
    refine Ev.succ ?_
    simp only [impl_isTag.l0, isDigit_eq, Option.bind_some, wsucc hi (show s.size ≤ 281474976710656 by omega)]
    refine Ev.pos (by omega) (Ev.pos (by omega) (Ev.pos (by omega) ?_))
    by_cases h1 : 48 ≤ bt s (i : Int) ∧ bt s (i : Int) ≤ 57
    · exact Ev.pos (decide_eq_true h1) h
    · exact Ev.neg (by simp; omega) (Ev.neg (by omega) (Ev.neg (by omega) h))
def isWord (s : ByteArray) (most : Int) : Bool := (List.range s.size).all (fun i => decide (97 ≤ bt s (i : Int) ∧ bt s (i : Int) ≤ 122)) && decide (1 ≤ (s.size : Int) ∧ (s.size : Int) ≤ most)
theorem ev_l7Name (s : ByteArray) (hs : s.size ≤ 281474976710656) : Ev (fun k => spec_l7Name.f k s) (isWord s 8) := by
  unfold spec_l7Name.f isWord
  have h := ev_findI (fun k i => spec_l7Name.l0 k s i) s.size (fun i => if decide (97 ≤ bt s (i : Int) ∧ bt s (i : Int) ≤ 122) = true then none else some false) (decide (1 ≤ (s.size : Int) ∧ (s.size : Int) ≤ 8)) ?_ ?_ ?_
  · rw [find_guard] at h
    by_cases hall : (List.range s.size).all (fun i => decide (97 ≤ bt s (i : Int) ∧ bt s (i : Int) ≤ 122)) = true
    · rw [if_pos hall] at h; rw [hall, Bool.true_and]; exact h
    · rw [if_neg hall] at h; rw [Bool.not_eq_true] at hall; rw [hall, Bool.false_and]; exact h
  · refine Ev.succ ?_
    simp only [spec_l7Name.l0, Int.lt_irrefl, if_false, l1In_eq, Option.bind_some]
    exact Ev.now _
  · intro i hi r hr
    by_cases hc : 97 ≤ bt s (i : Int) ∧ bt s (i : Int) ≤ 122
    · rw [if_pos (decide_eq_true hc)] at hr; cases hr
    rw [if_neg (by simpa using hc)] at hr; cases hr
    refine Ev.succ ?_
    simp only [spec_l7Name.l0]
    refine Ev.pos (by omega) (Ev.pos (by omega) ?_)
    by_cases h1 : bt s (i : Int) < 97
    · exact Ev.pos h1 (Ev.now _)
    · exact Ev.neg h1 (Ev.pos (by omega) (Ev.now _))
  · intro i hi hr r h
    by_cases hc : 97 ≤ bt s (i : Int) ∧ bt s (i : Int) ≤ 122
    case neg => rw [if_neg (by simpa using hc)] at hr; cases hr
    refine Ev.succ ?_
    simp only [spec_l7Name.l0]
    refine Ev.pos (by omega) (Ev.pos (by omega) (Ev.neg (by omega) (Ev.neg (by omega) ?_)))
    simp only [wsucc hi (show s.size ≤ 281474976710656 by omega)]
    exact h
theorem ev_isSmallWord (s : ByteArray) (most : Int) (hs : s.size ≤ 281474976710656) : Ev (fun k => impl_isSmallWord.f k s most) (isWord s most) := by
  unfold impl_isSmallWord.f isWord
  have h := ev_findI (fun k i => impl_isSmallWord.l0 k s most (s.size : Int) i) s.size (fun i => if decide (97 ≤ bt s (i : Int) ∧ bt s (i : Int) ≤ 122) = true then none else some false) (decide (1 ≤ (s.size : Int) ∧ (s.size : Int) ≤ most)) ?_ ?_ ?_
  · rw [find_guard] at h
    by_cases hall : (List.range s.size).all (fun i => decide (97 ≤ bt s (i : Int) ∧ bt s (i : Int) ≤ 122)) = true
    · rw [if_pos hall] at h; rw [hall, Bool.true_and]; exact h
    · rw [if_neg hall] at h; rw [Bool.not_eq_true] at hall; rw [hall, Bool.false_and]; exact h
  · refine Ev.succ ?_
    simp only [impl_isSmallWord.l0, Int.lt_irrefl, if_false]
    by_cases h1 : 1 ≤ (s.size : Int)
    · refine Ev.pos h1 ?_; simp only [h1, true_and]; exact Ev.now _
    · refine Ev.neg h1 ?_; simp only [h1, false_and, decide_false]; exact Ev.now _
  · intro i hi r hr
    by_cases hc : 97 ≤ bt s (i : Int) ∧ bt s (i : Int) ≤ 122
    · rw [if_pos (decide_eq_true hc)] at hr; cases hr
    rw [if_neg (by simpa using hc)] at hr; cases hr
    refine Ev.succ ?_
    simp only [impl_isSmallWord.l0]
    refine Ev.pos (by omega) (Ev.pos (by omega) (Ev.pos (by omega) ?_))
    by_cases h1 : bt s (i : Int) < 97
    · exact Ev.pos h1 (Ev.now _)
    · exact Ev.neg h1 (Ev.pos (by omega) (Ev.now _))
  · intro i hi hr r h
    by_cases hc : 97 ≤ bt s (i : Int) ∧ bt s (i : Int) ≤ 122
    case neg => rw [if_neg (by simpa using hc)] at hr; cases hr
    refine Ev.succ ?_
    simp only [impl_isSmallWord.l0]
    refine Ev.pos (by omega) (Ev.pos (by omega) (Ev.pos (by omega) (Ev.neg (by omega) (Ev.neg (by omega) ?_))))
    simp only [wsucc hi (show s.size ≤ 281474976710656 by omega)]
    exact h
theorem isPath1_eq (c : Int) : impl_isPath_1.f c = some (!decide (1 ≤ c ∧ c ≤ 9)) := by
  unfold impl_isPath_1.f
  rw [within_eq]
  rfl
def pathOk (x : List Int) : Bool := x.all (fun c => decide (1 ≤ c ∧ c ≤ 9)) && decide ((x.length : Int) ≤ 3)
theorem ev_isPathC (x : List Int) (hx : x.length ≤ 1048576) : Ev (fun k => slices_ContainsFunc_int64_int64_v0.f k x) (!(x.all (fun c => decide (1 ≤ c ∧ c ≤ 9)))) := by
  unfold slices_ContainsFunc_int64_int64_v0.f slices_IndexFunc_int64_int64_v1.f
  have h := ev_findI (fun k i => slices_IndexFunc_int64_int64_v1.l0 k x (x.length : Int) i) x.length (fun i => if (fun c => decide (1 ≤ c ∧ c ≤ 9)) (x.getD i 0) = true then none else some (i : Int)) (-1) ?_ ?_ ?_
  · refine Ev.bind h ?_
    rw [find_all_idx (fun c => decide (1 ≤ c ∧ c ≤ 9)) x]
    exact Ev.now _
  · refine Ev.succ ?_
    simp only [slices_IndexFunc_int64_int64_v1.l0, Int.lt_irrefl, if_false]
    exact Ev.now _
  · intro i hi r hr
    have hg : x.getD i 0 = x[i] := by rw [List.getD_eq_getElem?_getD, List.getElem?_eq_getElem hi, Option.getD_some]
    simp only [hg] at hr
    refine Ev.succ ?_
    simp only [slices_IndexFunc_int64_int64_v1.l0, rd_get x i hi, isPath1_eq, Option.bind_some]
    by_cases hp : 1 ≤ x[i] ∧ x[i] ≤ 9
    · rw [if_pos (decide_eq_true hp)] at hr; cases hr
    · rw [if_neg (by simpa using hp)] at hr; cases hr
      exact Ev.pos (by omega) (Ev.pos (by omega) (Ev.pos (by omega) (Ev.pos (by simp only [decide_eq_false hp, Bool.not_false]) (Ev.now _))))
  · intro i hi hr r h
    have hg : x.getD i 0 = x[i] := by rw [List.getD_eq_getElem?_getD, List.getElem?_eq_getElem hi, Option.getD_some]
    simp only [hg] at hr
    refine Ev.succ ?_
    simp only [slices_IndexFunc_int64_int64_v1.l0, rd_get x i hi, isPath1_eq, Option.bind_some, wsucc hi (show x.length ≤ 281474976710656 by omega)]
    by_cases hp : 1 ≤ x[i] ∧ x[i] ≤ 9
    · exact Ev.pos (by omega) (Ev.pos (by omega) (Ev.pos (by omega) (Ev.neg (by simp only [decide_eq_true hp]; decide) h)))
    · rw [if_neg (by simpa using hp)] at hr; cases hr
theorem ev_isPath (x : List Int) (hx : x.length ≤ 1048576) : Ev (fun k => impl_isPath.f k x) (pathOk x) := by
  unfold impl_isPath.f pathOk
  by_cases h : (x.length : Int) ≤ 3
  · refine Ev.pos h (Ev.bind (ev_isPathC x hx) ?_)
    rw [Bool.not_not, decide_eq_true h, Bool.and_true]
    exact Ev.now _
  · rw [decide_eq_false h, Bool.and_false]
    exact Ev.neg h (Ev.now _)
theorem ev_l14Path (x : List Int) (hx : x.length ≤ 1048576) : Ev (fun k => spec_l14Path.f k x) (pathOk x) := by
  unfold spec_l14Path.f pathOk
  have h := ev_find (fun k i => spec_l14Path.l0 k x i) x (fun c => if (fun c => decide (1 ≤ c ∧ c ≤ 9)) c = true then none else some false) (decide ((x.length : Int) ≤ 3)) ?_ ?_ ?_
  · rw [find_guard] at h
    by_cases hall : x.all (fun c => decide (1 ≤ c ∧ c ≤ 9)) = true
    · rw [if_pos hall] at h; rw [hall, Bool.true_and]; exact h
    · rw [if_neg hall] at h; rw [Bool.not_eq_true] at hall; rw [hall, Bool.false_and]; exact h
  · refine Ev.succ ?_
    simp only [spec_l14Path.l0, Int.lt_irrefl, if_false]
    exact Ev.now _
  · intro i hi r hr
    refine Ev.succ ?_
    simp only [spec_l14Path.l0, rd_get x i hi, l1In_eq, Option.bind_some]
    by_cases hp : 1 ≤ x[i] ∧ x[i] ≤ 9
    · rw [if_pos (decide_eq_true hp)] at hr; cases hr
    · rw [if_neg (by simpa using hp)] at hr; cases hr
      exact Ev.pos (by omega) (Ev.pos (by omega) (Ev.neg (by simpa using hp) (Ev.now _)))
  · intro i hi hr r h
    refine Ev.succ ?_
    simp only [spec_l14Path.l0, rd_get x i hi, l1In_eq, Option.bind_some, wsucc hi (show x.length ≤ 281474976710656 by omega)]
    by_cases hp : 1 ≤ x[i] ∧ x[i] ≤ 9
    · exact Ev.pos (by omega) (Ev.pos (by omega) (Ev.pos (decide_eq_true hp) h))
    · rw [if_neg (by simpa using hp)] at hr; cases hr
def isK (r : S33) (l : List Int) : Bool := decide (r.f1 ∈ l)
theorem ev_is (r : S33) (l : List Int) (hl : l.length ≤ 60) : Ev (fun k => impl_Cmd_is.f k r.f0 r.f1 r.f2 r.f3 r.f4 r.f5 r.f6 r.f7 r.f8 r.f9 r.f10 r.f11 r.f12 r.f13 l) (isK r l) := by
  unfold impl_Cmd_is.f slices_Contains_int64_int64.f slices_Index_int64_int64.f
  have h := ev_findI (fun k i => slices_Index_int64_int64.l0 k l r.f1 (l.length : Int) i) l.length (fun i => if (fun c => decide (¬ r.f1 = c)) (l.getD i 0) = true then none else some (i : Int)) (-1) ?_ ?_ ?_
  · refine Ev.bind (Ev.bind h ?_) (Ev.now _)
    rw [find_all_idx (fun c => decide (¬ r.f1 = c)) l]
    have e : (!(l.all (fun c => decide (¬ r.f1 = c)))) = isK r l := by
      unfold isK
      rw [Bool.eq_iff_iff]
      simp
    rw [e]
    exact Ev.now _
  · refine Ev.succ ?_
    simp only [slices_Index_int64_int64.l0, Int.lt_irrefl, if_false]
    exact Ev.now _
  · intro i hi s hr
    have hg : l.getD i 0 = l[i] := by rw [List.getD_eq_getElem?_getD, List.getElem?_eq_getElem hi, Option.getD_some]
    simp only [hg] at hr
    refine Ev.succ ?_
    simp only [slices_Index_int64_int64.l0, rd_get l i hi]
    by_cases hp : r.f1 = l[i]
    · rw [if_neg (by simpa using hp)] at hr; cases hr
      exact Ev.pos (by omega) (Ev.pos (by omega) (Ev.pos (by omega) (Ev.pos hp (Ev.now _))))
    · rw [if_pos (decide_eq_true hp)] at hr; cases hr
  · intro i hi hr s h
    have hg : l.getD i 0 = l[i] := by rw [List.getD_eq_getElem?_getD, List.getElem?_eq_getElem hi, Option.getD_some]
    simp only [hg] at hr
    refine Ev.succ ?_
    simp only [slices_Index_int64_int64.l0, rd_get l i hi, wsucc hi (show l.length ≤ 281474976710656 by omega)]
    by_cases hp : r.f1 = l[i]
    · rw [if_neg (by simpa using hp)] at hr; cases hr
    · exact Ev.pos (by omega) (Ev.pos (by omega) (Ev.pos (by omega) (Ev.neg hp h)))
theorem ev_hasName (r : S33) : Ev (fun k => impl_Cmd_hasName.f k r.f0 r.f1 r.f2 r.f3 r.f4 r.f5 r.f6 r.f7 r.f8 r.f9 r.f10 r.f11 r.f12 r.f13) (isK r [2, 3, 4, 6, 8, 9]) := by
  unfold impl_Cmd_hasName.f
  exact Ev.bind (ev_is r _ (by simp)) (Ev.now _)
theorem ev_hasRanges (r : S33) : Ev (fun k => impl_Cmd_hasRanges.f k r.f0 r.f1 r.f2 r.f3 r.f4 r.f5 r.f6 r.f7 r.f8 r.f9 r.f10 r.f11 r.f12 r.f13) (isK r [7, 8, 9, 11]) := by
  unfold impl_Cmd_hasRanges.f
  exact Ev.bind (ev_is r _ (by simp)) (Ev.now _)
theorem ev_hasTerms (r : S33) : Ev (fun k => impl_Cmd_hasTerms.f k r.f0 r.f1 r.f2 r.f3 r.f4 r.f5 r.f6 r.f7 r.f8 r.f9 r.f10 r.f11 r.f12 r.f13) (isK r [12, 13]) := by
  unfold impl_Cmd_hasTerms.f
  exact Ev.bind (ev_is r _ (by simp)) (Ev.now _)
theorem ev_hasFlags (r : S33) : Ev (fun k => impl_Cmd_hasFlags.f k r.f0 r.f1 r.f2 r.f3 r.f4 r.f5 r.f6 r.f7 r.f8 r.f9 r.f10 r.f11 r.f12 r.f13) (isK r [7, 6]) := by
  unfold impl_Cmd_hasFlags.f
  exact Ev.bind (ev_is r _ (by simp)) (Ev.now _)
def hasP (r : S33) : Bool := if isK r [11] = true then decide (3 ≤ r.f8 ∧ r.f8 ≤ 5) else false
theorem ev_hasPath (r : S33) : Ev (fun k => impl_Cmd_hasPath.f k r.f0 r.f1 r.f2 r.f3 r.f4 r.f5 r.f6 r.f7 r.f8 r.f9 r.f10 r.f11 r.f12 r.f13) (hasP r) := by
  unfold impl_Cmd_hasPath.f hasP
  simp only [within_eq, Option.bind_some]
  exact Ev.bind (ev_is r _ (by simp)) (Ev.ite (fun _ => Ev.now _) (fun _ => Ev.now _))
def o6 (r : S33) (b : Bool) : Bool := if b = true then false else (if isK r [14] = true then true else (if r.f13 = 0 then true else false))
theorem ev_o6 (r : S33) (b : Bool) : Ev (fun k => impl_Cmd_isOnly.j6 k b r.f0 r.f1 r.f2 r.f3 r.f4 r.f5 r.f6 r.f7 r.f8 r.f9 r.f10 r.f11 r.f12 r.f13) (o6 r b) := by
  refine Ev.succ ?_
  simp only [impl_Cmd_isOnly.j6]
  exact Ev.ite (fun _ => Ev.now _) (fun _ => Ev.bind (ev_is r _ (by simp)) (Ev.ite (fun _ => Ev.now _) (fun _ => Ev.ite (fun _ => Ev.now _) (fun _ => Ev.now _))))
def o5 (r : S33) (b : Bool) : Bool := if b = true then false else (if isK r [12, 13] = true then o6 r false else o6 r (decide ((r.f12.length : Int) > 0)))
theorem ev_o5 (r : S33) (b : Bool) : Ev (fun k => impl_Cmd_isOnly.j5 k b r.f0 r.f1 r.f2 r.f3 r.f4 r.f5 r.f6 r.f7 r.f8 r.f9 r.f10 r.f11 r.f12 r.f13) (o5 r b) := by
  refine Ev.succ ?_
  simp only [impl_Cmd_isOnly.j5]
  exact Ev.ite (fun _ => Ev.now _) (fun _ => Ev.bind (ev_hasTerms r) (Ev.ite (fun _ => ev_o6 r _) (fun _ => ev_o6 r _)))
def o4 (r : S33) (b : Bool) : Bool := if b = true then false else (if isK r [13] = true then o5 r false else (if r.f10 = 0 then o5 r r.f11 else o5 r true))
theorem ev_o4 (r : S33) (b : Bool) : Ev (fun k => impl_Cmd_isOnly.j4 k b r.f0 r.f1 r.f2 r.f3 r.f4 r.f5 r.f6 r.f7 r.f8 r.f9 r.f10 r.f11 r.f12 r.f13) (o4 r b) := by
  refine Ev.succ ?_
  simp only [impl_Cmd_isOnly.j4]
  exact Ev.ite (fun _ => Ev.now _) (fun _ => Ev.bind (ev_is r _ (by simp)) (Ev.ite (fun _ => ev_o5 r _) (fun _ => Ev.ite (fun _ => ev_o5 r _) (fun _ => ev_o5 r _))))
def o3 (r : S33) (b : Bool) : Bool := if b = true then o4 r b else (if isK r [11] = true then (if hasP r = true then o4 r false else o4 r (decide ((r.f9.length : Int) > 0))) else (if r.f8 = 0 then (if hasP r = true then o4 r false else o4 r (decide ((r.f9.length : Int) > 0))) else o4 r (r.f8 != 0)))
theorem ev_o3 (r : S33) (b : Bool) : Ev (fun k => impl_Cmd_isOnly.j3 k b r.f0 r.f1 r.f2 r.f3 r.f4 r.f5 r.f6 r.f7 r.f8 r.f9 r.f10 r.f11 r.f12 r.f13) (o3 r b) := by
  have hp := Ev.bind (f := fun k t => if t = true then impl_Cmd_isOnly.j4 k false r.f0 r.f1 r.f2 r.f3 r.f4 r.f5 r.f6 r.f7 r.f8 r.f9 r.f10 r.f11 r.f12 r.f13 else impl_Cmd_isOnly.j4 k (decide ((r.f9.length : Int) > 0)) r.f0 r.f1 r.f2 r.f3 r.f4 r.f5 r.f6 r.f7 r.f8 r.f9 r.f10 r.f11 r.f12 r.f13) (ev_hasPath r) (Ev.ite (fun _ => ev_o4 r false) (fun _ => ev_o4 r (decide ((r.f9.length : Int) > 0))))
  refine Ev.succ ?_
  simp only [impl_Cmd_isOnly.j3]
  exact Ev.ite (fun _ => ev_o4 r _) (fun _ => Ev.bind (ev_is r _ (by simp)) (Ev.ite (fun _ => hp) (fun _ => Ev.ite (fun _ => hp) (fun _ => ev_o4 r _))))
def o2 (r : S33) (b : Bool) : Bool := if b = true then false else (if isK r [6] = true then o3 r false else (if r.f6 = 0 then o3 r (decide ((r.f7.length : Int) > 0)) else o3 r true))
theorem ev_o2 (r : S33) (b : Bool) : Ev (fun k => impl_Cmd_isOnly.j2 k b r.f0 r.f1 r.f2 r.f3 r.f4 r.f5 r.f6 r.f7 r.f8 r.f9 r.f10 r.f11 r.f12 r.f13) (o2 r b) := by
  refine Ev.succ ?_
  simp only [impl_Cmd_isOnly.j2]
  exact Ev.ite (fun _ => Ev.now _) (fun _ => Ev.bind (ev_is r _ (by simp)) (Ev.ite (fun _ => ev_o3 r _) (fun _ => Ev.ite (fun _ => ev_o3 r _) (fun _ => ev_o3 r _))))
def o1 (r : S33) (b : Bool) : Bool := if b = true then o2 r b else (if isK r [7] = true then (if isK r [7, 6] = true then o2 r false else o2 r (r.f5 != 0)) else (if r.f4 = 0 then (if isK r [7, 6] = true then o2 r false else o2 r (r.f5 != 0)) else o2 r (r.f4 != 0)))
theorem ev_o1 (r : S33) (b : Bool) : Ev (fun k => impl_Cmd_isOnly.j1 k b r.f0 r.f1 r.f2 r.f3 r.f4 r.f5 r.f6 r.f7 r.f8 r.f9 r.f10 r.f11 r.f12 r.f13) (o1 r b) := by
  have hp := Ev.bind (f := fun k t => if t = true then impl_Cmd_isOnly.j2 k false r.f0 r.f1 r.f2 r.f3 r.f4 r.f5 r.f6 r.f7 r.f8 r.f9 r.f10 r.f11 r.f12 r.f13 else impl_Cmd_isOnly.j2 k (r.f5 != 0) r.f0 r.f1 r.f2 r.f3 r.f4 r.f5 r.f6 r.f7 r.f8 r.f9 r.f10 r.f11 r.f12 r.f13) (ev_hasFlags r) (Ev.ite (fun _ => ev_o2 r false) (fun _ => ev_o2 r (r.f5 != 0)))
  refine Ev.succ ?_
  simp only [impl_Cmd_isOnly.j1]
  exact Ev.ite (fun _ => ev_o2 r _) (fun _ => Ev.bind (ev_is r _ (by simp)) (Ev.ite (fun _ => hp) (fun _ => Ev.ite (fun _ => hp) (fun _ => ev_o2 r _))))
def o0 (r : S33) (b : Bool) : Bool := if b = true then o2 r b else (if isK r [7, 8, 9, 11] = true then o1 r false else o1 r (decide ((r.f3.length : Int) > 0)))
theorem ev_o0 (r : S33) (b : Bool) : Ev (fun k => impl_Cmd_isOnly.j0 k b r.f0 r.f1 r.f2 r.f3 r.f4 r.f5 r.f6 r.f7 r.f8 r.f9 r.f10 r.f11 r.f12 r.f13) (o0 r b) := by
  refine Ev.succ ?_
  simp only [impl_Cmd_isOnly.j0]
  exact Ev.ite (fun _ => ev_o2 r _) (fun _ => Ev.bind (ev_hasRanges r) (Ev.ite (fun _ => ev_o1 r _) (fun _ => ev_o1 r _)))
def onlyF (r : S33) : Bool := if isK r [2, 3, 4, 6, 8, 9] = true then o0 r false else o0 r (r.f2.toList != ([] : List UInt8))
theorem ev_isOnly (r : S33) : Ev (fun k => impl_Cmd_isOnly.f k r.f0 r.f1 r.f2 r.f3 r.f4 r.f5 r.f6 r.f7 r.f8 r.f9 r.f10 r.f11 r.f12 r.f13) (onlyF r) := by
  unfold impl_Cmd_isOnly.f
  exact Ev.bind (ev_hasName r) (Ev.ite (fun _ => ev_o0 r _) (fun _ => ev_o0 r _))
def n3 (r : S33) (b : Bool) : Bool := if b = true then false else (if isK r [6] = true then (if decide (1 ≤ (r.f7.length : Int) ∧ (r.f7.length : Int) ≤ 400) = true then true else false) else true)
theorem ev_n3 (r : S33) (b : Bool) : Ev (fun k => impl_Cmd_areNumbers.j3 k b r.f0 r.f1 r.f2 r.f3 r.f4 r.f5 r.f6 r.f7 r.f8 r.f9 r.f10 r.f11 r.f12 r.f13) (n3 r b) := by
  refine Ev.succ ?_
  simp only [impl_Cmd_areNumbers.j3, impl_length_byte.f, within_eq, Option.bind_some]
  exact Ev.ite (fun _ => Ev.now _) (fun _ => Ev.bind (ev_is r _ (by simp)) (Ev.ite (fun _ => Ev.ite (fun _ => Ev.now _) (fun _ => Ev.now _)) (fun _ => Ev.now _)))
def n2 (r : S33) (b : Bool) : Bool := if b = true then false else (if isK r [14] = true then n3 r (!decide (1 ≤ r.f13 ∧ r.f13 ≤ 3)) else n3 r false)
theorem ev_n2 (r : S33) (b : Bool) : Ev (fun k => impl_Cmd_areNumbers.j2 k b r.f0 r.f1 r.f2 r.f3 r.f4 r.f5 r.f6 r.f7 r.f8 r.f9 r.f10 r.f11 r.f12 r.f13) (n2 r b) := by
  refine Ev.succ ?_
  simp only [impl_Cmd_areNumbers.j2, impl_isComparator.f, within_eq, Option.bind_some]
  exact Ev.ite (fun _ => Ev.now _) (fun _ => Ev.bind (ev_is r _ (by simp)) (Ev.ite (fun _ => ev_n3 r _) (fun _ => ev_n3 r _)))
def n1 (r : S33) (b : Bool) : Bool := if b = true then false else (if pathOk r.f9 = true then (if isK r [13] = true then n2 r (!decide (1 ≤ r.f10 ∧ r.f10 ≤ 4)) else n2 r false) else false)
theorem ev_n1 (r : S33) (h9 : r.f9.length ≤ 1048576) (b : Bool) : Ev (fun k => impl_Cmd_areNumbers.j1 k b r.f0 r.f1 r.f2 r.f3 r.f4 r.f5 r.f6 r.f7 r.f8 r.f9 r.f10 r.f11 r.f12 r.f13) (n1 r b) := by
  refine Ev.succ ?_
  simp only [impl_Cmd_areNumbers.j1, impl_isKey.f, within_eq, Option.bind_some]
  exact Ev.ite (fun _ => Ev.now _) (fun _ => Ev.bind (ev_isPath _ h9) (Ev.ite (fun _ => Ev.bind (ev_is r _ (by simp)) (Ev.ite (fun _ => ev_n2 r _) (fun _ => ev_n2 r _))) (fun _ => Ev.now _)))
def n0 (r : S33) (b : Bool) : Bool := if b = true then n1 r b else (if decide (0 ≤ r.f5 ∧ r.f5 ≤ 15) = true then (if decide (0 ≤ r.f6 ∧ r.f6 ≤ 9999) = true then (if isK r [11] = true then n1 r (!decide (1 ≤ r.f8 ∧ r.f8 ≤ 7)) else n1 r false) else n1 r (!decide (0 ≤ r.f6 ∧ r.f6 ≤ 9999))) else n1 r (!decide (0 ≤ r.f5 ∧ r.f5 ≤ 15)))
theorem ev_n0 (r : S33) (h9 : r.f9.length ≤ 1048576) (b : Bool) : Ev (fun k => impl_Cmd_areNumbers.j0 k b r.f0 r.f1 r.f2 r.f3 r.f4 r.f5 r.f6 r.f7 r.f8 r.f9 r.f10 r.f11 r.f12 r.f13) (n0 r b) := by
  refine Ev.succ ?_
  simp only [impl_Cmd_areNumbers.j0, impl_areFlags.f, impl_isDate.f, within_eq, Option.bind_some]
  exact Ev.ite (fun _ => ev_n1 r h9 _) (fun _ => Ev.ite (fun _ => Ev.ite (fun _ => Ev.bind (ev_is r _ (by simp)) (Ev.ite (fun _ => ev_n1 r h9 _) (fun _ => ev_n1 r h9 _))) (fun _ => ev_n1 r h9 _)) (fun _ => ev_n1 r h9 _))
def numsF (r : S33) : Bool := if isK r [7] = true then n0 r (!decide (1 ≤ r.f4 ∧ r.f4 ≤ 3)) else n0 r false
theorem ev_areNumbers (r : S33) (h9 : r.f9.length ≤ 1048576) : Ev (fun k => impl_Cmd_areNumbers.f k r.f0 r.f1 r.f2 r.f3 r.f4 r.f5 r.f6 r.f7 r.f8 r.f9 r.f10 r.f11 r.f12 r.f13) (numsF r) := by
  unfold impl_Cmd_areNumbers.f
  simp only [within_eq, Option.bind_some]
  exact Ev.bind (ev_is r _ (by simp)) (Ev.ite (fun _ => ev_n0 r h9 _) (fun _ => ev_n0 r h9 _))
def c2 (r : S33) : Int := if numsF r = true then (if isK r [12, 13] = true then termsFault r.f12 else 0) else 3
theorem ev_c2 (r : S33) (h9 : r.f9.length ≤ 1048576) (ok : ∀ y ∈ r.f12, okITerm y) : Ev (fun k => impl_CmdFault.j2 k r.f0 r.f1 r.f2 r.f3 r.f4 r.f5 r.f6 r.f7 r.f8 r.f9 r.f10 r.f11 r.f12 r.f13) (c2 r) := by
  refine Ev.succ ?_
  simp only [impl_CmdFault.j2]
  exact Ev.bind (ev_areNumbers r h9) (Ev.ite (fun _ => Ev.bind (ev_hasTerms r) (Ev.ite (fun _ => Ev.bind (ev_implTermsFault _ ok) (Ev.now _)) (fun _ => Ev.now _))) (fun _ => Ev.now _))
def c1 (r : S33) : Int := if isK r [7, 8, 9, 11] = true then (if rangesFault r.f3 = 0 then c2 r else rangesFault r.f3) else c2 r
theorem ev_c1 (r : S33) (h3 : r.f3.length ≤ 1048576) (h9 : r.f9.length ≤ 1048576) (ok : ∀ y ∈ r.f12, okITerm y) : Ev (fun k => impl_CmdFault.j1 k r.f0 r.f1 r.f2 r.f3 r.f4 r.f5 r.f6 r.f7 r.f8 r.f9 r.f10 r.f11 r.f12 r.f13) (c1 r) := by
  refine Ev.succ ?_
  simp only [impl_CmdFault.j1]
  exact Ev.bind (ev_hasRanges r) (Ev.ite (fun _ => Ev.bind (ev_implRangesFault _ h3) (Ev.ite (fun _ => ev_c2 r h9 ok) (fun _ => Ev.now _))) (fun _ => ev_c2 r h9 ok))
def c0 (r : S33) (b : Bool) : Int := if b = true then 1 else (if isK r [2, 3, 4, 6, 8, 9] = true then (if isWord r.f2 8 = true then c1 r else 5) else c1 r)
theorem ev_c0 (r : S33) (h2 : r.f2.size ≤ 1048576) (h3 : r.f3.length ≤ 1048576) (h9 : r.f9.length ≤ 1048576) (ok : ∀ y ∈ r.f12, okITerm y) (b : Bool) : Ev (fun k => impl_CmdFault.j0 k b r.f0 r.f1 r.f2 r.f3 r.f4 r.f5 r.f6 r.f7 r.f8 r.f9 r.f10 r.f11 r.f12 r.f13) (c0 r b) := by
  refine Ev.succ ?_
  simp only [impl_CmdFault.j0, impl_isName.f]
  exact Ev.ite (fun _ => Ev.now _) (fun _ => Ev.bind (ev_hasName r) (Ev.ite (fun _ => Ev.bind (Ev.bind (ev_isSmallWord r.f2 8 (by omega)) (Ev.now _)) (Ev.ite (fun _ => ev_c1 r h3 h9 ok) (fun _ => Ev.now _))) (fun _ => ev_c1 r h3 h9 ok)))
def cmdI (r : S33) : Int := if isTagF r.f0 = true then (if decide (1 ≤ r.f1 ∧ r.f1 ≤ 14) = true then c0 r (!onlyF r) else c0 r true) else 5
theorem ev_implCmdFault (r : S33) (h0 : r.f0.size ≤ 1048576) (h2 : r.f2.size ≤ 1048576) (h3 : r.f3.length ≤ 1048576) (h9 : r.f9.length ≤ 1048576) (ok : ∀ y ∈ r.f12, okITerm y) : Ev (fun k => impl_CmdFault.f k r.f0 r.f1 r.f2 r.f3 r.f4 r.f5 r.f6 r.f7 r.f8 r.f9 r.f10 r.f11 r.f12 r.f13) (cmdI r) := by
  unfold impl_CmdFault.f
  simp only [within_eq, Option.bind_some]
  exact Ev.bind (ev_isTag r.f0 (by omega)) (Ev.ite (fun _ => Ev.ite (fun _ => Ev.bind (ev_isOnly r) (ev_c0 r h2 h3 h9 ok _)) (fun _ => ev_c0 r h2 h3 h9 ok _)) (fun _ => Ev.now _))
theorem rd1 (r : S33) : rd_T33 [r] 0 = r := rfl
theorem named_eq (n : Int) : spec_l14Named.f n = some (decide (n ∈ ([2, 3, 4, 6, 8, 9] : List Int))) := by
  unfold spec_l14Named.f
  by_cases h2 : n = 2
  · simp [h2]
  by_cases h3 : n = 3
  · simp [h3]
  by_cases h4 : n = 4
  · simp [h4]
  by_cases h6 : n = 6
  · simp [h6]
  by_cases h8 : n = 8
  · simp [h8]
  by_cases h9 : n = 9
  · simp [h9]
  simp [h2, h3, h4, h6, h8, h9]
theorem ranged_eq (n : Int) : spec_l14Ranged.f n = some (decide (n ∈ ([7, 8, 9, 11] : List Int))) := by
  unfold spec_l14Ranged.f
  rw [l1In_eq]
  simp only [Option.bind_some]
  by_cases h : 7 ≤ n ∧ n ≤ 9
  · rw [if_pos (decide_eq_true h)]
    have : n = 7 ∨ n = 8 ∨ n = 9 := by omega
    rcases this with rfl | rfl | rfl <;> rfl
  · rw [if_neg (by simpa using h)]
    have h7 : n ≠ 7 := by omega
    have h8 : n ≠ 8 := by omega
    have h9 : n ≠ 9 := by omega
    by_cases h11 : n = 11
    · subst h11; rfl
    · simp [h7, h8, h9, h11]
theorem termed_eq (n : Int) : spec_l14Termed.f n = some (decide (n ∈ ([12, 13] : List Int))) := by
  unfold spec_l14Termed.f
  by_cases h : n = 12
  · simp [h]
  · by_cases h' : n = 13
    · simp [h']
    · simp [h, h']
theorem pathed_eq (n : Int) : spec_l14Pathed.f n = some (decide (3 ≤ n ∧ n ≤ 5)) := by
  unfold spec_l14Pathed.f
  rw [l1In_eq]
  rfl
def sW (r : S33) : Bool := if r.f1 = 14 then true else (r.f13 == 0)
def sV (r : S33) : Bool := if decide (r.f1 ∈ ([12, 13] : List Int)) = true then sW r else (if (r.f12.length : Int) = 0 then sW r else false)
def sT (r : S33) : Bool := if r.f1 = 13 then sV r else (if r.f10 = 0 then (if r.f11 = true then false else sV r) else false)
def s2 (r : S33) (b : Bool) : Bool := if b = true then false else (if decide (3 ≤ r.f8 ∧ r.f8 ≤ 5) = true then sT r else (if (r.f9.length : Int) > 0 then false else sT r))
theorem ev_s2 (r : S33) (b : Bool) : Ev (fun k => spec_l14Form.j2 k [r] b) (s2 r b) := by
  refine Ev.succ ?_
  simp only [spec_l14Form.j2, rd1, pathed_eq, termed_eq, Option.bind_some]
  have hW : Ev (fun _ : Nat => if r.f1 = 14 then some true else some (r.f13 == 0)) (sW r) := Ev.ite (fun _ => Ev.now _) (fun _ => Ev.now _)
  have hV := Ev.ite (c := decide (r.f1 ∈ ([12, 13] : List Int)) = true) (fun _ => hW) (fun _ => Ev.ite (c := (r.f12.length : Int) = 0) (fun _ => hW) (fun _ => Ev.now false))
  have hT := Ev.ite (c := r.f1 = 13) (fun _ => hV) (fun _ => Ev.ite (c := r.f10 = 0) (fun _ => Ev.ite (c := r.f11 = true) (fun _ => Ev.now false) (fun _ => hV)) (fun _ => Ev.now false))
  exact Ev.ite (fun _ => Ev.now _) (fun _ => Ev.pos (by simp) (Ev.ite (fun _ => hT) (fun _ => Ev.ite (fun _ => Ev.now _) (fun _ => hT))))
def s1 (r : S33) (b : Bool) : Bool := if b = true then false else (if r.f1 = 6 then (if r.f1 = 11 then s2 r false else s2 r (r.f8 != 0)) else (if r.f6 = 0 then (if (r.f7.length : Int) > 0 then s2 r true else (if r.f1 = 11 then s2 r false else s2 r (r.f8 != 0))) else s2 r true))
theorem ev_s1 (r : S33) (b : Bool) : Ev (fun k => spec_l14Form.j1 k [r] b) (s1 r b) := by
  refine Ev.succ ?_
  simp only [spec_l14Form.j1, rd1]
  have h := Ev.ite (c := r.f1 = 11) (fun _ => ev_s2 r false) (fun _ => ev_s2 r (r.f8 != 0))
  exact Ev.ite (fun _ => Ev.now _) (fun _ => Ev.pos (by simp) (Ev.ite (fun _ => h) (fun _ => Ev.ite (fun _ => Ev.ite (fun _ => ev_s2 r true) (fun _ => h)) (fun _ => ev_s2 r true))))
def s0 (r : S33) (b : Bool) : Bool := if b = true then false else (if r.f1 = 7 then s1 r false else (if r.f4 = 0 then (if r.f1 = 6 then s1 r false else s1 r (r.f5 != 0)) else s1 r true))
theorem ev_s0 (r : S33) (b : Bool) : Ev (fun k => spec_l14Form.j0 k [r] b) (s0 r b) := by
  refine Ev.succ ?_
  simp only [spec_l14Form.j0, rd1]
  exact Ev.ite (fun _ => Ev.now _) (fun _ => Ev.pos (by simp) (Ev.ite (fun _ => ev_s1 r _) (fun _ => Ev.ite (fun _ => Ev.ite (fun _ => ev_s1 r _) (fun _ => ev_s1 r _)) (fun _ => ev_s1 r _))))
def sR (r : S33) : Bool := if decide (r.f1 ∈ ([7, 8, 9, 11] : List Int)) = true then s0 r false else s0 r (decide ((r.f3.length : Int) > 0))
def formS (r : S33) : Bool := if decide (1 ≤ r.f1 ∧ r.f1 ≤ 14) = true then (if decide (r.f1 ∈ ([2, 3, 4, 6, 8, 9] : List Int)) = true then sR r else (if r.f2.toList = ([] : List UInt8) then sR r else s0 r true)) else s0 r true
theorem ev_l14Form (r : S33) : Ev (fun k => spec_l14Form.f k [r]) (formS r) := by
  unfold spec_l14Form.f
  simp only [rd1, l1In_eq, named_eq, ranged_eq, Option.bind_some]
  have h := Ev.ite (c := decide (r.f1 ∈ ([7, 8, 9, 11] : List Int)) = true) (fun _ => ev_s0 r false) (fun _ => ev_s0 r (decide ((r.f3.length : Int) > 0)))
  exact Ev.pos (by simp) (Ev.ite (fun _ => Ev.ite (fun _ => h) (fun _ => Ev.ite (fun _ => h) (fun _ => ev_s0 r _))) (fun _ => ev_s0 r _))
def numsS (r : S33) : Bool := if r.f1 = 7 then (if decide (1 ≤ r.f4 ∧ r.f4 ≤ 3) = true then decide (0 ≤ r.f5 ∧ r.f5 ≤ 15) else false) else (if r.f1 = 6 then (if decide (0 ≤ r.f5 ∧ r.f5 ≤ 15) = true then (if decide (0 ≤ r.f6 ∧ r.f6 ≤ 9999) = true then decide (1 ≤ (r.f7.length : Int) ∧ (r.f7.length : Int) ≤ 400) else false) else false) else (if r.f1 = 11 then (if decide (1 ≤ r.f8 ∧ r.f8 ≤ 7) = true then pathOk r.f9 else false) else (if r.f1 = 13 then decide (1 ≤ r.f10 ∧ r.f10 ≤ 4) else (if r.f1 = 14 then decide (1 ≤ r.f13 ∧ r.f13 ≤ 3) else true))))
theorem ev_l14Numbers (r : S33) (h9 : r.f9.length ≤ 1048576) : Ev (fun k => spec_l14Numbers.f k [r]) (numsS r) := by
  unfold spec_l14Numbers.f
  simp only [rd1, l1In_eq, spec_l13Key.f, spec_l3Cmp.f, Option.bind_some]
  exact Ev.pos (by simp) (Ev.ite (fun _ => Ev.ite (fun _ => Ev.now _) (fun _ => Ev.now _)) (fun _ => Ev.ite (fun _ => Ev.ite (fun _ => Ev.ite (fun _ => Ev.now _) (fun _ => Ev.now _)) (fun _ => Ev.now _)) (fun _ => Ev.ite (fun _ => Ev.ite (fun _ => Ev.bind (ev_l14Path _ h9) (Ev.now _)) (fun _ => Ev.now _)) (fun _ => Ev.ite (fun _ => Ev.now _) (fun _ => Ev.ite (fun _ => Ev.now _) (fun _ => Ev.now _))))))
def d1 (r : S33) : Int := if numsS r = true then (if decide (r.f1 ∈ ([12, 13] : List Int)) = true then termsFault r.f12 else 0) else 3
theorem ev_d1 (r : S33) (h9 : r.f9.length ≤ 1048576) (ok : ∀ y ∈ r.f12, okITerm y) : Ev (fun k => spec_l14Fault.j1 k [r]) (d1 r) := by
  refine Ev.succ ?_
  simp only [spec_l14Fault.j1, rd1, termed_eq, Option.bind_some]
  exact Ev.bind (ev_l14Numbers r h9) (Ev.ite (fun _ => Ev.pos (by simp) (Ev.ite (fun _ => Ev.bind (ev_l12Fault _ ok) (Ev.now _)) (fun _ => Ev.now _))) (fun _ => Ev.now _))
def d0 (r : S33) (b : Bool) : Int := if b = true then 5 else (if decide (r.f1 ∈ ([7, 8, 9, 11] : List Int)) = true then (if rangesFault r.f3 = 0 then d1 r else rangesFault r.f3) else d1 r)
theorem ev_d0 (r : S33) (h3 : r.f3.length ≤ 1048576) (h9 : r.f9.length ≤ 1048576) (ok : ∀ y ∈ r.f12, okITerm y) (b : Bool) : Ev (fun k => spec_l14Fault.j0 k [r] b) (d0 r b) := by
  refine Ev.succ ?_
  simp only [spec_l14Fault.j0, rd1, ranged_eq, Option.bind_some]
  exact Ev.ite (fun _ => Ev.now _) (fun _ => Ev.pos (by simp) (Ev.ite (fun _ => Ev.bind (ev_l11Fault _ h3) (Ev.ite (fun _ => ev_d1 r h9 ok) (fun _ => Ev.now _))) (fun _ => ev_d1 r h9 ok)))
def cmdS (r : S33) : Int := if isTagF r.f0 = true then (if formS r = true then (if decide (r.f1 ∈ ([2, 3, 4, 6, 8, 9] : List Int)) = true then d0 r (!isWord r.f2 8) else d0 r false) else 1) else 5
theorem ev_l14Fault (r : S33) (h0 : r.f0.size ≤ 1048576) (h2 : r.f2.size ≤ 1048576) (h3 : r.f3.length ≤ 1048576) (h9 : r.f9.length ≤ 1048576) (ok : ∀ y ∈ r.f12, okITerm y) : Ev (fun k => spec_l14Fault.f k [r]) (cmdS r) := by
  unfold spec_l14Fault.f
  simp only [rd1, named_eq, Option.bind_some]
  exact Ev.pos (by simp) (Ev.bind (ev_l14Tag r.f0 (by omega)) (Ev.ite (fun _ => Ev.bind (ev_l14Form r) (Ev.ite (fun _ => Ev.ite (fun _ => Ev.bind (ev_l7Name r.f2 (by omega)) (ev_d0 r h3 h9 ok _)) (fun _ => ev_d0 r h3 h9 ok _)) (fun _ => Ev.now _))) (fun _ => Ev.now _)))
theorem ev_specCmdFault (r : S33) (h0 : r.f0.size ≤ 1048576) (h2 : r.f2.size ≤ 1048576) (h3 : r.f3.length ≤ 1048576) (h9 : r.f9.length ≤ 1048576) (ok : ∀ y ∈ r.f12, okITerm y) : Ev (fun k => spec_CmdFault.f k r.f0 r.f1 r.f2 r.f3 r.f4 r.f5 r.f6 r.f7 r.f8 r.f9 r.f10 r.f11 r.f12 r.f13) (cmdS r) := by
  unfold spec_CmdFault.f
  exact Ev.bind (ev_l14Fault r h0 h2 h3 h9 ok) (Ev.now _)
theorem kinds14 (n : Int) (h : 1 ≤ n ∧ n ≤ 14) : n = 1 ∨ n = 2 ∨ n = 3 ∨ n = 4 ∨ n = 5 ∨ n = 6 ∨ n = 7 ∨ n = 8 ∨ n = 9 ∨ n = 10 ∨ n = 11 ∨ n = 12 ∨ n = 13 ∨ n = 14 := by omega
theorem pathOk_nil (x : List Int) (h : ¬ ((x.length : Int) > 0)) : pathOk x = true := by
  have : x = [] := List.eq_nil_of_length_eq_zero (by omega)
  subst this
  rfl
def p14 (r : S33) : Bool := decide (r.f1 = 14) || decide (r.f13 = 0)
def p12 (r : S33) : Bool := (decide (r.f1 = 12 ∨ r.f1 = 13) || !decide ((r.f12.length : Int) > 0)) && p14 r
def p13 (r : S33) : Bool := (decide (r.f1 = 13) || (decide (r.f10 = 0) && !r.f11)) && p12 r
def p9 (r : S33) (w : Bool) : Bool := (w || !decide ((r.f9.length : Int) > 0)) && p13 r
def p8 (r : S33) (w : Bool) : Bool := (decide (r.f1 = 11) || decide (r.f8 = 0)) && p9 r w
def p6 (r : S33) (w : Bool) : Bool := (decide (r.f1 = 6) || (decide (r.f6 = 0) && !decide ((r.f7.length : Int) > 0))) && p8 r w
def p5 (r : S33) (w : Bool) : Bool := (decide (r.f1 = 7 ∨ r.f1 = 6) || decide (r.f5 = 0)) && p6 r w
def p4 (r : S33) (w : Bool) : Bool := (decide (r.f1 = 7) || decide (r.f4 = 0)) && p5 r w
def p3 (r : S33) (w : Bool) : Bool := (decide (r.f1 ∈ ([7, 8, 9, 11] : List Int)) || !decide ((r.f3.length : Int) > 0)) && p4 r w
def p2 (r : S33) (w : Bool) : Bool := (decide (r.f1 ∈ ([2, 3, 4, 6, 8, 9] : List Int)) || decide (r.f2.toList = ([] : List UInt8))) && p3 r w
theorem sW_eq (r : S33) : sW r = p14 r := by
  unfold sW p14
  by_cases h : r.f1 = 14 <;> by_cases h' : r.f13 = 0 <;> simp [h, h']
theorem sV_eq (r : S33) : sV r = p12 r := by
  unfold sV p12
  rw [sW_eq]
  have e : ((r.f12.length : Int) = 0) = ¬ ((r.f12.length : Int) > 0) := propext (by omega)
  simp only [e]
  generalize p14 r = q
  by_cases h : r.f1 = 12 <;> by_cases h' : r.f1 = 13 <;> by_cases h2 : (r.f12.length : Int) > 0 <;> simp only [List.mem_cons, List.not_mem_nil, h, h', h2] <;> simp
theorem sT_eq (r : S33) : sT r = p13 r := by
  unfold sT p13
  rw [sV_eq]
  generalize p12 r = q
  generalize r.f11 = c
  by_cases h : r.f1 = 13 <;> by_cases h' : r.f10 = 0 <;> cases c <;> simp [h, h']
theorem s2_eq (r : S33) (b : Bool) : s2 r b = (!b && p9 r (decide (3 ≤ r.f8 ∧ r.f8 ≤ 5))) := by
  unfold s2 p9
  rw [sT_eq]
  generalize p13 r = q
  generalize decide (3 ≤ r.f8 ∧ r.f8 ≤ 5) = w
  by_cases h : (r.f9.length : Int) > 0 <;> cases b <;> cases w <;> simp only [h] <;> simp
theorem s1_eq (r : S33) (b : Bool) : s1 r b = (!b && p6 r (decide (3 ≤ r.f8 ∧ r.f8 ≤ 5))) := by
  unfold s1 p6 p8
  simp only [s2_eq]
  generalize p9 r (decide (3 ≤ r.f8 ∧ r.f8 ≤ 5)) = q
  by_cases h : r.f1 = 6 <;> by_cases h1 : r.f1 = 11 <;> by_cases h2 : r.f6 = 0 <;> by_cases h3 : (r.f7.length : Int) > 0 <;> by_cases h4 : r.f8 = 0 <;> cases b <;> simp only [h, h1, h2, h3, h4] <;> simp [h4]
theorem s0_eq (r : S33) (b : Bool) : s0 r b = (!b && p4 r (decide (3 ≤ r.f8 ∧ r.f8 ≤ 5))) := by
  unfold s0 p4 p5
  simp only [s1_eq]
  generalize p6 r (decide (3 ≤ r.f8 ∧ r.f8 ≤ 5)) = q
  by_cases h : r.f1 = 7 <;> by_cases h1 : r.f1 = 6 <;> by_cases h2 : r.f4 = 0 <;> by_cases h3 : r.f5 = 0 <;> cases b <;> simp only [h, h1, h2, h3] <;> simp [h3]
theorem formS_eq (r : S33) : formS r = (decide (1 ≤ r.f1 ∧ r.f1 ≤ 14) && p2 r (decide (3 ≤ r.f8 ∧ r.f8 ≤ 5))) := by
  unfold formS sR p2 p3
  simp only [s0_eq]
  generalize p4 r (decide (3 ≤ r.f8 ∧ r.f8 ≤ 5)) = q
  generalize decide (1 ≤ r.f1 ∧ r.f1 ≤ 14) = a
  generalize decide (r.f1 ∈ ([2, 3, 4, 6, 8, 9] : List Int)) = b
  generalize decide (r.f1 ∈ ([7, 8, 9, 11] : List Int)) = c
  by_cases h : r.f2.toList = ([] : List UInt8) <;> by_cases h3 : (r.f3.length : Int) > 0 <;> cases a <;> cases b <;> cases c <;> simp only [h, h3] <;> simp
theorem o6_eq (r : S33) (b : Bool) : o6 r b = (!b && p14 r) := by
  unfold o6 p14 isK
  by_cases h : r.f1 = 14 <;> by_cases h' : r.f13 = 0 <;> cases b <;> simp [h, h']
theorem o5_eq (r : S33) (b : Bool) : o5 r b = (!b && p12 r) := by
  unfold o5 p12 isK
  simp only [o6_eq]
  generalize p14 r = q
  by_cases h : r.f1 = 12 <;> by_cases h' : r.f1 = 13 <;> by_cases h2 : (r.f12.length : Int) > 0 <;> cases b <;> simp only [List.mem_cons, List.not_mem_nil, h, h', h2] <;> simp
theorem o4_eq (r : S33) (b : Bool) : o4 r b = (!b && p13 r) := by
  unfold o4 p13 isK
  simp only [o5_eq]
  generalize p12 r = q
  generalize r.f11 = c
  by_cases h : r.f1 = 13 <;> by_cases h' : r.f10 = 0 <;> cases c <;> cases b <;> simp [h, h']
theorem o3_eq (r : S33) (b : Bool) : o3 r b = (!b && p8 r (hasP r)) := by
  unfold o3 p8 p9 isK
  simp only [o4_eq]
  generalize p13 r = q
  generalize hasP r = w
  by_cases h : r.f1 = 11 <;> by_cases h' : r.f8 = 0 <;> by_cases h2 : (r.f9.length : Int) > 0 <;> cases w <;> cases b <;> simp only [List.mem_cons, List.not_mem_nil, h, h', h2] <;> simp [h']
theorem o2_eq (r : S33) (b : Bool) : o2 r b = (!b && p6 r (hasP r)) := by
  unfold o2 p6 isK
  simp only [o3_eq]
  generalize p8 r (hasP r) = q
  by_cases h : r.f1 = 6 <;> by_cases h' : r.f6 = 0 <;> by_cases h2 : (r.f7.length : Int) > 0 <;> cases b <;> simp only [List.mem_cons, List.not_mem_nil, h, h', h2] <;> simp
theorem o1_eq (r : S33) (b : Bool) : o1 r b = (!b && p4 r (hasP r)) := by
  unfold o1 p4 p5 isK
  simp only [o2_eq]
  generalize p6 r (hasP r) = q
  by_cases h : r.f1 = 7 <;> by_cases h1 : r.f1 = 6 <;> by_cases h' : r.f4 = 0 <;> by_cases h2 : r.f5 = 0 <;> cases b <;> simp only [List.mem_cons, List.not_mem_nil, h, h1, h', h2] <;> simp [h', h2]
theorem onlyF_eq (r : S33) : onlyF r = p2 r (hasP r) := by
  unfold onlyF o0 p2 p3 isK
  simp only [o1_eq, o2_eq]
  generalize p4 r (hasP r) = q
  generalize decide (r.f1 ∈ ([2, 3, 4, 6, 8, 9] : List Int)) = b
  generalize decide (r.f1 ∈ ([7, 8, 9, 11] : List Int)) = c
  by_cases h : r.f2.toList = ([] : List UInt8) <;> by_cases h3 : (r.f3.length : Int) > 0 <;> cases b <;> cases c <;> simp [h, h3]
theorem form_both (r : S33) : p2 r (hasP r) = p2 r (decide (3 ≤ r.f8 ∧ r.f8 ≤ 5)) := by
  by_cases h : r.f1 = 11
  · have : hasP r = decide (3 ≤ r.f8 ∧ r.f8 ≤ 5) := by
      unfold hasP isK
      rw [if_pos (by simp [h])]
    rw [this]
  · have hp : hasP r = false := by
      unfold hasP isK
      rw [if_neg (by simp [h])]
    by_cases h8 : r.f8 = 0
    · rw [hp]
      congr 1
      rw [eq_comm, decide_eq_false_iff_not]
      omega
    · have z : ∀ w, p8 r w = false := fun w => by unfold p8; rw [decide_eq_false h, decide_eq_false h8]; rfl
      unfold p2 p3 p4 p5 p6
      simp only [z]
theorem nums_both (r : S33) (hf : p2 r (decide (3 ≤ r.f8 ∧ r.f8 ≤ 5)) = true) : numsF r = numsS r := by
  unfold p2 p3 p4 p5 p6 p8 p9 p13 p12 p14 at hf
  simp only [Bool.and_eq_true, Bool.or_eq_true, decide_eq_true_eq, Bool.not_eq_true', decide_eq_false_iff_not] at hf
  obtain ⟨_, _, f4, f5, f6, f8, f9, _, _, _⟩ := hf
  unfold numsF n0 n1 n2 n3 numsS isK
  by_cases h7 : r.f1 = 7
  · have e6 := (f6.resolve_left (by omega)).1
    have e8 := f8.resolve_left (by omega)
    have e9 := pathOk_nil _ (f9.resolve_left (by omega))
    by_cases a : 1 ≤ r.f4 ∧ r.f4 ≤ 3 <;> by_cases c : 0 ≤ r.f5 ∧ r.f5 ≤ 15 <;> simp [h7, a, c, e6, e8, e9]
  have e4 := f4.resolve_left h7
  by_cases h6 : r.f1 = 6
  · have e8 := f8.resolve_left (by omega)
    have e9 := pathOk_nil _ (f9.resolve_left (by omega))
    by_cases a : 0 ≤ r.f5 ∧ r.f5 ≤ 15 <;> by_cases c : 0 ≤ r.f6 ∧ r.f6 ≤ 9999 <;> by_cases d : 1 ≤ (r.f7.length : Int) ∧ (r.f7.length : Int) ≤ 400 <;> simp [h6, a, c, d, e8, e9]
  have e5 := f5.resolve_left (by omega)
  have e6 := (f6.resolve_left h6).1
  by_cases h11 : r.f1 = 11
  · by_cases a : 1 ≤ r.f8 ∧ r.f8 ≤ 7 <;> cases hp : pathOk r.f9 <;> simp [h11, a, hp, e5, e6]
  have e8 := f8.resolve_left h11
  have e9 := pathOk_nil _ (f9.resolve_left (by omega))
  by_cases h13 : r.f1 = 13
  · by_cases a : 1 ≤ r.f10 ∧ r.f10 ≤ 4 <;> simp [h13, a, e5, e6, e9]
  by_cases h14 : r.f1 = 14
  · by_cases a : 1 ≤ r.f13 ∧ r.f13 ≤ 3 <;> simp [h14, a, e5, e6, e9]
  simp [h7, h6, h11, h13, h14, e5, e6, e9]
theorem cmd_both (r : S33) : cmdI r = cmdS r := by
  unfold cmdI cmdS c0
  rw [onlyF_eq, formS_eq, form_both]
  by_cases h0 : isTagF r.f0 = true
  case neg => rw [if_neg h0, if_neg h0]
  rw [if_pos h0, if_pos h0]
  by_cases hk : 1 ≤ r.f1 ∧ r.f1 ≤ 14
  case neg => simp [hk]
  cases hf : p2 r (decide (3 ≤ r.f8 ∧ r.f8 ≤ 5)) with
  | false => simp [hk]
  | true =>
    have hn := nums_both r hf
    have e1 : ∀ b, d0 r b = if b = true then 5 else c1 r := fun b => by
      unfold d0 c1 d1 c2 isK
      rw [hn]
    rw [e1, e1]
    unfold isK
    cases hw : isWord r.f2 8 <;> simp [hk]
theorem FnExactCmdFault : ∀ (a0_0 : ByteArray) (a0_1 : Int) (a0_2 : ByteArray) (l0_3 : List (S102)) (a0_4 : Int) (a0_5 : Int) (a0_6 : Int) (l0_7 : List Int) (a0_8 : Int) (l0_9 : List Int) (a0_10 : Int) (a0_11 : Bool) (l0_12 : List (S96)) (a0_13 : Int), a0_0.size ≤ 140737488351232 → (Lit.int .i64 a0_1).wf = true → a0_2.size ≤ 140737488351232 → (l0_3.length * 16 ≤ 140737488351232 ∧ ∀ x1_ ∈ l0_3, ((Lit.int .i64 x1_.f0).wf = true ∧ (Lit.int .i64 x1_.f1).wf = true)) → (Lit.int .i64 a0_4).wf = true → (Lit.int .i64 a0_5).wf = true → (Lit.int .i64 a0_6).wf = true → (l0_7.length * 1 ≤ 140737488351232 ∧ ∀ x1_ ∈ l0_7, (Lit.int .u8 x1_).wf = true) → (Lit.int .i64 a0_8).wf = true → (l0_9.length * 8 ≤ 140737488351232 ∧ ∀ x1_ ∈ l0_9, (Lit.int .i64 x1_).wf = true) → (Lit.int .i64 a0_10).wf = true → (l0_12.length * 80 ≤ 140737488351232 ∧ ∀ x1_ ∈ l0_12, ((Lit.int .i64 x1_.f0).wf = true ∧ (Lit.int .i64 x1_.f1).wf = true ∧ (x1_.f2.length * 8 ≤ 140737488351232 ∧ ∀ x2_ ∈ x1_.f2, (Lit.int .i64 x2_).wf = true) ∧ (x1_.f3.length * 16 ≤ 140737488351232 ∧ ∀ x2_ ∈ x1_.f3, ((Lit.int .i64 x2_.f0).wf = true ∧ (Lit.int .i64 x2_.f1).wf = true)) ∧ (Lit.int .i64 x1_.f4).wf = true ∧ (Lit.int .i64 x1_.f5).wf = true)) → (Lit.int .i64 a0_13).wf = true → ∃ k, laws_FnExactCmdFault.f k a0_0 a0_1 a0_2 l0_3 a0_4 a0_5 a0_6 l0_7 a0_8 l0_9 a0_10 a0_11 l0_12 a0_13 = some true := by
  intro a0 a1 a2 a3 a4 a5 a6 a7 a8 a9 a10 a11 a12 a13 p0 _ p2 p3 _ _ _ p7 _ p9 _ p12 _
  apply Ev.get
  unfold laws_FnExactCmdFault.f
  obtain ⟨r, hr, hr'⟩ := ev_szCmd a0 a1 a2 a3 a4 a5 a6 a7 a8 a9 a10 a11 a12 a13 p0 p2 p3.1 (by omega) (by omega) (by omega) (fun y hy => ⟨by have := (p12.2 y hy).2.2.1.1; omega, (p12.2 y hy).2.2.2.1.1⟩) 1048576 (by omega) (by omega)
  refine Ev.bind hr ?_
  rcases hr' with h | ⟨g0, g1, u0, u2, u3, u7, u9, u12, uo⟩
  · exact Ev.pos h (Ev.now _)
  have tx := ev_toCmd a0 a1 a2 a3 a4 a5 a6 a7 a8 a9 a10 a11 a12 a13 u3 u7 u9 u12 uo
  have x3 : (a3.map cvRange).length ≤ 1048576 := by simpa using u3
  have x12 : (a12.map cvTerm).length ≤ 1048576 := by simpa using u12
  have ok := okITerm_cv uo
  have hs := ev_specCmdFault ⟨a0, a1, a2, a3.map cvRange, a4, a5, a6, a7, a8, a9, a10, a11, a12.map cvTerm, a13⟩ u0 u2 x3 u9 ok
  have hi := ev_implCmdFault ⟨a0, a1, a2, a3.map cvRange, a4, a5, a6, a7, a8, a9, a10, a11, a12.map cvTerm, a13⟩ u0 u2 x3 u9 ok
  rw [cmd_both] at hi
  refine Ev.neg (by omega) (Ev.bind tx (Ev.bind hs (Ev.bind tx (Ev.bind hi (Ev.pos rfl (Ev.bind tx ?_))))))
  exact Ev.bind (ev_eqCmd _ _ _ _ _ _ _ _ _ _ _ _ _ _ x3 u7 u9 x12 ok) (Ev.pos rfl (Ev.now _))

end Go.Proofs.Ytnehephjliankaa.Pure

/- For every line, the tag that the program reads is that of the reference. -/
import Derived.Test.YtlneiofnmbcheaaPFnExactTagOfx2
import Derived.Test.YtlneiofnmbcheaaU
import Derived.Lib.Bytealg
namespace Go.Proofs.Ytlneiofnmbcheaa.Pure
open Go.RowKit Go.Proofs.Ytlneiofnmbcheaa.PFnExactTagOf Go.Proofs.YtlneiofnmbcheaaW.PrintWords Go.Proofs.YtlneiofnmbcheaaW.PrintLast Go.Proofs.Ytlneiofnmbcheaa.U
set_option linter.unusedSimpArgs false
set_option linter.unusedVariables false

theorem bt_list (s : ByteArray) (i : Nat) (h : i < s.data.toList.length) : bt s (i : Int) = (s.data.toList[i].toNat : Int) := by
  have h' : i < s.size := by rw [Go.Lib.size_eq]; exact h
  unfold bt
  rw [dif_pos (show ((i : Int)).toNat < s.size by simpa using h')]
  simp only [Int.toNat_natCast]
  rfl
theorem indexByte_spec (l : List UInt8) (c : UInt8) : (Go.Lib.indexByte l c = -1 ∧ ∀ j (h : j < l.length), l[j] ≠ c) ∨ (∃ i : Nat, Go.Lib.indexByte l c = (i : Int) ∧ ∃ h : i < l.length, l[i] = c ∧ ∀ j (hj : j < i), l[j]'(by omega) ≠ c) := by
  induction l with
  | nil => exact .inl ⟨rfl, fun j h => absurd h (by simp)⟩
  | cons b l ih =>
    unfold Go.Lib.indexByte
    by_cases hb : b = c
    · subst hb
      exact .inr ⟨0, by simp, by simp, by simp, fun j hj => absurd hj (by omega)⟩
    · have hb' : (b == c) = false := by simpa using hb
      rw [hb']
      rcases ih with ⟨h1, h2⟩ | ⟨i, h1, h2, h3, h4⟩
      · refine .inl ⟨by simp [h1], fun j hj => ?_⟩
        cases j with
        | zero => exact hb
        | succ j => simpa using h2 j (by simpa using hj)
      · refine .inr ⟨i + 1, ?_, by simpa using h2, by simpa using h3, fun j hj => ?_⟩
        · have : ¬ ((i : Int) = -1) := by omega
          simp [h1, this]
        · cases j with
          | zero => exact hb
          | succ j => simpa using h4 j (by omega)
/-- Where a byte first stands in a text, from the first place on. -/
theorem indexByte_bt (s : ByteArray) (c : UInt8) : (Go.Lib.indexByte s.data.toList c = -1 ∧ ∀ j : Nat, j < s.size → bt s (j : Int) ≠ (c.toNat : Int)) ∨ (∃ i : Nat, Go.Lib.indexByte s.data.toList c = (i : Int) ∧ i < s.size ∧ bt s (i : Int) = (c.toNat : Int) ∧ ∀ j : Nat, j < i → bt s (j : Int) ≠ (c.toNat : Int)) := by
  have inj : ∀ a : UInt8, ((a.toNat : Int) = (c.toNat : Int)) → a = c := fun a h => UInt8.toNat_inj.1 (by omega)
  rcases indexByte_spec s.data.toList c with ⟨h1, h2⟩ | ⟨i, h1, h2, h3, h4⟩
  · refine .inl ⟨h1, fun j hj => ?_⟩
    have hj' : j < s.data.toList.length := by rw [← Go.Lib.size_eq]; exact hj
    rw [bt_list s j hj']
    exact fun e => h2 j hj' (inj _ e)
  · refine .inr ⟨i, h1, by rw [Go.Lib.size_eq]; exact h2, by rw [bt_list s i h2, h3], fun j hj => ?_⟩
    rw [bt_list s j (by omega)]
    exact fun e => h4 j hj (inj _ e)
def cutGo (s : ByteArray) (c : Int) : Nat → Nat → Nat → List ByteArray
  | 0, from_, i => [s.extract from_ i]
  | d + 1, from_, i => if bt s (i : Int) = c then s.extract from_ i :: cutGo s c d (i + 1) (i + 1) else cutGo s c d from_ (i + 1)
theorem ev_cutGo (s : ByteArray) (c : Int) (hs : s.size ≤ 1048576) : ∀ (d from_ i : Nat) (acc : List ByteArray), i + d = s.size → from_ ≤ i → acc.length ≤ i → Ev (fun k => spec_l11Cut.l0 k s c acc (from_ : Int) (i : Int)) (acc ++ cutGo s c d from_ i)
  | 0, from_, i, acc, h, hf, ha => by
    refine Ev.succ ?_
    simp only [spec_l11Cut.l0, cutGo]
    refine Ev.pos (by omega) (Ev.pos (by omega) (Ev.pos (by omega) (Ev.pos (by omega) (Ev.pos (by omega) (Ev.succ ?_)))))
    simp only [spec_l11Cut.l0, Int.toNat_natCast]
    rw [wid (x := (i : Int) + 1) (by omega) (by omega)]
    exact Ev.neg (by omega) (Ev.now _)
  | d + 1, from_, i, acc, h, hf, ha => by
    refine Ev.succ ?_
    simp only [spec_l11Cut.l0, cutGo, wsucc (show i < s.size by omega) (show s.size ≤ 281474976710656 by omega), Int.toNat_natCast]
    refine Ev.pos (by omega) (Ev.neg (by omega) (Ev.pos (by omega) (Ev.pos (by omega) ?_)))
    by_cases hc : bt s (i : Int) = c
    · rw [if_pos hc]
      refine Ev.pos hc (Ev.pos (by omega) (Ev.pos (by omega) (Ev.pos (by omega) ?_)))
      have := ev_cutGo s c hs d (i + 1) (i + 1) (acc ++ [s.extract from_ i]) (by omega) (by omega) (by simp; omega)
      rw [List.append_assoc] at this
      exact this
    · rw [if_neg hc]
      exact Ev.neg hc (ev_cutGo s c hs d from_ (i + 1) acc (by omega) (by omega) (by omega))
def cutS (s : ByteArray) (c : Int) : List ByteArray := cutGo s c s.size 0 0
theorem ev_l11Cut (s : ByteArray) (c : Int) (hs : s.size ≤ 1048576) : Ev (fun k => spec_l11Cut.f k s c) (cutS s c) := ev_cutGo s c hs s.size 0 0 [] (by omega) (by omega) (by simp)
/-- The first piece goes to the first place where the byte stands. -/
theorem cutGo_none (s : ByteArray) (c : Int) : ∀ (d from_ i : Nat), i + d = s.size → (∀ j : Nat, i ≤ j → j < s.size → bt s (j : Int) ≠ c) → cutGo s c d from_ i = [s.extract from_ s.size]
  | 0, from_, i, h, hn => by
    have : i = s.size := by omega
    subst this
    rfl
  | d + 1, from_, i, h, hn => by
    simp only [cutGo]
    rw [if_neg (hn i (by omega) (by omega))]
    exact cutGo_none s c d from_ (i + 1) (by omega) (fun j hj => hn j (by omega))
theorem cutGo_some (s : ByteArray) (c : Int) (p : Nat) (hp : p < s.size) (hc : bt s (p : Int) = c) : ∀ (d from_ i : Nat), i + d = s.size → i ≤ p → (∀ j : Nat, i ≤ j → j < p → bt s (j : Int) ≠ c) → cutGo s c d from_ i = s.extract from_ p :: cutGo s c (s.size - (p + 1)) (p + 1) (p + 1)
  | 0, from_, i, h, hi, hn => by omega
  | d + 1, from_, i, h, hi, hn => by
    simp only [cutGo]
    by_cases e : i = p
    · subst e
      rw [if_pos hc]
      have : d = s.size - (i + 1) := by omega
      rw [this]
    · rw [if_neg (hn i (by omega) (by omega))]
      exact cutGo_some s c p hp hc d from_ (i + 1) (by omega) (by omega) (fun j hj => hn j (by omega))
theorem l1In_eq (a b c : Int) : spec_l1In.f a b c = some (decide (b ≤ a ∧ a ≤ c)) := by
  unfold spec_l1In.f
  by_cases h : b ≤ a <;> simp [h]
def tagByte (s : ByteArray) (i : Nat) : Bool := decide (97 ≤ bt s (i : Int) ∧ bt s (i : Int) ≤ 122) || decide (48 ≤ bt s (i : Int) ∧ bt s (i : Int) ≤ 57)
def isTagF (s : ByteArray) : Bool := (List.range s.size).all (fun i => tagByte s i) && decide (1 ≤ (s.size : Int) ∧ (s.size : Int) ≤ 4)
theorem ev_l14Tag (s : ByteArray) (hs : s.size ≤ 281474976710656) : Ev (fun k => spec_l14Tag.f k s) (isTagF s) := by
  unfold spec_l14Tag.f isTagF
  have h := ev_findI (fun k i => spec_l14Tag.l0 k s i) s.size (fun i => if tagByte s i = true then none else some false) (decide (1 ≤ (s.size : Int) ∧ (s.size : Int) ≤ 4)) ?_ ?_ ?_
  · rw [find_guard] at h
    by_cases hall : (List.range s.size).all (fun i => tagByte s i) = true
    · rw [if_pos hall] at h; rw [hall, Bool.true_and]; exact h
    · rw [if_neg hall] at h; rw [Bool.not_eq_true] at hall; rw [hall, Bool.false_and]; exact h
  · refine Ev.succ ?_
    simp only [spec_l14Tag.l0, Int.lt_irrefl, if_false, l1In_eq, Option.bind_some]
    exact Ev.now _
  · intro i hi r hr
    by_cases hc : tagByte s i = true
    · rw [if_pos hc] at hr; cases hr
    rw [if_neg hc] at hr; cases hr
    simp only [tagByte, Bool.or_eq_true, decide_eq_true_eq] at hc
    refine Ev.succ ?_
    simp only [spec_l14Tag.l0]
    refine Ev.pos (by omega) (Ev.pos (by omega) ?_)
    by_cases h1 : bt s (i : Int) ≥ 97
    · refine Ev.pos h1 (Ev.neg (by omega) ?_)
      by_cases h2 : bt s (i : Int) ≥ 48
      · exact Ev.pos h2 (Ev.neg (by omega) (Ev.now _))
      · exact Ev.neg h2 (Ev.now _)
    · refine Ev.neg h1 ?_
      by_cases h2 : bt s (i : Int) ≥ 48
      · exact Ev.pos h2 (Ev.neg (by omega) (Ev.now _))
      · exact Ev.neg h2 (Ev.now _)
  · intro i hi hr r h
    by_cases hc : tagByte s i = true
    case neg => rw [if_neg hc] at hr; cases hr
    simp only [tagByte, Bool.or_eq_true, decide_eq_true_eq] at hc
    refine Ev.succ ?_
    simp only [spec_l14Tag.l0, wsucc hi (show s.size ≤ 281474976710656 by omega)]
    refine Ev.pos (by omega) (Ev.pos (by omega) ?_)
    by_cases h1 : bt s (i : Int) ≥ 97
    · refine Ev.pos h1 ?_
      by_cases h3 : bt s (i : Int) ≤ 122
      · exact Ev.pos h3 h
      · exact Ev.neg h3 (Ev.pos (by omega) (Ev.pos (by omega) h))
    · exact Ev.neg h1 (Ev.pos (by omega) (Ev.pos (by omega) h))
theorem isDigit_eq (b : Int) : impl_isDigit.f b = some (decide (48 ≤ b ∧ b ≤ 57)) := by
  unfold impl_isDigit.f
  by_cases h : 48 ≤ b <;> simp [h]
theorem ev_isTag (s : ByteArray) (hs : s.size ≤ 281474976710656) : Ev (fun k => impl_isTag.f k s) (isTagF s) := by
  unfold impl_isTag.f isTagF
  have h := ev_findI (fun k i => impl_isTag.l0 k s (s.size : Int) i) s.size (fun i => if tagByte s i = true then none else some false) (decide (1 ≤ (s.size : Int) ∧ (s.size : Int) ≤ 4)) ?_ ?_ ?_
  · rw [find_guard] at h
    by_cases hall : (List.range s.size).all (fun i => tagByte s i) = true
    · rw [if_pos hall] at h; rw [hall, Bool.true_and]; exact h
    · rw [if_neg hall] at h; rw [Bool.not_eq_true] at hall; rw [hall, Bool.false_and]; exact h
  · refine Ev.succ ?_
    simp only [impl_isTag.l0, Int.lt_irrefl, if_false]
    by_cases h1 : 1 ≤ (s.size : Int)
    · refine Ev.pos h1 ?_; simp only [h1, true_and]; exact Ev.now _
    · refine Ev.neg h1 ?_; simp only [h1, false_and, decide_false]; exact Ev.now _
  · intro i hi r hr
    by_cases hc : tagByte s i = true
    · rw [if_pos hc] at hr; cases hr
    rw [if_neg hc] at hr; cases hr
    simp only [tagByte, Bool.or_eq_true, decide_eq_true_eq] at hc
    refine Ev.succ ?_
    simp only [impl_isTag.l0, isDigit_eq, Option.bind_some]
    refine Ev.pos (by omega) (Ev.pos (by omega) (Ev.pos (by omega) (Ev.neg (by simp; omega) ?_)))
    by_cases h1 : bt s (i : Int) < 97
    · exact Ev.pos h1 (Ev.now _)
    · exact Ev.neg h1 (Ev.pos (by omega) (Ev.now _))
  · intro i hi hr r h
    by_cases hc : tagByte s i = true
    case neg => rw [if_neg hc] at hr; cases hr
    simp only [tagByte, Bool.or_eq_true, decide_eq_true_eq] at hc
    refine Ev.succ ?_
    simp only [impl_isTag.l0, isDigit_eq, Option.bind_some, wsucc hi (show s.size ≤ 281474976710656 by omega)]
    refine Ev.pos (by omega) (Ev.pos (by omega) (Ev.pos (by omega) ?_))
    by_cases h1 : 48 ≤ bt s (i : Int) ∧ bt s (i : Int) ≤ 57
    · exact Ev.pos (decide_eq_true h1) h
    · exact Ev.neg (by simp; omega) (Ev.neg (by omega) (Ev.neg (by omega) h))
/-- strings.Cut at one byte. -/
theorem strings_Cut_none (s : ByteArray) (c : UInt8) (h : ∀ j : Nat, j < s.size → bt s (j : Int) ≠ (c.toNat : Int)) : strings_Cut.f s ⟨#[c]⟩ = some (s, ⟨#[]⟩, false) := by
  have hi : stringslite_Index.f s ⟨#[c]⟩ = some (-1) := by
    unfold stringslite_Index.f
    rw [if_pos (show (⟨#[c]⟩ : ByteArray).size = 1 from rfl)]
    rcases indexByte_bt s c with ⟨h1, _⟩ | ⟨i, h1, h2, h3, _⟩
    · simp [h1]
    · exact absurd h3 (h i h2)
  unfold strings_Cut.f stringslite_Cut.f
  simp [hi]
theorem strings_Cut_some (s : ByteArray) (c : UInt8) (p : Nat) (hp : p < s.size) (hs : s.size ≤ 1048576) (hc : bt s (p : Int) = (c.toNat : Int)) (h : ∀ j : Nat, j < p → bt s (j : Int) ≠ (c.toNat : Int)) : strings_Cut.f s ⟨#[c]⟩ = some (s.extract 0 p, s.extract (p + 1) s.size, true) := by
  have hi : stringslite_Index.f s ⟨#[c]⟩ = some (p : Int) := by
    unfold stringslite_Index.f
    rw [if_pos (show (⟨#[c]⟩ : ByteArray).size = 1 from rfl)]
    rcases indexByte_bt s c with ⟨_, h2⟩ | ⟨i, h1, h2, h3, h4⟩
    · exact absurd hc (h2 p hp)
    · have : i = p := by
        rcases Nat.lt_trichotomy i p with e | e | e
        · exact absurd h3 (h i e)
        · exact e
        · exact absurd hc (h4 p e)
      subst this
      simp [h1]
  unfold strings_Cut.f stringslite_Cut.f
  have hw : wrap64 ((p : Int) + (((⟨#[c]⟩ : ByteArray).size : Nat) : Int)) = ((p + 1 : Nat) : Int) := by
    rw [show (⟨#[c]⟩ : ByteArray).size = 1 from rfl]
    unfold wrap64; omega
  simp only [hi, Option.bind_some, hw]
  rw [if_pos (by omega), if_pos (by omega), if_pos (by omega), if_pos (by omega), if_pos (by omega)]
  simp
def tagF (t : ByteArray) : Int × ByteArray := if isTagF t = true then (0, t) else (5, ⟨#[]⟩)
theorem FnExactTagOf : ∀ (a0 : ByteArray), a0.size ≤ 140737488351232 → ∃ k, laws_FnExactTagOf.f k a0 = some true := by
  intro s _
  apply Ev.get
  unfold laws_FnExactTagOf.f
  by_cases hb : (s.size : Int) > 1048576
  · exact Ev.pos hb (Ev.now _)
  refine Ev.neg hb ?_
  have hs : s.size ≤ 1048576 := by omega
  have key : ∃ t r1 r2 l, cutS s 32 = t :: l ∧ strings_Cut.f s ⟨#[32]⟩ = some (t, r1, r2) ∧ t.size ≤ 281474976710656 := by
    by_cases hn : ∀ j : Nat, j < s.size → bt s (j : Int) ≠ (((32 : UInt8).toNat : Nat) : Int)
    · refine ⟨s, _, _, [], ?_, strings_Cut_none s 32 hn, by omega⟩
      unfold cutS
      rw [cutGo_none s 32 s.size 0 0 (by omega) (fun j _ hj => hn j hj)]
      simp
    · have hx : ∃ p : Nat, p < s.size ∧ bt s (p : Int) = (((32 : UInt8).toNat : Nat) : Int) ∧ ∀ j : Nat, j < p → bt s (j : Int) ≠ (((32 : UInt8).toNat : Nat) : Int) := by
        rcases indexByte_bt s 32 with ⟨_, h2⟩ | ⟨i, _, h2, h3, h4⟩
        · exact absurd h2 hn
        · exact ⟨i, h2, h3, h4⟩
      obtain ⟨p, hp, hc, hj⟩ := hx
      refine ⟨s.extract 0 p, _, _, cutGo s 32 (s.size - (p + 1)) (p + 1) (p + 1), ?_, strings_Cut_some s 32 p hp hs hc hj, by rw [ByteArray.size_extract]; omega⟩
      unfold cutS
      exact cutGo_some s 32 p hp hc s.size 0 0 (by omega) (by omega) (fun j _ hj' => hj j hj')
  obtain ⟨t, r1, r2, l, h1, h2, h3⟩ := key
  have hsp : Ev (fun k => spec_TagOf.f k s) (tagF t) := by
    unfold spec_TagOf.f tagF
    refine Ev.bind (ev_l11Cut s 32 hs) ?_
    rw [h1]
    refine Ev.pos (by simp) ?_
    have e : rdOf ByteArray.empty (t :: l) 0 = t := rfl
    simp only [e]
    exact Ev.bind (ev_l14Tag t h3) (Ev.ite (fun _ => Ev.now _) (fun _ => Ev.now _))
  have him : Ev (fun k => impl_TagOf.f k s) (tagF t) := by
    unfold impl_TagOf.f tagF
    refine Ev.bindc h2 ?_
    exact Ev.bind (ev_isTag t h3) (Ev.ite (fun _ => Ev.now _) (fun _ => Ev.now _))
  refine Ev.bind hsp (Ev.bind him (Ev.bindc (b := true) ?_ (Ev.pos rfl (Ev.now _))))
  unfold laws_eqTextResult.f
  simp

end Go.Proofs.Ytlneiofnmbcheaa.Pure

/- Sets of ranges: text, reading and numbers agree. Conditions: the sizes that the statement gives. -/
import Derived.Test.YtnehephjliankaaDoorPFnSetsx9
import Derived.Test.YtnehephjliankaaDoorVFnSetsU
import Derived.Lib.ParseIntBTie
import Derived.Lib.ItoaLen
import Derived.Lib.Bytealg
import Derived.Lib.Split
import Derived.Lib.Strings
import Derived.Lib.IndexBytes
import Derived.Lib.ItoaMem
namespace Go.Proofs.YtnehephjliankaaDoor.Pure
open Go.RowKit Go.Proofs.YtnehephjliankaaDoor.PFnSets Go.Proofs.YtnehephjliankaaDoorW.PrintWords Go.Proofs.YtnehephjliankaaDoorW.PrintLast Go.Proofs.YtnehephjliankaaDoor.U
set_option linter.unusedSimpArgs false
set_option linter.unusedVariables false

theorem rd_Range_get (x : List S58) (i : Nat) (h : i < x.length) : rd_T58 x (i : Int) = x[i] := by simp [rd_T58, List.getD_eq_getElem?_getD, h]
theorem rd_byte (b : List Int) (hb : ∀ x ∈ b, 0 ≤ x ∧ x ≤ 255) (q : Int) (h0 : 0 ≤ q) (h1 : q < b.length) : 0 ≤ rd b q ∧ rd b q ≤ 255 := by
  obtain ⟨i, rfl⟩ : ∃ i : Nat, q = i := ⟨q.toNat, by omega⟩
  rw [rd_get b i (by omega)]
  exact hb _ (List.getElem_mem _)
theorem tmod_bd (a n : Int) (h0 : 0 ≤ a) (hn : 0 < n) : 0 ≤ Int.tmod a n ∧ Int.tmod a n < n := ⟨Int.tmod_nonneg _ h0, Int.tmod_lt_of_pos _ hn⟩
theorem next_ok (b : List Int) (hb : ∀ x ∈ b, 0 ≤ x ∧ x ≤ 255) (hl : b.length ≤ 1048576) (p n : Int) (hp0 : 0 ≤ p) (hp1 : p ≤ 100000) (hn0 : 1 ≤ n) (hn1 : n ≤ 100000) : ∃ v, spec_l1Next.f b p n = some (v, p + 1) ∧ 0 ≤ v ∧ v < n := by
  have e1 : wrap64 (p + 1) = p + 1 := wid (by omega) (by omega)
  have e2 : wrap64 (p + 1 - 1) = p := by rw [wid (by omega) (by omega)]; omega
  have fin : ∀ W : Int, 0 ≤ W → ∃ v, some (Int.tmod W n, p + 1) = some (v, p + 1) ∧ 0 ≤ v ∧ v < n := fun W hW => ⟨_, rfl, tmod_bd W n hW (by omega)⟩
  unfold spec_l1Next.f
  rw [if_neg (by omega)]
  simp only [e1, e2]
  by_cases hb0 : (b.length : Int) = 0
  · rw [if_pos hb0, if_neg (by omega)]
    exact fin _ (by rw [wid (by omega) (by omega)]; omega)
  rw [if_neg hb0]
  have hq := tmod_bd p b.length hp0 (by omega)
  rw [if_pos hq.1, if_pos hq.2]
  have hr := rd_byte b hb _ hq.1 hq.2
  have hd0 : 0 ≤ Int.tdiv p (b.length : Int) := Int.tdiv_nonneg hp0 (by omega)
  have hd1 : Int.tdiv p (b.length : Int) ≤ p := Int.tdiv_le_self _ hp0
  by_cases hn : n > 200
  · have e3 : wrap64 (p + 1) = p + 1 := e1
    have hq' := tmod_bd (p + 1) b.length (by omega) (by omega)
    have hr' := rd_byte b hb _ hq'.1 hq'.2
    rw [if_pos hn, if_pos hq'.1, if_pos hq'.2, if_neg (by omega)]
    apply fin
    generalize rd b (Int.tmod p b.length) = r at hr ⊢
    generalize rd b (Int.tmod (p + 1) b.length) = r' at hr' ⊢
    generalize Int.tdiv p (b.length : Int) = d at hd0 hd1 ⊢
    rw [wid (x := r) (by omega) (by omega), wid (x := r') (by omega) (by omega), wid (x := d) (by omega) (by omega), wid (x := d * 37) (by omega) (by omega), wid (x := r + d * 37) (by omega) (by omega), wid (x := (r + d * 37) * 251) (by omega) (by omega), wid (x := r' * 13) (by omega) (by omega), wid (x := (r + d * 37) * 251 + r' * 13) (by omega) (by omega), wid (by omega) (by omega)]
    omega
  · rw [if_neg hn, if_neg (by omega)]
    apply fin
    generalize rd b (Int.tmod p b.length) = r at hr ⊢
    generalize Int.tdiv p (b.length : Int) = d at hd0 hd1 ⊢
    rw [wid (x := r) (by omega) (by omega), wid (x := d) (by omega) (by omega), wid (x := d * 37) (by omega) (by omega), wid (by omega) (by omega)]
    omega
theorem pick_ok (b : List Int) (hb : ∀ x ∈ b, 0 ≤ x ∧ x ≤ 255) (hl : b.length ≤ 1048576) (p : Int) (hp0 : 0 ≤ p) (hp1 : p ≤ 100000) (l : List Int) (hn0 : 1 ≤ l.length) (hn1 : l.length ≤ 100000) : ∃ v, spec_l1Pick.f b p l = some (v, p + 1) ∧ v ∈ l := by
  obtain ⟨v, hv, h0, h1⟩ := next_ok b hb hl p l.length hp0 hp1 (by omega) (by omega)
  unfold spec_l1Pick.f
  rw [hv]
  obtain ⟨i, rfl⟩ : ∃ i : Nat, v = i := ⟨v.toNat, by omega⟩
  refine ⟨l[i]'(by omega), ?_, List.getElem_mem _⟩
  simp only [Option.bind_some]
  rw [if_pos h0, if_pos h1, rd_get l i (by omega)]
theorem src_eq (b : List Int) : spec_l1Source.f b = some (b, 0) := rfl
theorem ev_l11DrawL (b : List Int) (hb : ∀ x ∈ b, 0 ≤ x ∧ x ≤ 255) (hl : b.length ≤ 1048576) (c : Nat) : ∀ (x : List S58) (p : Int), x.length + c ≤ 100 → c ≤ 10 → 0 ≤ p → p + 5 * c ≤ 1000 → ∃ y q, Ev (fun k => spec_l11Draw.l0 k x (c : Int) b p) (y, q) ∧ y.length = x.length + c ∧ 0 ≤ q ∧ q ≤ p + 5 * c := by
  induction c with
  | zero =>
    intro x p _ _ h0 _
    refine ⟨x, p, Ev.succ ?_, rfl, h0, by omega⟩
    simp only [spec_l11Draw.l0]
    exact Ev.neg (by omega) (Ev.now _)
  | succ c ih =>
    intro x p hx hc h0 h1
    obtain ⟨v1, e1, _⟩ := next_ok b hb hl p 6 (by omega) (by omega) (by omega) (by omega)
    obtain ⟨v2, e2, _⟩ := next_ok b hb hl (p + 1) 6 (by omega) (by omega) (by omega) (by omega)
    obtain ⟨v3, e3, _⟩ := pick_ok b hb hl (p + 1 + 1) (by omega) (by omega) [wrap64 (1 + v1), wrap64 (1 + v2), 0, 999] (by simp) (by simp)
    obtain ⟨v4, e4, _⟩ := next_ok b hb hl (p + 1 + 1 + 1) 6 (by omega) (by omega) (by omega) (by omega)
    obtain ⟨v5, e5, _⟩ := pick_ok b hb hl (p + 1 + 1 + 1 + 1) (by omega) (by omega) [v3, wrap64 (1 + v4), 0] (by simp) (by simp)
    obtain ⟨y, q, h, hy, hq0, hq1⟩ := ih (x ++ [⟨v3, v5⟩]) (p + 1 + 1 + 1 + 1 + 1) (by simp only [List.length_append, List.length_cons, List.length_nil]; omega) (by omega) (by omega) (by omega)
    refine ⟨y, q, Ev.succ ?_, by simp only [List.length_append, List.length_cons, List.length_nil] at hy; omega, hq0, by omega⟩
    simp only [spec_l11Draw.l0, e1, e2, e3, e4, e5, Option.bind_some]
    refine Ev.pos (by omega) (Ev.pos (by omega) ?_)
    rw [show wrap64 (((c + 1 : Nat) : Int) - 1) = (c : Int) by rw [wid (by omega) (by omega)]; omega]
    exact h
theorem ev_l11Bent (b : List Int) (hb : ∀ x ∈ b, 0 ≤ x ∧ x ≤ 255) (hl : b.length ≤ 1048576) (p : Int) (h0 : 0 ≤ p) (h1 : p ≤ 500) : ∃ y q, Ev (fun k => spec_l11Bent.f k b p) (y, q) ∧ y.length ≤ 100 ∧ 0 ≤ q ∧ q ≤ p + 100 := by
  obtain ⟨v, e, hv0, hv1⟩ := next_ok b hb hl p 3 (by omega) (by omega) (by omega) (by omega)
  obtain ⟨c, rfl⟩ : ∃ c : Nat, v = c := ⟨v.toNat, by omega⟩
  obtain ⟨y, q, h, hy, hq0, hq1⟩ := ev_l11DrawL b hb hl (1 + c) [] (p + 1) (by simp only [List.length_nil]; omega) (by omega) (by omega) (by omega)
  simp only [List.length_nil] at hy
  have hd : Ev (fun k => spec_l11Draw.f k b p) (y, q) := by
    unfold spec_l11Draw.f
    simp only [e, Option.bind_some]
    rw [show wrap64 (1 + (c : Int)) = ((1 + c : Nat) : Int) by rw [wid (by omega) (by omega)]; omega]
    exact h
  obtain ⟨w, e2, _⟩ := next_ok b hb hl q 10 (by omega) (by omega) (by omega) (by omega)
  obtain ⟨w3, e3, _⟩ := pick_ok b hb hl (q + 1) (by omega) (by omega) [-1, 1000] (by simp) (by simp)
  obtain ⟨w4, e4, h4⟩ := pick_ok b hb hl (q + 1) (by omega) (by omega) [0, 9] (by simp) (by simp)
  unfold spec_l11Bent.f
  by_cases c0 : w = 0
  · refine ⟨y.set 0 ⟨w3, (rd_T58 y 0).f1⟩, q + 1 + 1, Ev.bind hd ?_, by simp; omega, by omega, by omega⟩
    simp only [e2, e3, Option.bind_some]
    exact Ev.pos c0 (Ev.pos (by omega) (Ev.now _))
  by_cases c1 : w = 1
  · have h4' : w4 = 0 ∨ w4 = 9 := by simpa using h4
    refine ⟨List.replicate w4.toNat z58, q + 1 + 1, Ev.bind hd ?_, by simp; omega, by omega, by omega⟩
    simp only [e2, e4, Option.bind_some]
    exact Ev.neg c0 (Ev.pos c1 (Ev.pos (by omega) (Ev.pos (by omega) (Ev.now _))))
  · refine ⟨y, q + 1, Ev.bind hd ?_, by omega, by omega, by omega⟩
    simp only [e2, Option.bind_some]
    exact Ev.neg c0 (Ev.neg c1 (Ev.now _))
-- needs:
def ba (l : List UInt8) : ByteArray := ⟨l.toArray⟩
theorem ba_size (l : List UInt8) : (ba l).size = l.length := by simp [ba, ByteArray.size]
theorem ba_append (a b : List UInt8) : ba a ++ ba b = ba (a ++ b) := by
  apply ByteArray.ext
  simp [ba, ByteArray.data_append]
theorem ba_data (l : List UInt8) : (ba l).data.toList = l := by simp [ba]
def numL (n : Int) : List UInt8 := if n = 0 then [42] else Lib.decDigits n.toNat
theorem decDigits_le {u : Nat} (h : u < 1000) : (Lib.decDigits u).length ≤ 3 := by
  by_cases h1 : u < 10
  · rw [Lib.decDigits, dif_pos h1]; simp
  · rw [Lib.decDigits, dif_neg h1]
    by_cases h2 : u / 10 < 10
    · rw [Lib.decDigits, dif_pos h2]; simp
    · rw [Lib.decDigits, dif_neg h2, Lib.decDigits, dif_pos (by omega)]; simp
theorem numL_le {n : Int} (h0 : 0 ≤ n) (h1 : n ≤ 999) : (numL n).length ≤ 3 := by
  unfold numL
  split
  · simp
  · exact decDigits_le (by omega)
theorem within_eq (a b c : Int) : impl_within.f a b c = some (decide (b ≤ a ∧ a ≤ c)) := by
  unfold impl_within.f
  by_cases h : b ≤ a <;> simp [h]
theorem parseUintM_digit (M acc d : Nat) (h : d < 10) (ha : acc < 1000000) (hM : 100000000 ≤ M) (r : List UInt8) : Lib.parseUintM M acc (UInt8.ofNat (48 + d) :: r) = Lib.parseUintM M (acc * 10 + d) r := by
  have e : (UInt8.ofNat (48 + d)).toNat = 48 + d := by rw [UInt8.toNat_ofNat']; omega
  rw [Lib.parseUintM, e, if_pos (by omega), if_neg (by omega), if_neg (by omega), show 48 + d - 48 = d by omega]
theorem parse_digits (n : Nat) (h : n < 1000) : Lib.parseUintB 64 (Lib.decDigits n) = .ok n := by
  unfold Lib.parseUintB
  by_cases h1 : n < 10
  · rw [Lib.decDigits_one h1, if_neg (by simp), parseUintM_digit _ 0 n h1 (by omega) (by decide)]
    simp [Lib.parseUintM]
  · by_cases h2 : n < 100
    · rw [Lib.decDigits_two h1 h2, if_neg (by simp), parseUintM_digit _ 0 (n / 10) (by omega) (by omega) (by decide), parseUintM_digit _ _ (n % 10) (by omega) (by omega) (by decide)]
      simp only [Lib.parseUintM]
      congr 1
      omega
    · rw [show Lib.decDigits n = [UInt8.ofNat (48 + n / 100), UInt8.ofNat (48 + n / 10 % 10), UInt8.ofNat (48 + n % 10)] by
        rw [Lib.decDigits, dif_neg h1, Lib.decDigits_two (by omega) (by omega), show n / 10 / 10 = n / 100 by omega]; rfl]
      rw [if_neg (by simp), parseUintM_digit _ 0 (n / 100) (by omega) (by omega) (by decide), parseUintM_digit _ _ (n / 10 % 10) (by omega) (by omega) (by decide), parseUintM_digit _ _ (n % 10) (by omega) (by omega) (by decide)]
      simp only [Lib.parseUintM]
      congr 1
      omega
theorem l1In_eq (a b c : Int) : spec_l1In.f a b c = some (decide (b ≤ a ∧ a ≤ c)) := by
  unfold spec_l1In.f
  by_cases h : b ≤ a <;> simp [h]
theorem bt_list (s : ByteArray) (i : Nat) (h : i < s.data.toList.length) : bt s (i : Int) = (s.data.toList[i].toNat : Int) := by
  have h' : i < s.size := by rw [Go.Lib.size_eq]; exact h
  unfold bt
  rw [dif_pos (show ((i : Int)).toNat < s.size by simpa using h')]
  simp only [Int.toNat_natCast]
  rfl
theorem indexByte_spec (l : List UInt8) (c : UInt8) : (Go.Lib.indexByte l c = -1 ∧ ∀ j (h : j < l.length), l[j] ≠ c) ∨ (∃ i : Nat, Go.Lib.indexByte l c = (i : Int) ∧ ∃ h : i < l.length, l[i] = c ∧ ∀ j (hj : j < i), l[j]'(by omega) ≠ c) := by
  induction l with
  | nil => exact .inl ⟨rfl, fun j h => absurd h (by simp)⟩
  | cons b l ih =>
    unfold Go.Lib.indexByte
    by_cases hb : b = c
    · subst hb
      exact .inr ⟨0, by simp, by simp, by simp, fun j hj => absurd hj (by omega)⟩
    · have hb' : (b == c) = false := by simpa using hb
      rw [hb']
      rcases ih with ⟨h1, h2⟩ | ⟨i, h1, h2, h3, h4⟩
      · refine .inl ⟨by simp [h1], fun j hj => ?_⟩
        cases j with
        | zero => exact hb
        | succ j => simpa using h2 j (by simpa using hj)
      · refine .inr ⟨i + 1, ?_, by simpa using h2, by simpa using h3, fun j hj => ?_⟩
        · have : ¬ ((i : Int) = -1) := by omega
          simp [h1, this]
        · cases j with
          | zero => exact hb
          | succ j => simpa using h4 j (by omega)
/-- Where a byte first stands in a text, from the first place on. -/
theorem indexByte_bt (s : ByteArray) (c : UInt8) : (Go.Lib.indexByte s.data.toList c = -1 ∧ ∀ j : Nat, j < s.size → bt s (j : Int) ≠ (c.toNat : Int)) ∨ (∃ i : Nat, Go.Lib.indexByte s.data.toList c = (i : Int) ∧ i < s.size ∧ bt s (i : Int) = (c.toNat : Int) ∧ ∀ j : Nat, j < i → bt s (j : Int) ≠ (c.toNat : Int)) := by
  have inj : ∀ a : UInt8, ((a.toNat : Int) = (c.toNat : Int)) → a = c := fun a h => UInt8.toNat_inj.1 (by omega)
  rcases indexByte_spec s.data.toList c with ⟨h1, h2⟩ | ⟨i, h1, h2, h3, h4⟩
  · refine .inl ⟨h1, fun j hj => ?_⟩
    have hj' : j < s.data.toList.length := by rw [← Go.Lib.size_eq]; exact hj
    rw [bt_list s j hj']
    exact fun e => h2 j hj' (inj _ e)
  · refine .inr ⟨i, h1, by rw [Go.Lib.size_eq]; exact h2, by rw [bt_list s i h2, h3], fun j hj => ?_⟩
    rw [bt_list s j (by omega)]
    exact fun e => h4 j hj (inj _ e)
def valGo : List UInt8 → Int → Int
  | [], acc => acc
  | b :: l, acc => if 48 ≤ b.toNat ∧ b.toNat ≤ 57 then valGo l (acc * 10 + ((b.toNat - 48 : Nat) : Int)) else -1
def valL (l : List UInt8) : Int := if l.length < 1 ∨ 4 < l.length ∨ (1 < l.length ∧ l.head? = some 48) then -1 else valGo l 0
def endL (l : List UInt8) : Int := if l = [42] then 0 else if 1 ≤ valL l ∧ valL l ≤ 999 then valL l else -1
theorem ev_valGo (s : ByteArray) (hs : s.size ≤ 4) : ∀ (d i : Nat) (acc : Int), i + d = s.size → 0 ≤ acc → acc < 10 ^ i → Ev (fun k => spec_l11Value.l0 k s acc (i : Int)) (valGo (s.data.toList.drop i) acc)
  | 0, i, acc, h, h0, h1 => by
    rw [List.drop_eq_nil_of_le (by rw [← Lib.size_eq]; omega)]
    refine Ev.succ ?_
    simp only [spec_l11Value.l0, valGo]
    exact Ev.neg (by omega) (Ev.now _)
  | d + 1, i, acc, h, h0, h1 => by
    have hl : i < s.data.toList.length := by rw [← Lib.size_eq]; omega
    rw [List.drop_eq_getElem_cons hl]
    have hb := bt_list s i hl
    generalize s.data.toList[i] = b at hb ⊢
    refine Ev.succ ?_
    simp only [spec_l11Value.l0, valGo, hb, wsucc (show i < s.size by omega) (show s.size ≤ 281474976710656 by omega)]
    refine Ev.pos (by omega) (Ev.pos (by omega) ?_)
    by_cases c1 : b.toNat < 48
    · rw [if_neg (by omega)]
      exact Ev.pos (by omega) (Ev.now _)
    · by_cases c2 : b.toNat > 57
      · rw [if_neg (by omega)]
        exact Ev.neg (by omega) (Ev.pos (by omega) (Ev.now _))
      · rw [if_pos (by omega)]
        have hp : (10 : Int) ^ i ≤ 10 ^ 4 := by
          have : (10 : Nat) ^ i ≤ 10 ^ 4 := Nat.pow_le_pow_right (by decide) (by omega)
          exact_mod_cast this
        have hw : wrap64 (wrap64 (acc * 10) + ((b.toNat : Int) - 48) % 256) = acc * 10 + ((b.toNat - 48 : Nat) : Int) := by
          rw [wid (x := acc * 10) (by omega) (by omega), wid (by omega) (by omega)]
          omega
        rw [hw]
        refine Ev.neg (by omega) (Ev.neg (by omega) (ev_valGo s hs d (i + 1) _ (by omega) (by omega) ?_))
        rw [Int.pow_succ]
        omega
theorem ev_l11Value (s : ByteArray) : Ev (fun k => spec_l11Value.f k s) (valL s.data.toList) := by
  unfold spec_l11Value.f valL
  rw [← Lib.size_eq]
  have yes : Ev (fun k => spec_l11Value.j0 k s true) (-1) := by
    refine Ev.succ ?_
    simp only [spec_l11Value.j0]
    exact Ev.pos trivial (Ev.now _)
  by_cases c1 : s.size < 1
  · rw [if_pos (Or.inl c1)]
    exact Ev.pos (by omega) yes
  by_cases c2 : 4 < s.size
  · rw [if_pos (Or.inr (Or.inl c2))]
    exact Ev.neg (by omega) (Ev.pos (by omega) yes)
  have no : Ev (fun k => spec_l11Value.j0 k s false) (valGo s.data.toList 0) := by
    refine Ev.succ ?_
    simp only [spec_l11Value.j0]
    refine Ev.neg (by simp) ?_
    have := ev_valGo s (by omega) s.size 0 0 (by omega) (by omega) (by decide)
    rwa [List.drop_zero] at this
  refine Ev.neg (by omega) (Ev.neg (by omega) ?_)
  by_cases c3 : 1 < s.size
  · have hl : 0 < s.data.toList.length := by rw [← Lib.size_eq]; omega
    have hb := bt_list s 0 hl
    have hh : s.data.toList.head? = some s.data.toList[0] := by rw [List.head?_eq_getElem?, List.getElem?_eq_getElem hl]
    refine Ev.pos (by omega) (Ev.pos (by omega) ?_)
    rw [show ((0 : Int)) = ((0 : Nat) : Int) from rfl, hb, hh]
    by_cases c4 : s.data.toList[0] = 48
    · rw [if_pos (Or.inr (Or.inr ⟨c3, by rw [c4]⟩)), c4]
      exact yes
    · rw [if_neg (by rintro (h | h | ⟨_, h⟩) <;> first | omega | exact c4 (Option.some.inj h))]
      have hq : ((((s.data.toList[0]).toNat : Nat) : Int) == 48) = false := by
        rw [beq_eq_false_iff_ne]
        intro e
        exact c4 (UInt8.toNat_inj.1 (by exact_mod_cast e))
      rw [hq]
      exact no
  · rw [if_neg (by omega)]
    exact Ev.neg (by omega) no
theorem ev_l11End (s : ByteArray) : Ev (fun k => spec_l11End.f k s) (endL s.data.toList) := by
  unfold spec_l11End.f endL
  rw [ByteArray.toList_eq]
  by_cases c : s.data.toList = [42]
  · rw [if_pos c]; exact Ev.pos c (Ev.now _)
  · rw [if_neg c]
    refine Ev.neg c (Ev.bind (ev_l11Value s) ?_)
    simp only [l1In_eq, Option.bind_some]
    by_cases h : 1 ≤ valL s.data.toList ∧ valL s.data.toList ≤ 999
    · rw [if_pos h]; exact Ev.pos (decide_eq_true h) (Ev.now _)
    · rw [if_neg h]; exact Ev.neg (by simpa using h) (Ev.now _)
def cutGo (s : ByteArray) (c : Int) : Nat → Nat → Nat → List ByteArray
  | 0, from_, i => [s.extract from_ i]
  | d + 1, from_, i => if bt s (i : Int) = c then s.extract from_ i :: cutGo s c d (i + 1) (i + 1) else cutGo s c d from_ (i + 1)
theorem ev_cutGo (s : ByteArray) (c : Int) (hs : s.size ≤ 1048576) : ∀ (d from_ i : Nat) (acc : List ByteArray), i + d = s.size → from_ ≤ i → acc.length ≤ i → Ev (fun k => spec_l11Cut.l0 k s c acc (from_ : Int) (i : Int)) (acc ++ cutGo s c d from_ i)
  | 0, from_, i, acc, h, hf, ha => by
    refine Ev.succ ?_
    simp only [spec_l11Cut.l0, cutGo]
    refine Ev.pos (by omega) (Ev.pos (by omega) (Ev.pos (by omega) (Ev.pos (by omega) (Ev.pos (by omega) (Ev.succ ?_)))))
    simp only [spec_l11Cut.l0, Int.toNat_natCast]
    rw [wid (x := (i : Int) + 1) (by omega) (by omega)]
    exact Ev.neg (by omega) (Ev.now _)
  | d + 1, from_, i, acc, h, hf, ha => by
    refine Ev.succ ?_
    simp only [spec_l11Cut.l0, cutGo, wsucc (show i < s.size by omega) (show s.size ≤ 281474976710656 by omega), Int.toNat_natCast]
    refine Ev.pos (by omega) (Ev.neg (by omega) (Ev.pos (by omega) (Ev.pos (by omega) ?_)))
    by_cases hc : bt s (i : Int) = c
    · rw [if_pos hc]
      refine Ev.pos hc (Ev.pos (by omega) (Ev.pos (by omega) (Ev.pos (by omega) ?_)))
      have := ev_cutGo s c hs d (i + 1) (i + 1) (acc ++ [s.extract from_ i]) (by omega) (by omega) (by simp; omega)
      rw [List.append_assoc] at this
      exact this
    · rw [if_neg hc]
      exact Ev.neg hc (ev_cutGo s c hs d from_ (i + 1) acc (by omega) (by omega) (by omega))
def cutS (s : ByteArray) (c : Int) : List ByteArray := cutGo s c s.size 0 0
theorem ev_l11Cut (s : ByteArray) (c : Int) (hs : s.size ≤ 1048576) : Ev (fun k => spec_l11Cut.f k s c) (cutS s c) := ev_cutGo s c hs s.size 0 0 [] (by omega) (by omega) (by simp)
/-- The first piece goes to the first place where the byte stands. -/
theorem cutGo_none (s : ByteArray) (c : Int) : ∀ (d from_ i : Nat), i + d = s.size → (∀ j : Nat, i ≤ j → j < s.size → bt s (j : Int) ≠ c) → cutGo s c d from_ i = [s.extract from_ s.size]
  | 0, from_, i, h, hn => by
    have : i = s.size := by omega
    subst this
    rfl
  | d + 1, from_, i, h, hn => by
    simp only [cutGo]
    rw [if_neg (hn i (by omega) (by omega))]
    exact cutGo_none s c d from_ (i + 1) (by omega) (fun j hj => hn j (by omega))
theorem cutGo_some (s : ByteArray) (c : Int) (p : Nat) (hp : p < s.size) (hc : bt s (p : Int) = c) : ∀ (d from_ i : Nat), i + d = s.size → i ≤ p → (∀ j : Nat, i ≤ j → j < p → bt s (j : Int) ≠ c) → cutGo s c d from_ i = s.extract from_ p :: cutGo s c (s.size - (p + 1)) (p + 1) (p + 1)
  | 0, from_, i, h, hi, hn => by omega
  | d + 1, from_, i, h, hi, hn => by
    simp only [cutGo]
    by_cases e : i = p
    · subst e
      rw [if_pos hc]
      have : d = s.size - (i + 1) := by omega
      rw [this]
    · rw [if_neg (hn i (by omega) (by omega))]
      exact cutGo_some s c p hp hc d from_ (i + 1) (by omega) (by omega) (fun j hj => hn j (by omega))
/-- strings.Cut at one byte. -/
theorem strings_Cut_none (s : ByteArray) (c : UInt8) (h : ∀ j : Nat, j < s.size → bt s (j : Int) ≠ (c.toNat : Int)) : strings_Cut.f s ⟨#[c]⟩ = some (s, ⟨#[]⟩, false) := by
  have hi : stringslite_Index.f s ⟨#[c]⟩ = some (-1) := by
    unfold stringslite_Index.f
    rw [if_pos (show (⟨#[c]⟩ : ByteArray).size = 1 from rfl)]
    rcases indexByte_bt s c with ⟨h1, _⟩ | ⟨i, h1, h2, h3, _⟩
    · simp [h1]
    · exact absurd h3 (h i h2)
  unfold strings_Cut.f stringslite_Cut.f
  simp [hi]
theorem strings_Cut_some (s : ByteArray) (c : UInt8) (p : Nat) (hp : p < s.size) (hs : s.size ≤ 1048576) (hc : bt s (p : Int) = (c.toNat : Int)) (h : ∀ j : Nat, j < p → bt s (j : Int) ≠ (c.toNat : Int)) : strings_Cut.f s ⟨#[c]⟩ = some (s.extract 0 p, s.extract (p + 1) s.size, true) := by
  have hi : stringslite_Index.f s ⟨#[c]⟩ = some (p : Int) := by
    unfold stringslite_Index.f
    rw [if_pos (show (⟨#[c]⟩ : ByteArray).size = 1 from rfl)]
    rcases indexByte_bt s c with ⟨_, h2⟩ | ⟨i, h1, h2, h3, h4⟩
    · exact absurd hc (h2 p hp)
    · have : i = p := by
        rcases Nat.lt_trichotomy i p with e | e | e
        · exact absurd h3 (h i e)
        · exact e
        · exact absurd hc (h4 p e)
      subst this
      simp [h1]
  unfold strings_Cut.f stringslite_Cut.f
  have hw : wrap64 ((p : Int) + (((⟨#[c]⟩ : ByteArray).size : Nat) : Int)) = ((p + 1 : Nat) : Int) := by
    rw [show (⟨#[c]⟩ : ByteArray).size = 1 from rfl]
    unfold wrap64; omega
  simp only [hi, Option.bind_some, hw]
  rw [if_pos (by omega), if_pos (by omega), if_pos (by omega), if_pos (by omega), if_pos (by omega)]
  simp
/-- A text cut at a byte, as lists. -/
def cutL (c : UInt8) : List UInt8 → List (List UInt8)
  | [] => [[]]
  | b :: l => if b = c then [] :: cutL c l else match cutL c l with
    | [] => [[b]]
    | h :: t => (b :: h) :: t
theorem cutL_ne (c : UInt8) (l : List UInt8) : cutL c l ≠ [] := by
  cases l with
  | nil => simp [cutL]
  | cons b l =>
    unfold cutL
    split
    · simp
    · split <;> simp
theorem cutL_none (c : UInt8) (l : List UInt8) (h : c ∉ l) : cutL c l = [l] := by
  induction l with
  | nil => rfl
  | cons b l ih =>
    rw [List.mem_cons, not_or] at h
    rw [cutL, if_neg (fun e => h.1 e.symm), ih h.2]
theorem cutL_some (c : UInt8) (a r : List UInt8) (h : c ∉ a) : cutL c (a ++ c :: r) = a :: cutL c r := by
  induction a with
  | nil => rw [List.nil_append, cutL, if_pos rfl]
  | cons b a ih =>
    rw [List.mem_cons, not_or] at h
    rw [List.cons_append, cutL, if_neg (fun e => h.1 e.symm), ih h.2]
theorem join_cutL (c : UInt8) (l : List UInt8) : Lib.join (cutL c l) [c] = l := by
  induction l with
  | nil => simp [cutL, Lib.join_one]
  | cons b l ih =>
    unfold cutL
    split
    · rename_i e
      subst e
      have hn := cutL_ne b l
      cases hc : cutL b l with
      | nil => exact absurd hc hn
      | cons h t =>
        rw [hc, Lib.join_cons] at ih
        rw [Lib.join_cons]
        simp only [Lib.joinTail, List.map_cons, List.flatten_cons, List.nil_append] at ih ⊢
        rw [List.append_assoc, ih]
        rfl
    · cases hc : cutL c l with
      | nil => exact absurd hc (cutL_ne c l)
      | cons h t =>
        rw [hc, Lib.join_cons] at ih
        simp only
        rw [Lib.join_cons, List.cons_append, ih]
theorem cutL_join (c : UInt8) (x : List UInt8) (ws : List (List UInt8)) (hx : c ∉ x) (h : ∀ w ∈ ws, c ∉ w) : cutL c (Lib.join (x :: ws) [c]) = x :: ws := by
  induction ws generalizing x with
  | nil => rw [Lib.join_one, cutL_none c x hx]
  | cons y ws ih =>
    have := ih y (h y (List.mem_cons_self ..)) (fun w hw => h w (List.mem_cons_of_mem _ hw))
    rw [Lib.join_cons] at this ⊢
    simp only [Lib.joinTail, List.map_cons, List.flatten_cons, List.singleton_append, List.cons_append] at this ⊢
    rw [cutL_some c x _ hx, List.nil_append, this]
def okRange (r : S58) : Bool := decide ((0 ≤ r.f0 ∧ r.f0 ≤ 999) ∧ (0 ≤ r.f1 ∧ r.f1 ≤ 999))
def rangesFault (x : List S58) : Int := if x.length < 1 ∨ 8 < x.length then 2 else if x.all okRange = true then 0 else 3
def wordL (r : S58) : List UInt8 := if r.f0 = r.f1 then numL r.f0 else numL r.f0 ++ (58 :: numL r.f1)
def textL (x : List S58) : List UInt8 := Lib.join (x.map wordL) [44]
theorem wordL_le {r : S58} (h : okRange r = true) : (wordL r).length ≤ 7 := by
  simp only [okRange, decide_eq_true_eq] at h
  have h0 := numL_le h.1.1 h.1.2
  have h1 := numL_le h.2.1 h.2.2
  unfold wordL
  split
  · omega
  · simp only [List.length_append, List.length_cons]; omega
theorem join_snoc (xs : List (List UInt8)) (y sep : List UInt8) : Lib.join (xs ++ [y]) sep = if xs = [] then y else Lib.join xs sep ++ (sep ++ y) := by
  cases xs with
  | nil => simp [Lib.join_one]
  | cons x r =>
    rw [if_neg (by simp), List.cons_append, Lib.join_cons, Lib.join_cons]
    simp [Lib.joinTail]
theorem textL_succ (x : List S58) (i : Nat) (h : i < x.length) : textL (x.take (i + 1)) = if i = 0 then wordL x[i] else textL (x.take i) ++ (44 :: wordL x[i]) := by
  unfold textL
  rw [List.take_succ_eq_append_getElem h, List.map_append, List.map_cons, List.map_nil, join_snoc]
  by_cases h0 : i = 0
  · subst h0; simp
  · rw [if_neg h0, if_neg (by intro he; have := congrArg List.length he; simp only [List.length_map, List.length_take, List.length_nil] at this; omega)]; rfl
theorem textL_le (x : List S58) (hx : x.all okRange = true) (i : Nat) (h : i ≤ x.length) : (textL (x.take i)).length ≤ 8 * i := by
  induction i with
  | zero => simp [textL, Lib.join_nil]
  | succ i ih =>
    have := ih (by omega)
    have hw := wordL_le (List.all_eq_true.1 hx x[i] (List.getElem_mem _))
    rw [textL_succ x i (by omega)]
    split
    · omega
    · simp only [List.length_append, List.length_cons]; omega
/-- Numbers of at most three digits, by their digits. -/
theorem dig_of (b : UInt8) (h : 48 ≤ b.toNat ∧ b.toNat ≤ 57) : ∃ d : Nat, d < 10 ∧ b = UInt8.ofNat (48 + d) ∧ b.toNat - 48 = d := by
  refine ⟨b.toNat - 48, by omega, ?_, rfl⟩
  rw [show 48 + (b.toNat - 48) = b.toNat by omega]
  exact (UInt8.ofNat_toNat).symm
theorem dig_nat {d : Nat} (h : d < 10) : (UInt8.ofNat (48 + d)).toNat = 48 + d := by rw [UInt8.toNat_ofNat']; omega
theorem decDigits_three {n : Nat} (h1 : ¬ n < 100) (h2 : n < 1000) : Lib.decDigits n = [UInt8.ofNat (48 + n / 100), UInt8.ofNat (48 + n / 10 % 10), UInt8.ofNat (48 + n % 10)] := by
  rw [Lib.decDigits, dif_neg (by omega), Lib.decDigits_two (by omega) (by omega), show n / 10 / 10 = n / 100 by omega]; rfl
theorem valGo_dig {d : Nat} (h : d < 10) (l : List UInt8) (acc : Int) : valGo (UInt8.ofNat (48 + d) :: l) acc = valGo l (acc * 10 + (d : Int)) := by
  rw [valGo, dig_nat h, if_pos (by omega), show 48 + d - 48 = d by omega]
theorem ofNat_48 {d : Nat} (h : d < 10) : (some (UInt8.ofNat (48 + d)) = some 48) ↔ d = 0 := by
  constructor
  · intro e
    have := congrArg UInt8.toNat (Option.some.inj e)
    rw [dig_nat h] at this
    have e48 : (48 : UInt8).toNat = 48 := rfl
    omega
  · intro e; subst e; rfl
theorem valL_digits (n : Nat) (h : n < 1000) : valL (Lib.decDigits n) = (n : Int) := by
  by_cases h1 : n < 10
  · rw [Lib.decDigits_one h1, valL, if_neg (by simp), valGo_dig h1, valGo]; omega
  · by_cases h2 : n < 100
    · rw [Lib.decDigits_two h1 h2, valL, if_neg, valGo_dig (by omega), valGo_dig (by omega), valGo]
      · omega
      · rintro (e | e | ⟨_, e⟩)
        · simp at e
        · simp at e
        · rw [List.head?_cons, ofNat_48 (by omega)] at e; omega
    · rw [decDigits_three h2 h, valL, if_neg, valGo_dig (by omega), valGo_dig (by omega), valGo_dig (by omega), valGo]
      · omega
      · rintro (e | e | ⟨_, e⟩)
        · simp at e
        · simp at e
        · rw [List.head?_cons, ofNat_48 (by omega)] at e; omega
theorem decDigits_ne (c : UInt8) (hc : c.toNat < 48 ∨ 57 < c.toNat) (n : Nat) (h : n < 1000) : c ∉ Lib.decDigits n := by
  have k : ∀ d : Nat, d < 10 → c ≠ UInt8.ofNat (48 + d) := fun d hd e => by
    have := congrArg UInt8.toNat e
    rw [dig_nat hd] at this
    omega
  by_cases h1 : n < 10
  · rw [Lib.decDigits_one h1]; simp only [List.mem_singleton]; exact k n h1
  · by_cases h2 : n < 100
    · rw [Lib.decDigits_two h1 h2]; simp only [List.mem_cons, List.not_mem_nil, or_false, not_or]; exact ⟨k (n / 10) (by omega), k (n % 10) (by omega)⟩
    · rw [decDigits_three h2 h]; simp only [List.mem_cons, List.not_mem_nil, or_false, not_or]; exact ⟨k (n / 100) (by omega), k (n / 10 % 10) (by omega), k (n % 10) (by omega)⟩
theorem endL_numL (a : Int) (h0 : 0 ≤ a) (h1 : a ≤ 999) : endL (numL a) = a := by
  obtain ⟨n, rfl⟩ := Int.eq_ofNat_of_zero_le h0
  unfold numL
  by_cases hz : (n : Int) = 0
  · rw [if_pos hz, hz]; rfl
  · rw [if_neg hz, Int.toNat_natCast, endL, if_neg, valL_digits n (by omega), if_pos (by omega)]
    intro e
    have := decDigits_ne 42 (by decide) n (by omega)
    rw [e] at this
    simp at this
/-- What ends well is spelt as its number is. -/
theorem numL_endL (x : List UInt8) (h : 0 ≤ endL x) : endL x ≤ 999 ∧ numL (endL x) = x := by
  unfold endL at h ⊢
  by_cases h1 : x = [42]
  · rw [if_pos h1, h1]; exact ⟨by decide, rfl⟩
  rw [if_neg h1] at h ⊢
  by_cases h2 : 1 ≤ valL x ∧ valL x ≤ 999
  case neg => rw [if_neg h2] at h; exact absurd h (by decide)
  rw [if_pos h2] at h ⊢
  refine ⟨h2.2, ?_⟩
  clear h h1
  unfold numL
  rw [if_neg (by omega)]
  unfold valL at h2 ⊢
  by_cases h3 : x.length < 1 ∨ 4 < x.length ∨ (1 < x.length ∧ x.head? = some 48)
  · rw [if_pos h3] at h2; exact absurd h2.1 (by decide)
  rw [if_neg h3] at h2 ⊢
  have step : ∀ (b : UInt8) (l : List UInt8) (acc : Int), 1 ≤ valGo (b :: l) acc → ∃ d : Nat, d < 10 ∧ b = UInt8.ofNat (48 + d) := fun b l acc hv => by
    rw [valGo] at hv
    by_cases hb : 48 ≤ b.toNat ∧ b.toNat ≤ 57
    · obtain ⟨d, h1, h2, _⟩ := dig_of b hb; exact ⟨d, h1, h2⟩
    · rw [if_neg hb] at hv; exact absurd hv (by decide)
  match x, h3, h2 with
  | [], h3, _ => exact absurd (Or.inl (by simp)) h3
  | b1 :: r1, h3, h2 =>
    obtain ⟨d1, k1, rfl⟩ := step b1 r1 0 h2.1
    rw [valGo_dig k1] at h2 ⊢
    match r1, h3, h2 with
    | [], h3, h2 =>
      rw [valGo] at h2 ⊢
      rw [show ((0 : Int) * 10 + (d1 : Int)).toNat = d1 by omega, Lib.decDigits_one k1]
    | b2 :: r2, h3, h2 =>
      have hd1 : d1 ≠ 0 := fun e => h3 (Or.inr (Or.inr ⟨by simp, by rw [List.head?_cons, ofNat_48 k1]; exact e⟩))
      obtain ⟨d2, k2, rfl⟩ := step b2 r2 _ h2.1
      rw [valGo_dig k2] at h2 ⊢
      match r2, h3, h2 with
      | [], h3, h2 =>
        rw [valGo] at h2 ⊢
        rw [show (((0 : Int) * 10 + (d1 : Int)) * 10 + (d2 : Int)).toNat = d1 * 10 + d2 by omega, Lib.decDigits_two (by omega) (by omega), show (d1 * 10 + d2) / 10 = d1 by omega, show (d1 * 10 + d2) % 10 = d2 by omega]
      | b3 :: r3, h3, h2 =>
        obtain ⟨d3, k3, rfl⟩ := step b3 r3 _ h2.1
        rw [valGo_dig k3] at h2 ⊢
        match r3, h3, h2 with
        | [], h3, h2 =>
          rw [valGo] at h2 ⊢
          rw [show ((((0 : Int) * 10 + (d1 : Int)) * 10 + (d2 : Int)) * 10 + (d3 : Int)).toNat = d1 * 100 + d2 * 10 + d3 by omega, decDigits_three (by omega) (by omega), show (d1 * 100 + d2 * 10 + d3) / 100 = d1 by omega, show (d1 * 100 + d2 * 10 + d3) / 10 % 10 = d2 by omega, show (d1 * 100 + d2 * 10 + d3) % 10 = d3 by omega]
        | b4 :: r4, h3, h2 =>
          obtain ⟨d4, k4, rfl⟩ := step b4 r4 _ h2.1
          rw [valGo_dig k4] at h2
          match r4, h3, h2 with
          | [], h3, h2 => rw [valGo] at h2; omega
          | b5 :: r5, h3, _ => exact absurd (Or.inr (Or.inl (by simp))) h3
theorem numL_ne (c : UInt8) (hc : c.toNat < 48 ∨ 57 < c.toNat) (h42 : c ≠ 42) (a : Int) (h0 : 0 ≤ a) (h1 : a ≤ 999) : c ∉ numL a := by
  unfold numL
  by_cases hz : a = 0
  · rw [if_pos hz]; simpa using h42
  · rw [if_neg hz]; exact decDigits_ne c hc _ (by omega)
theorem split_at {l : List UInt8} {i : Nat} {c : UInt8} (h : i < l.length) (hc : l[i] = c) : l = l.take i ++ c :: l.drop (i + 1) := by
  subst hc
  rw [List.getElem_cons_drop, List.take_append_drop]
theorem not_mem_take {l : List UInt8} {i : Nat} {c : UInt8} (h : i < l.length) (hn : ∀ j (hj : j < i), l[j]'(by omega) ≠ c) : c ∉ l.take i := by
  intro hm
  obtain ⟨j, hj, he⟩ := List.mem_iff_getElem.1 hm
  have hji : j < i := by simp only [List.length_take] at hj; omega
  rw [List.getElem_take] at he
  exact hn j hji he
theorem extract_to (s : ByteArray) (i : Nat) : (s.extract 0 i).data.toList = s.data.toList.take i := by
  rw [Lib.extract_data, List.drop_zero, Nat.sub_zero]
theorem extract_from (s : ByteArray) (i : Nat) : (s.extract i s.size).data.toList = s.data.toList.drop i := by
  rw [Lib.extract_data]
  apply List.take_of_length_le
  rw [List.length_drop, ← Lib.size_eq]
  exact Nat.le_refl _
theorem split_cut (c : UInt8) : ∀ (k : Nat) (s : ByteArray), (cutL c s.data.toList).length ≤ k + 1 → (Lib.splitB ⟨#[c]⟩ 0 k s).map (·.data.toList) = cutL c s.data.toList
  | 0, s, h => by
    have hj := join_cutL c s.data.toList
    cases hc : cutL c s.data.toList with
    | nil => exact absurd hc (cutL_ne _ _)
    | cons x t =>
      rw [hc] at h hj
      have : t = [] := List.eq_nil_of_length_eq_zero (by simp only [List.length_cons] at h; omega)
      subst this
      rw [Lib.join_one] at hj
      rw [Lib.splitB_zero, hj]
      rfl
  | k + 1, s, h => by
    rcases indexByte_spec s.data.toList c with ⟨h1, h2⟩ | ⟨i, h1, h2, h3, h4⟩
    · rw [Lib.splitB_miss _ _ _ _ (by change Lib.index _ [c] = _; rw [Lib.index_one]; exact h1), cutL_none c _ (fun hm => by obtain ⟨j, hj, he⟩ := List.mem_iff_getElem.1 hm; exact h2 j hj he)]
      rfl
    · have e := split_at h2 h3
      have hn := not_mem_take h2 h4
      have hcut : cutL c s.data.toList = s.data.toList.take i :: cutL c (s.data.toList.drop (i + 1)) := by
        rw [show cutL c s.data.toList = cutL c (s.data.toList.take i ++ c :: s.data.toList.drop (i + 1)) by rw [← e]]
        exact cutL_some c _ _ hn
      rw [Lib.splitB_hit _ _ _ _ i (by change Lib.index _ [c] = _; rw [Lib.index_one]; exact h1), hcut]
      rw [hcut, List.length_cons, ← extract_from] at h
      rw [List.map_cons, Nat.add_zero, extract_to, show (⟨#[c]⟩ : ByteArray).size = 1 from rfl, split_cut c k (s.extract (i + 1) s.size) (by omega), extract_from]
theorem cutGo_list (s : ByteArray) (c : UInt8) : ∀ (d from_ i : Nat), i + d = s.size → from_ ≤ i → (cutGo s (c.toNat : Int) d from_ i).map (·.data.toList) =
    match cutL c (s.data.toList.drop i) with
    | [] => []
    | h :: t => ((s.extract from_ i).data.toList ++ h) :: t
  | 0, from_, i, h, hf => by
    have : s.data.toList.drop i = [] := List.drop_eq_nil_of_le (by rw [← Lib.size_eq]; omega)
    rw [this]
    simp [cutGo, cutL]
  | d + 1, from_, i, h, hf => by
    have hl : i < s.data.toList.length := by rw [← Lib.size_eq]; omega
    rw [List.drop_eq_getElem_cons hl]
    have hb := bt_list s i hl
    simp only [cutGo, cutL, hb]
    by_cases hc : s.data.toList[i] = c
    · rw [if_pos hc, if_pos (by rw [hc]), List.map_cons, cutGo_list s c d (i + 1) (i + 1) (by omega) (Nat.le_refl _)]
      have hn := cutL_ne c (s.data.toList.drop (i + 1))
      cases hq : cutL c (s.data.toList.drop (i + 1)) with
      | nil => exact absurd hq hn
      | cons x t =>
        rw [Lib.extract_data s (i + 1) (i + 1), Nat.sub_self]
        simp
    · rw [if_neg hc, if_neg (fun e => hc (UInt8.toNat_inj.1 (by exact_mod_cast e))), cutGo_list s c d from_ (i + 1) (by omega) (by omega)]
      have hn := cutL_ne c (s.data.toList.drop (i + 1))
      cases hq : cutL c (s.data.toList.drop (i + 1)) with
      | nil => exact absurd hq hn
      | cons x t =>
        simp only
        rw [Lib.extract_data, Lib.extract_data]
        have ht : (s.data.toList.drop from_).take (i + 1 - from_) = (s.data.toList.drop from_).take (i - from_) ++ [s.data.toList[i]] := by
          rw [show i + 1 - from_ = (i - from_) + 1 by omega, List.take_succ_eq_append_getElem (by rw [List.length_drop]; omega)]
          congr 2
          rw [List.getElem_drop]
          congr 1
          omega
        rw [ht, List.append_assoc]
        rfl
theorem cutS_list (s : ByteArray) (c : UInt8) : (cutS s (c.toNat : Int)).map (·.data.toList) = cutL c s.data.toList := by
  unfold cutS
  rw [cutGo_list s c s.size 0 0 (by omega) (Nat.le_refl _), List.drop_zero]
  cases hq : cutL c s.data.toList with
  | nil => exact absurd hq (cutL_ne _ _)
  | cons x t => rw [Lib.extract_data]; simp
/-- What impl.readEnd makes of a piece. -/
def readEndF (l : List UInt8) : Int × Bool := if l = [42] then (0, true) else ((impl_readNumber.p (ba l)).1, (impl_readNumber.p (ba l)).2 && decide (0 ≤ (impl_readNumber.p (ba l)).1 ∧ (impl_readNumber.p (ba l)).1 ≤ 9999) && decide (Lib.itoa (impl_readNumber.p (ba l)).1 = l) && decide ((impl_readNumber.p (ba l)).1 > 0))
theorem ba_of (s : ByteArray) : ba s.data.toList = s := by
  apply ByteArray.ext
  simp [ba]
theorem readEnd_eq (s : ByteArray) (hs : s.size ≤ 1048576) : impl_readEnd.f s = some (readEndF s.data.toList) := by
  unfold impl_readEnd.f readEndF
  rw [ByteArray.toList_eq]
  by_cases h : s.data.toList = [42]
  · rw [if_pos h, if_pos h]
  rw [if_neg h, if_neg h, ba_of]
  unfold impl_readNumber.f
  have hb : (impl_readNumber.p s).2 = true → -9223372036854775808 ≤ (impl_readNumber.p s).1 ∧ (impl_readNumber.p s).1 ≤ 9223372036854775807 := by
    unfold impl_readNumber.p
    cases hp : Lib.parseIntB 64 s.data.toList with
    | ok v =>
      intro _
      have := Lib.parseIntB_bounds hp
      have e : (2 : Nat) ^ (64 - 1) = 9223372036854775808 := by decide
      rw [e] at this
      dsimp only
      omega
    | «syntax» => intro h; cases h
    | range => intro h; cases h
  rw [if_pos ⟨by omega, hb⟩]
  simp only [Option.bind_some]
  split
  · rename_i hc; rw [hc]; simp
  · rename_i hc; simp only [Bool.not_eq_true] at hc; rw [hc]; simp
theorem parse_num (n : Nat) (h : n < 1000) : Lib.parseIntB 64 (Lib.decDigits n) = .ok (n : Int) := by
  have hd := parse_digits n h
  have hne : Lib.decDigits n ≠ [] := by
    intro e
    rw [e] at hd
    simp [Lib.parseUintB] at hd
  cases hc : Lib.decDigits n with
  | nil => exact absurd hc hne
  | cons c r =>
    have m43 := decDigits_ne 43 (by decide) n h
    have m45 := decDigits_ne 45 (by decide) n h
    rw [hc, List.mem_cons, not_or] at m43 m45
    rw [Lib.parseIntB_plain 64 c r (fun e => m43.1 (UInt8.toNat_inj.1 e.symm)) (fun e => m45.1 (UInt8.toNat_inj.1 e.symm)), ← hc, hd, Lib.signlessC]
    exact if_neg (by omega)
theorem readEndF_numL (a : Int) (h0 : 0 ≤ a) (h1 : a ≤ 999) : readEndF (numL a) = (a, true) := by
  obtain ⟨n, rfl⟩ := Int.eq_ofNat_of_zero_le h0
  unfold numL
  by_cases hz : (n : Int) = 0
  · rw [if_pos hz, hz]; rfl
  rw [if_neg hz, Int.toNat_natCast, readEndF, if_neg]
  · have hp : impl_readNumber.p (ba (Lib.decDigits n)) = ((n : Int), true) := by
      unfold impl_readNumber.p
      rw [ba_data, parse_num n (by omega)]
    rw [hp, Lib.itoa_nonneg]
    dsimp only
    rw [decide_eq_true (show 0 ≤ (n : Int) ∧ (n : Int) ≤ 9999 by omega), decide_eq_true rfl, decide_eq_true (show (n : Int) > 0 by omega)]
    rfl
  · intro e
    have := decDigits_ne 42 (by decide) n (by omega)
    rw [e] at this
    simp at this
/-- A range's two halves, as strings.Cut has them. -/
def halves (l : List UInt8) : List UInt8 × List UInt8 := match cutL 58 l with
  | [] => ([], [])
  | [x] => (x, x)
  | x :: y :: r => (x, Lib.join (y :: r) [58])
theorem cut_halves (s : ByteArray) (hs : s.size ≤ 1048576) : ∃ a b two, strings_Cut.f s ⟨#[58]⟩ = some (a, b, two) ∧ a.size ≤ s.size ∧ b.size ≤ s.size ∧ halves s.data.toList = (a.data.toList, if two = true then b.data.toList else a.data.toList) := by
  by_cases hn : ∀ j : Nat, j < s.size → bt s (j : Int) ≠ (((58 : UInt8).toNat : Nat) : Int)
  · refine ⟨s, ⟨#[]⟩, false, strings_Cut_none s 58 hn, Nat.le_refl _, Nat.zero_le _, ?_⟩
    have : cutL 58 s.data.toList = [s.data.toList] := cutL_none 58 _ (fun hm => by
      obtain ⟨j, hj, he⟩ := List.mem_iff_getElem.1 hm
      have h1 := bt_list s j hj
      exact hn j (by rw [Lib.size_eq]; exact hj) (by rw [h1, he]))
    rw [halves, this]
    simp
  · have hx : ∃ p : Nat, p < s.size ∧ bt s (p : Int) = (((58 : UInt8).toNat : Nat) : Int) ∧ ∀ j : Nat, j < p → bt s (j : Int) ≠ (((58 : UInt8).toNat : Nat) : Int) := by
      rcases indexByte_bt s 58 with ⟨_, h2⟩ | ⟨i, _, h2, h3, h4⟩
      · exact absurd h2 hn
      · exact ⟨i, h2, h3, h4⟩
    obtain ⟨p, hp, hc, hj⟩ := hx
    refine ⟨_, _, _, strings_Cut_some s 58 p hp hs hc hj, by rw [ByteArray.size_extract]; omega, by rw [ByteArray.size_extract]; omega, ?_⟩
    have hl : p < s.data.toList.length := by rw [← Lib.size_eq]; exact hp
    have inj : ∀ j (hj' : j < s.data.toList.length), bt s (j : Int) = (((58 : UInt8).toNat : Nat) : Int) ↔ s.data.toList[j] = 58 := fun j hj' => by
      rw [bt_list s j hj']
      constructor
      · intro e; exact UInt8.toNat_inj.1 (by exact_mod_cast e)
      · intro e; rw [e]
    have e := split_at hl ((inj p hl).1 hc)
    have hm := not_mem_take hl (c := 58) (fun j hjp he => hj j hjp ((inj j (by omega)).2 he))
    have hcut : cutL 58 s.data.toList = s.data.toList.take p :: cutL 58 (s.data.toList.drop (p + 1)) := by
      rw [show cutL 58 s.data.toList = cutL 58 (s.data.toList.take p ++ 58 :: s.data.toList.drop (p + 1)) by rw [← e]]
      exact cutL_some 58 _ _ hm
    have hjn := join_cutL 58 (s.data.toList.drop (p + 1))
    cases hq : cutL 58 (s.data.toList.drop (p + 1)) with
    | nil => exact absurd hq (cutL_ne _ _)
    | cons y r =>
      rw [hq] at hjn hcut
      rw [halves, hcut, extract_to, extract_from]
      simp [hjn]
/-- A range out of its ends, as the specification reads it. -/
def endsP (es : List (List UInt8)) : Option S58 :=
  if (es.length : Int) > 2 then none else if endL (es.headD []) < 0 then none else if endL (es.getLastD []) < 0 then none else
  if (es.length : Int) = 2 then (if endL (es.headD []) = endL (es.getLastD []) then none else some ⟨endL (es.headD []), endL (es.getLastD [])⟩) else some ⟨endL (es.headD []), endL (es.getLastD [])⟩
def wordP (w : List UInt8) : Option S58 := endsP (cutL 58 w)
def wordsP : List (List UInt8) → Option (List S58)
  | [] => some []
  | w :: ws => match wordP w with
    | none => none
    | some r => match wordsP ws with
      | none => none
      | some rs => some (r :: rs)
/-- A range as the program reads it. -/
def wordI (w : List UInt8) : Option S58 := if (readEndF (halves w).1).2 = true then (if (readEndF (halves w).2).2 = true then some ⟨(readEndF (halves w).1).1, (readEndF (halves w).2).1⟩ else none) else none
def wordsI : List (List UInt8) → Option (List S58)
  | [] => some []
  | w :: ws => match wordI w with
    | none => none
    | some r => match wordsI ws with
      | none => none
      | some rs => some (r :: rs)
theorem wordP_some {w : List UInt8} {r : S58} (h : wordP w = some r) : okRange r = true ∧ wordL r = w ∧ wordI w = some r := by
  have hj := join_cutL 58 w
  unfold wordP endsP at h
  have hh : halves w = match cutL 58 w with | [] => ([], []) | [x] => (x, x) | x :: y :: q => (x, Lib.join (y :: q) [58]) := rfl
  cases hc : cutL 58 w with
  | nil => exact absurd hc (cutL_ne _ _)
  | cons x t =>
    rw [hc] at h hj hh
    cases t with
    | nil =>
      rw [Lib.join_one] at hj
      subst hj
      simp only [List.length_cons, List.length_nil, List.headD_cons, List.getLastD_cons, List.getLastD_nil] at h
      rw [if_neg (by omega)] at h
      by_cases ha : endL x < 0
      · rw [if_pos ha] at h; cases h
      rw [if_neg ha, if_neg ha, if_neg (by omega)] at h
      cases h
      obtain ⟨h1, h2⟩ := numL_endL x (by omega)
      refine ⟨?_, ?_, ?_⟩
      · simp only [okRange, decide_eq_true_eq]; omega
      · simp only [wordL, if_true]; exact h2
      · have hr := readEndF_numL (endL x) (by omega) h1
        rw [h2] at hr
        unfold wordI
        simp only [hh, hr, if_true]
    | cons y t =>
      cases t with
      | cons z t =>
        rw [if_pos (by simp only [List.length_cons]; omega)] at h; cases h
      | nil =>
        simp only [List.length_cons, List.length_nil, List.headD_cons, List.getLastD_cons, List.getLastD_nil] at h
        rw [if_neg (by omega)] at h
        by_cases ha : endL x < 0
        · rw [if_pos ha] at h; cases h
        rw [if_neg ha] at h
        by_cases hb : endL y < 0
        · rw [if_pos hb] at h; cases h
        rw [if_neg hb, if_pos (by omega)] at h
        by_cases hab : endL x = endL y
        · rw [if_pos hab] at h; cases h
        rw [if_neg hab] at h
        cases h
        obtain ⟨h1, h2⟩ := numL_endL x (by omega)
        obtain ⟨h3, h4⟩ := numL_endL y (by omega)
        refine ⟨?_, ?_, ?_⟩
        · simp only [okRange, decide_eq_true_eq]; omega
        · simp only [wordL]
          rw [if_neg hab, h2, h4]
          rw [← hj, Lib.join_cons]
          simp [Lib.joinTail]
        · have hr := readEndF_numL (endL x) (by omega) h1
          have hr2 := readEndF_numL (endL y) (by omega) h3
          rw [h2] at hr
          rw [h4] at hr2
          unfold wordI
          simp only [hh, Lib.join_one, hr, hr2, if_true]
theorem numL_58 {a : Int} (h0 : 0 ≤ a) (h1 : a ≤ 999) : (58 : UInt8) ∉ numL a := numL_ne 58 (by decide) (by decide) a h0 h1
theorem numL_44 {a : Int} (h0 : 0 ≤ a) (h1 : a ≤ 999) : (44 : UInt8) ∉ numL a := numL_ne 44 (by decide) (by decide) a h0 h1
theorem wordL_44 {r : S58} (h : okRange r = true) : (44 : UInt8) ∉ wordL r := by
  simp only [okRange, decide_eq_true_eq] at h
  have h0 := numL_44 h.1.1 h.1.2
  have h1 := numL_44 h.2.1 h.2.2
  unfold wordL
  split
  · exact h0
  · simp only [List.mem_append, List.mem_cons, not_or]
    exact ⟨h0, by decide, h1⟩
theorem wordP_wordL {r : S58} (h : okRange r = true) : wordP (wordL r) = some r := by
  obtain ⟨a, b⟩ := r
  simp only [okRange, decide_eq_true_eq] at h
  have e0 := endL_numL a h.1.1 h.1.2
  have e1 := endL_numL b h.2.1 h.2.2
  unfold wordP wordL
  by_cases hab : a = b
  · subst hab
    simp only [if_true]
    rw [cutL_none 58 _ (numL_58 h.1.1 h.1.2)]
    unfold endsP
    simp only [List.length_cons, List.length_nil, List.headD_cons, List.getLastD_cons, List.getLastD_nil, e0]
    rw [if_neg (by omega), if_neg (by omega), if_neg (by omega), if_neg (by omega)]
  · simp only [hab, if_false]
    rw [cutL_some 58 _ _ (numL_58 h.1.1 h.1.2), cutL_none 58 _ (numL_58 h.2.1 h.2.2)]
    unfold endsP
    simp only [List.length_cons, List.length_nil, List.headD_cons, List.getLastD_cons, List.getLastD_nil, e0, e1]
    rw [if_neg (by omega), if_neg (by omega), if_neg (by omega), if_pos (by omega), if_neg hab]
theorem wordsP_some : ∀ {ws : List (List UInt8)} {rs : List S58}, wordsP ws = some rs → rs.all okRange = true ∧ rs.map wordL = ws ∧ wordsI ws = some rs
  | [], rs, h => by cases h; exact ⟨rfl, rfl, rfl⟩
  | w :: ws, rs, h => by
    unfold wordsP at h
    cases hw : wordP w with
    | none => rw [hw] at h; cases h
    | some r =>
      cases hs : wordsP ws with
      | none => rw [hw, hs] at h; cases h
      | some q =>
        rw [hw, hs] at h
        cases h
        obtain ⟨h1, h2, h3⟩ := wordP_some hw
        obtain ⟨k1, k2, k3⟩ := wordsP_some hs
        refine ⟨by simp [h1, k1], by simp [h2, k2], ?_⟩
        unfold wordsI
        rw [h3, k3]
theorem wordsP_words : ∀ {rs : List S58}, rs.all okRange = true → wordsP (rs.map wordL) = some rs
  | [], _ => rfl
  | r :: rs, h => by
    simp only [List.all_cons, Bool.and_eq_true] at h
    unfold wordsP
    simp only [List.map_cons, wordP_wordL h.1, wordsP_words h.2]
theorem endText_eq (n : Int) (h0 : 0 ≤ n) (h1 : n ≤ 999) : impl_endText.f n = some (ba (numL n)) := by
  unfold impl_endText.f impl_decimal.f strconv_FormatInt.f numL
  by_cases h : n = 0
  · rw [if_pos h, if_pos h]; rfl
  · rw [if_neg h, if_neg h, if_pos ⟨rfl, by omega, by omega⟩]
    obtain ⟨m, rfl⟩ := Int.eq_ofNat_of_zero_le h0
    simp only [Option.bind_some, Lib.itoa_nonneg, Int.toNat_natCast]
    rfl
theorem ev_setText (x : List S58) (hl : x.length ≤ 8) (hx : x.all okRange = true) : Ev (fun k => impl_setText.f k x) (ba (textL x)) := by
  unfold impl_setText.f
  have h := ev_iter (fun k (s : List ByteArray) i => impl_setText.l0 k s x (x.length : Int) i) x.length (fun i => (x.take i).map (fun r => ba (wordL r))) (ba (textL x)) ?_ ?_
  · simpa using h
  · refine Ev.succ ?_
    simp only [impl_setText.l0, Int.lt_irrefl, if_false, List.take_length]
    have e : ((x.map (fun r => ba (wordL r))).map (fun y => y.data.toList)) = x.map wordL := by
      rw [List.map_map]
      exact List.map_congr_left (fun r _ => ba_data _)
    have hj : strings_Join.f (x.map (fun r => ba (wordL r))) (⟨#[44]⟩ : ByteArray) = some (ba (textL x)) := by
      unfold strings_Join.f
      rw [e]
      have ht := textL_le x hx x.length (Nat.le_refl _)
      rw [List.take_length] at ht
      rw [if_pos ⟨by rw [List.length_map]; omega, by change (textL x).length ≤ _; omega⟩]
      rfl
    rw [hj]
    exact Ev.now _
  · intro i hi r h
    have hk := List.all_eq_true.1 hx x[i] (List.getElem_mem _)
    simp only [okRange, decide_eq_true_eq] at hk
    have h0 := numL_le hk.1.1 hk.1.2
    have h1 := numL_le hk.2.1 hk.2.2
    refine Ev.succ ?_
    simp only [impl_setText.l0, rd_Range_get x i hi, endText_eq _ hk.1.1 hk.1.2, endText_eq _ hk.2.1 hk.2.2, Option.bind_some, wsucc hi (show x.length ≤ 281474976710656 by omega), List.length_map, List.length_take]
    refine Ev.pos (by omega) (Ev.pos (by omega) (Ev.pos (by omega) ?_))
    rw [List.take_succ_eq_append_getElem hi, List.map_append, List.map_cons, List.map_nil] at h
    unfold wordL at h
    by_cases hq : x[i].f0 = x[i].f1
    · rw [if_pos hq] at h
      exact Ev.pos hq (Ev.pos (by omega) h)
    · rw [if_neg hq] at h
      refine Ev.neg hq (Ev.pos (by rw [ba_size]; omega) ?_)
      rw [show (⟨#[58]⟩ : ByteArray) ++ ba (numL x[i].f1) = ba (58 :: numL x[i].f1) from ba_append [58] _]
      refine Ev.pos (by rw [ba_size, ba_size, List.length_cons]; omega) (Ev.pos (by omega) ?_)
      rw [ba_append]
      exact h
theorem ev_implRangesFault (x : List S58) (hx : x.length ≤ 1048576) : Ev (fun k => impl_RangesFault.f k x) (rangesFault x) := by
  unfold impl_RangesFault.f rangesFault
  simp only [impl_Range.f, within_eq, Option.bind_some]
  by_cases h1 : x.length < 1 ∨ 8 < x.length
  · rw [if_pos h1]
    exact Ev.neg (by simp; omega) (Ev.now _)
  rw [if_neg h1]
  refine Ev.pos (decide_eq_true (by omega)) ?_
  have h := ev_find (fun k i => impl_RangesFault.l0 k x (x.length : Int) i) x (fun r => if okRange r = true then none else some 3) 0 ?_ ?_ ?_
  · rw [find_guard] at h; exact h
  · refine Ev.succ ?_
    simp only [impl_RangesFault.l0, Int.lt_irrefl, if_false]
    exact Ev.now _
  · intro i hi r hr
    by_cases hok : okRange x[i] = true
    · rw [if_pos hok] at hr; cases hr
    rw [if_neg hok] at hr; cases hr
    simp only [okRange, decide_eq_true_eq] at hok
    refine Ev.succ ?_
    simp only [impl_RangesFault.l0, rd_Range_get x i hi, within_eq, Option.bind_some]
    refine Ev.pos (by omega) (Ev.pos (by omega) (Ev.pos (by omega) ?_))
    by_cases ha : 0 ≤ x[i].f0 ∧ x[i].f0 ≤ 999
    · refine Ev.pos (decide_eq_true ha) (Ev.neg ?_ (Ev.now _))
      simp only [decide_eq_true_eq]; exact fun hb => hok ⟨ha, hb⟩
    · exact Ev.neg (by simpa using ha) (Ev.now _)
  · intro i hi hr r h
    by_cases hok : okRange x[i] = true
    case neg => rw [if_neg hok] at hr; cases hr
    simp only [okRange, decide_eq_true_eq] at hok
    refine Ev.succ ?_
    simp only [impl_RangesFault.l0, rd_Range_get x i hi, within_eq, Option.bind_some]
    refine Ev.pos (by omega) (Ev.pos (by omega) (Ev.pos (by omega) (Ev.pos (decide_eq_true hok.1) (Ev.pos (decide_eq_true hok.2) ?_))))
    simp only [wsucc hi (show x.length ≤ 281474976710656 by omega)]
    exact h
theorem cutL_length (c : UInt8) : ∀ l : List UInt8, (cutL c l).length ≤ l.length + 1
  | [] => by simp [cutL]
  | b :: l => by
    have := cutL_length c l
    unfold cutL
    split
    · simp only [List.length_cons]; omega
    · cases h : cutL c l with
      | nil => simp
      | cons x t => rw [h] at this; simp only [List.length_cons] at this ⊢; omega
theorem cutGo_size (s : ByteArray) (c : Int) : ∀ (d f i : Nat), ∀ p ∈ cutGo s c d f i, p.size ≤ s.size
  | 0, f, i, p, hp => by
    simp only [cutGo, List.mem_singleton] at hp
    subst hp
    rw [ByteArray.size_extract]; omega
  | d + 1, f, i, p, hp => by
    simp only [cutGo] at hp
    split at hp
    · rcases List.mem_cons.1 hp with h | h
      · subst h; rw [ByteArray.size_extract]; omega
      · exact cutGo_size s c d _ _ p h
    · exact cutGo_size s c d _ _ p hp
theorem splitB_size (sep : ByteArray) : ∀ (k : Nat) (s : ByteArray), ∀ p ∈ Lib.splitB sep 0 k s, p.size ≤ s.size
  | 0, s, p, hp => by
    rw [Lib.splitB_zero, List.mem_singleton] at hp
    subst hp; exact Nat.le_refl _
  | k + 1, s, p, hp => by
    unfold Lib.splitB at hp
    split at hp
    · rw [List.mem_singleton] at hp
      subst hp; exact Nat.le_refl _
    · rcases List.mem_cons.1 hp with h | h
      · subst h; rw [ByteArray.size_extract]; omega
      · have := splitB_size sep k _ p h
        rw [ByteArray.size_extract] at this; omega
theorem specLoop (W : List ByteArray) (hw : ∀ w ∈ W, w.size ≤ 1048576) (hW : W.length ≤ 1048577) : ∀ (d i : Nat) (acc : List S58), i + d = W.length → acc.length = i →
    Ev (fun k => spec_l11Parse.l0 k acc W (i : Int)) (match wordsP ((W.drop i).map (·.data.toList)) with | none => ([], false) | some rs => (acc ++ rs, decide (((acc ++ rs).length : Int) ≤ 8)))
  | 0, i, acc, h, ha => by
    rw [List.drop_eq_nil_of_le (by omega)]
    refine Ev.succ ?_
    simp only [spec_l11Parse.l0, List.map_nil, wordsP, List.append_nil]
    exact Ev.neg (by omega) (Ev.now _)
  | d + 1, i, acc, h, ha => by
    have hi : i < W.length := by omega
    have hs := hw W[i] (List.getElem_mem _)
    rw [List.drop_eq_getElem_cons hi, List.map_cons]
    refine Ev.succ ?_
    simp only [spec_l11Parse.l0, rdOf_get _ W i hi, wsucc hi (show W.length ≤ 281474976710656 by omega)]
    refine Ev.pos (by omega) (Ev.pos (by omega) (Ev.bind (ev_l11Cut W[i] 58 hs) ?_))
    have hl : (cutS W[i] 58).map (·.data.toList) = cutL 58 W[i].data.toList := cutS_list W[i] 58
    have hlen := congrArg List.length hl
    have hne := cutL_ne 58 W[i].data.toList
    rw [List.length_map] at hlen
    have hle := cutL_length 58 W[i].data.toList
    rw [← Lib.size_eq] at hle
    have e1 : wrap64 (((cutS W[i] 58).length : Int) - 1) = (((cutS W[i] 58).length - 1 : Nat) : Int) := by
      have : 0 < (cutS W[i] 58).length := by rw [hlen]; exact List.length_pos_iff.2 hne
      rw [wid (by omega) (by omega)]; omega
    have hpos : 0 < (cutS W[i] 58).length := by rw [hlen]; exact List.length_pos_iff.2 hne
    rw [e1]
    rw [show (0 : Int) = ((0 : Nat) : Int) from rfl, rdOf_get _ (cutS W[i] 58) 0 hpos, rdOf_get _ (cutS W[i] 58) ((cutS W[i] 58).length - 1) (by omega)]
    have hA : endL (cutS W[i] 58)[0].data.toList = endL ((cutL 58 W[i].data.toList).headD []) := by
      rw [← hl, ← List.head_eq_getElem (List.ne_nil_of_length_pos hpos), List.headD_eq_head?_getD, List.head?_map, List.head?_eq_some_head (List.ne_nil_of_length_pos hpos)]
      rfl
    have hB : endL ((cutS W[i] 58)[(cutS W[i] 58).length - 1]'(by omega)).data.toList = endL ((cutL 58 W[i].data.toList).getLastD []) := by
      rw [← hl, ← List.getLast_eq_getElem (by intro e; rw [e] at hpos; simp at hpos), List.getLastD_eq_getLast?, List.getLast?_map, List.getLast?_eq_some_getLast (by intro e; rw [e] at hpos; simp at hpos)]
      rfl
    refine Ev.pos (by omega) (Ev.bind (ev_l11End _) (Ev.pos (by omega) (Ev.pos (by omega) (Ev.bind (ev_l11End _) ?_))))
    rw [hA, hB]
    have hP : wordP W[i].data.toList = endsP (cutL 58 W[i].data.toList) := rfl
    unfold endsP at hP
    rw [hlen]
    simp only [wordsP]
    have on : ∀ r : S58, wordP W[i].data.toList = some r → Ev (fun k => if acc.length < 8796093022208 then spec_l11Parse.l0 k (acc ++ [r]) W ((i + 1 : Nat) : Int) else none) (match (match wordP W[i].data.toList with | none => none | some r => match wordsP ((W.drop (i + 1)).map (·.data.toList)) with | none => none | some rs => some (r :: rs)) with | none => ([], false) | some rs => (acc ++ rs, decide (((acc ++ rs).length : Int) ≤ 8))) := by
      intro r hr
      have ih := specLoop W hw hW d (i + 1) (acc ++ [r]) (by omega) (by simp; omega)
      rw [hr]
      refine Ev.pos (by omega) ?_
      cases hq : wordsP ((W.drop (i + 1)).map (·.data.toList)) with
      | none => rw [hq] at ih; exact ih
      | some rs => rw [hq] at ih; simp only [List.append_assoc, List.singleton_append] at ih; exact ih
    have off : wordP W[i].data.toList = none → Ev (fun k => some (([] : List S58), false)) (match (match wordP W[i].data.toList with | none => none | some r => match wordsP ((W.drop (i + 1)).map (·.data.toList)) with | none => none | some rs => some (r :: rs)) with | none => ([], false) | some rs => (acc ++ rs, decide (((acc ++ rs).length : Int) ≤ 8))) := by
      intro hr
      rw [hr]
      exact Ev.now _
    by_cases c1 : ((cutL 58 W[i].data.toList).length : Int) > 2
    · rw [if_pos c1] at hP
      exact Ev.pos c1 (off hP)
    rw [if_neg c1] at hP
    refine Ev.neg c1 ?_
    by_cases c2 : endL ((cutL 58 W[i].data.toList).headD []) < 0
    · rw [if_pos c2] at hP
      exact Ev.pos c2 (off hP)
    rw [if_neg c2] at hP
    refine Ev.neg c2 ?_
    by_cases c3 : endL ((cutL 58 W[i].data.toList).getLastD []) < 0
    · rw [if_pos c3] at hP
      exact Ev.pos c3 (off hP)
    rw [if_neg c3] at hP
    refine Ev.neg c3 ?_
    by_cases c4 : ((cutL 58 W[i].data.toList).length : Int) = 2
    · rw [if_pos c4] at hP
      refine Ev.pos c4 ?_
      by_cases c5 : endL ((cutL 58 W[i].data.toList).headD []) = endL ((cutL 58 W[i].data.toList).getLastD [])
      · rw [if_pos c5] at hP
        exact Ev.pos c5 (off hP)
      · rw [if_neg c5] at hP
        exact Ev.neg c5 (on _ hP)
    · rw [if_neg c4] at hP
      exact Ev.neg c4 (on _ hP)
def parseS (t : List UInt8) : List S58 × Bool := match wordsP (cutL 44 t) with | none => ([], false) | some rs => (rs, decide ((rs.length : Int) ≤ 8))
theorem ev_l11Parse (t : ByteArray) (ht : t.size ≤ 1048576) : Ev (fun k => spec_l11Parse.f k t) (parseS t.data.toList) := by
  unfold spec_l11Parse.f parseS
  have hl : (cutS t 44).map (·.data.toList) = cutL 44 t.data.toList := cutS_list t 44
  have hlen := congrArg List.length hl
  rw [List.length_map] at hlen
  have hle := cutL_length 44 t.data.toList
  rw [← Lib.size_eq] at hle
  refine Ev.bind (ev_l11Cut t 44 ht) ?_
  have := specLoop (cutS t 44) (fun w hw => Nat.le_trans (cutGo_size t 44 _ _ _ w hw) ht) (by omega) (cutS t 44).length 0 [] (by omega) rfl
  rw [List.drop_zero, hl] at this
  exact this
/-- What the program says of what it read. -/
def finR (t : List UInt8) (rs : List S58) : List S58 × Bool := if rangesFault rs = 0 then (rs, decide (textL rs = t)) else (rs, false)
theorem implLoop (t : ByteArray) (W : List ByteArray) (hw : ∀ w ∈ W, w.size ≤ 1048576) (hW : W.length ≤ 1048576) : ∀ (d i : Nat) (acc : List S58), i + d = W.length → acc.length = i →
    Ev (fun k => impl_parseSet.l0 k t acc W (W.length : Int) (i : Int)) (match wordsI ((W.drop i).map (·.data.toList)) with | none => ([], false) | some rs => finR t.data.toList (acc ++ rs))
  | 0, i, acc, h, ha => by
    rw [List.drop_eq_nil_of_le (by omega)]
    refine Ev.succ ?_
    simp only [impl_parseSet.l0, List.map_nil, wordsI, List.append_nil]
    refine Ev.neg (by omega) (Ev.bind (ev_implRangesFault acc (by omega)) ?_)
    unfold finR
    by_cases hf : rangesFault acc = 0
    · rw [if_pos hf]
      have hok : acc.length ≤ 8 ∧ acc.all okRange = true := by
        unfold rangesFault at hf
        by_cases h1 : acc.length < 1 ∨ 8 < acc.length
        · rw [if_pos h1] at hf; exact absurd hf (by decide)
        · rw [if_neg h1] at hf
          refine ⟨by omega, ?_⟩
          by_cases h2 : acc.all okRange = true
          · exact h2
          · rw [if_neg h2] at hf; exact absurd hf (by decide)
      refine Ev.pos hf (Ev.bind (ev_setText acc hok.1 hok.2) ?_)
      have e : ((ba (textL acc)).toList == t.toList) = decide (textL acc = t.data.toList) := by
        rw [ByteArray.toList_eq, ByteArray.toList_eq, ba_data, Bool.eq_iff_iff]
        simp
      rw [e]
      exact Ev.now _
    · rw [if_neg hf]
      exact Ev.neg hf (Ev.now _)
  | d + 1, i, acc, h, ha => by
    have hi : i < W.length := by omega
    have hs := hw W[i] (List.getElem_mem _)
    rw [List.drop_eq_getElem_cons hi, List.map_cons]
    obtain ⟨a, b, two, hcut, hsa, hsb, hh⟩ := cut_halves W[i] hs
    refine Ev.succ ?_
    simp only [impl_parseSet.l0, rdOf_get _ W i hi, hcut, Option.bind_some]
    refine Ev.pos (by omega) (Ev.pos (by omega) (Ev.pos (by omega) ?_))
    have key : ∀ b' : ByteArray, b'.size ≤ 1048576 → halves W[i].data.toList = (a.data.toList, b'.data.toList) → Ev (fun k => impl_parseSet.j1 k t acc a b' W (W.length : Int) (i : Int)) (match wordsI (W[i].data.toList :: (W.drop (i + 1)).map (·.data.toList)) with | none => ([], false) | some rs => finR t.data.toList (acc ++ rs)) := by
      intro b' hb' hv
      refine Ev.succ ?_
      simp only [impl_parseSet.j1, readEnd_eq a (by omega), readEnd_eq b' hb', Option.bind_some, wsucc hi (show W.length ≤ 281474976710656 by omega)]
      have hI : wordI W[i].data.toList = if (readEndF a.data.toList).2 = true then (if (readEndF b'.data.toList).2 = true then some ⟨(readEndF a.data.toList).1, (readEndF b'.data.toList).1⟩ else none) else none := by
        unfold wordI; rw [hv]
      simp only [wordsI]
      by_cases c1 : (readEndF a.data.toList).2 = true
      · rw [if_pos c1] at hI
        refine Ev.pos c1 ?_
        by_cases c2 : (readEndF b'.data.toList).2 = true
        · rw [if_pos c2] at hI
          refine Ev.pos c2 (Ev.pos (by omega) ?_)
          have ih := implLoop t W hw hW d (i + 1) (acc ++ [⟨(readEndF a.data.toList).1, (readEndF b'.data.toList).1⟩]) (by omega) (by simp; omega)
          rw [hI]
          cases hq : wordsI ((W.drop (i + 1)).map (·.data.toList)) with
          | none => rw [hq] at ih; exact ih
          | some rs => rw [hq] at ih; simp only [List.append_assoc, List.singleton_append] at ih; exact ih
        · rw [if_neg c2] at hI
          rw [hI]
          exact Ev.neg c2 (Ev.now _)
      · rw [if_neg c1] at hI
        rw [hI]
        exact Ev.neg c1 (Ev.now _)
    cases two with
    | true => exact Ev.pos rfl (key b (by omega) (by simpa using hh))
    | false => exact Ev.neg (by simp) (key a (by omega) (by simpa using hh))
def wordsN (t : ByteArray) : List ByteArray := Lib.splitB ⟨#[44]⟩ 0 (min 9 (t.size + 1) - 1) t
theorem ev_parseSet (t : ByteArray) (ht : t.size ≤ 1048576) : Ev (fun k => impl_parseSet.f k t) (match wordsI ((wordsN t).map (·.data.toList)) with | none => ([], false) | some rs => finR t.data.toList rs) := by
  unfold impl_parseSet.f
  have e : strings_SplitN.f t (⟨#[44]⟩ : ByteArray) 9 = some (wordsN t) := by
    unfold strings_SplitN.f
    rw [if_pos ⟨by omega, by decide, by decide, by decide⟩]
    rfl
  refine Ev.bindc e ?_
  have hl : (wordsN t).length ≤ 9 := by
    have := strings_SplitN.le ⟨#[44]⟩ (min 9 (t.size + 1) - 1) t
    unfold wordsN
    omega
  have := implLoop t (wordsN t) (fun w hw => Nat.le_trans (splitB_size _ _ _ w hw) ht) (by omega) (wordsN t).length 0 [] (by omega) rfl
  rw [List.drop_zero] at this
  exact this
/-- The answer of both. -/
def parseR (t : List UInt8) : Int × List S58 := if (parseS t).2 = true then (0, (parseS t).1) else (5, [])
theorem ev_specParseSet (t : ByteArray) (ht : t.size ≤ 1048576) : Ev (fun k => spec_ParseSet.f k t) (parseR t.data.toList) := by
  unfold spec_ParseSet.f parseR
  exact Ev.bind (ev_l11Parse t ht) (Ev.ite (fun _ => Ev.now _) (fun _ => Ev.now _))
theorem wordsP_length {ws : List (List UInt8)} {rs : List S58} (h : wordsP ws = some rs) : rs.length = ws.length := by
  rw [← (wordsP_some h).2.1, List.length_map]
theorem ev_implParseSet (t : ByteArray) (ht : t.size ≤ 1048576) : Ev (fun k => impl_ParseSet.f k t) (parseR t.data.toList) := by
  unfold impl_ParseSet.f
  refine Ev.bind (ev_parseSet t ht) ?_
  unfold parseR
  have hl := Lib.size_eq t
  by_cases hp : (parseS t.data.toList).2 = true
  · rw [if_pos hp]
    unfold parseS at hp ⊢
    cases hq : wordsP (cutL 44 t.data.toList) with
    | none => rw [hq] at hp; cases hp
    | some rs =>
      rw [hq] at hp
      simp only [decide_eq_true_eq] at hp
      have hlen := wordsP_length hq
      obtain ⟨h1, h2, h3⟩ := wordsP_some hq
      have hle := cutL_length 44 t.data.toList
      have hN : (wordsN t).map (·.data.toList) = cutL 44 t.data.toList := split_cut 44 _ t (by omega)
      rw [hN, h3]
      have hpos : 0 < (cutL 44 t.data.toList).length := List.length_pos_iff.2 (cutL_ne _ _)
      have hf : rangesFault rs = 0 := by unfold rangesFault; rw [if_neg (by omega), if_pos h1]
      have ht' : textL rs = t.data.toList := by unfold textL; rw [h2]; exact join_cutL 44 _
      simp only [finR, hf, ht', if_true, decide_true]
      exact Ev.now _
  · rw [if_neg hp]
    refine Ev.neg ?_ (Ev.now _)
    intro hc
    apply hp
    cases hq : wordsI ((wordsN t).map (·.data.toList)) with
    | none => rw [hq] at hc; cases hc
    | some rs =>
      rw [hq] at hc
      simp only [finR] at hc
      by_cases hf : rangesFault rs = 0
      · rw [if_pos hf] at hc
        have ht' : textL rs = t.data.toList := by simpa using hc
        unfold rangesFault at hf
        by_cases h1 : rs.length < 1 ∨ 8 < rs.length
        · rw [if_pos h1] at hf; exact absurd hf (by decide)
        rw [if_neg h1] at hf
        by_cases h2 : rs.all okRange = true
        · have hcut : cutL 44 t.data.toList = rs.map wordL := by
            rw [← ht']
            unfold textL
            cases rs with
            | nil => simp at h1
            | cons r rs =>
              rw [List.map_cons]
              have ha := List.all_eq_true.1 h2
              exact cutL_join 44 _ _ (wordL_44 (ha r (List.mem_cons_self ..))) (fun w hw => by
                obtain ⟨q, hq, rfl⟩ := List.mem_map.1 hw
                exact wordL_44 (ha q (List.mem_cons_of_mem _ hq)))
          unfold parseS
          rw [hcut, wordsP_words h2]
          simp only [decide_eq_true_eq]
          omega
        · rw [if_neg h2] at hf; exact absurd hf (by decide)
      · rw [if_neg hf] at hc; cases hc
theorem parseR_length (t : List UInt8) : (parseR t).2.length ≤ 8 := by
  unfold parseR
  by_cases hp : (parseS t).2 = true
  · rw [if_pos hp]
    unfold parseS at hp ⊢
    cases hq : wordsP (cutL 44 t) with
    | none => simp
    | some rs => rw [hq] at hp; simp only [decide_eq_true_eq] at hp; dsimp only; omega
  · rw [if_neg hp]; simp
theorem ev_l11Fault (x : List S58) (hx : x.length ≤ 1048576) : Ev (fun k => spec_l11Fault.f k x) (rangesFault x) := by
  unfold spec_l11Fault.f rangesFault
  by_cases h1 : x.length < 1
  · rw [if_pos (by omega)]
    refine Ev.pos (by omega) (Ev.succ ?_)
    simp only [spec_l11Fault.j0, if_true]
    exact Ev.now _
  refine Ev.neg (by omega) (Ev.succ ?_)
  simp only [spec_l11Fault.j0]
  by_cases h2 : 8 < x.length
  · rw [if_pos (by omega)]
    exact Ev.pos (decide_eq_true (by omega)) (Ev.now _)
  rw [if_neg (by omega)]
  refine Ev.neg (by simp; omega) ?_
  have h := ev_find (fun k i => spec_l11Fault.l0 k x i) x (fun r => if okRange r = true then none else some 3) 0 ?_ ?_ ?_
  · rw [find_guard] at h; exact h
  · refine Ev.succ ?_
    simp only [spec_l11Fault.l0, Int.lt_irrefl, if_false]
    exact Ev.now _
  · intro i hi r hr
    by_cases hok : okRange x[i] = true
    · rw [if_pos hok] at hr; cases hr
    rw [if_neg hok] at hr; cases hr
    simp only [okRange, decide_eq_true_eq] at hok
    refine Ev.succ ?_
    simp only [spec_l11Fault.l0, rd_Range_get x i hi, l1In_eq, Option.bind_some]
    refine Ev.pos (by omega) (Ev.pos (by omega) ?_)
    by_cases ha : 0 ≤ x[i].f0 ∧ x[i].f0 ≤ 999
    · refine Ev.pos (decide_eq_true ha) (Ev.neg ?_ (Ev.now _))
      simp only [decide_eq_true_eq]; exact fun hb => hok ⟨ha, hb⟩
    · exact Ev.neg (by simpa using ha) (Ev.now _)
  · intro i hi hr r h
    by_cases hok : okRange x[i] = true
    case neg => rw [if_neg hok] at hr; cases hr
    simp only [okRange, decide_eq_true_eq] at hok
    refine Ev.succ ?_
    simp only [spec_l11Fault.l0, rd_Range_get x i hi, l1In_eq, Option.bind_some]
    refine Ev.pos (by omega) (Ev.pos (by omega) (Ev.pos (decide_eq_true hok.1) (Ev.pos (decide_eq_true hok.2) ?_)))
    simp only [wsucc hi (show x.length ≤ 281474976710656 by omega)]
    exact h
theorem digit_eq (m : Nat) (h : m < 10) : strOfNums [(wrap64 (48 + (m : Int))) % 256] = ba [UInt8.ofNat (48 + m)] := by
  rw [wid (by omega) (by omega), show (48 + (m : Int)) % 256 = ((48 + m : Nat) : Int) by omega]
  rfl
theorem ev_l1Digits (n : Nat) (hn : n ≤ 999) : Ev (fun k => spec_l1Digits.f k (n : Int)) (ba (Lib.decDigits n)) := by
  induction n using Nat.strongRecOn with
  | _ n ih =>
    refine Ev.succ ?_
    simp only [spec_l1Digits.f]
    by_cases h : n < 10
    · refine Ev.pos (by omega) ?_
      rw [Lib.decDigits_one h, digit_eq n h]
      exact Ev.now _
    · refine Ev.neg (by omega) ?_
      have e1 : wrap64 (Int.tdiv (n : Int) 10) = ((n / 10 : Nat) : Int) := by rw [Int.tdiv_eq_ediv_of_nonneg (by omega), wid (by omega) (by omega)]; omega
      have e2 : Int.tmod (n : Int) 10 = ((n % 10 : Nat) : Int) := by rw [Int.tmod_eq_emod_of_nonneg (by omega)]; omega
      rw [e1, e2]
      refine Ev.bind (ih (n / 10) (by omega) (by omega)) ?_
      have hl := decDigits_le (u := n / 10) (by omega)
      rw [show Lib.decDigits n = Lib.decDigits (n / 10) ++ [UInt8.ofNat (48 + n % 10)] by rw [Lib.decDigits, dif_neg h]]
      simp only [Option.bind_some, digit_eq (n % 10) (show n % 10 < 10 by omega), ba_append, ba_size]
      exact Ev.pos (by simp only [List.length_singleton]; omega) (Ev.now _)
theorem ev_l11Number (n : Int) (h0 : 0 ≤ n) (h1 : n ≤ 999) : Ev (fun k => spec_l11Number.f k n) (ba (numL n)) := by
  unfold spec_l11Number.f numL
  by_cases h : n = 0
  · rw [if_pos h]; exact Ev.pos h (Ev.now _)
  · rw [if_neg h]
    obtain ⟨m, rfl⟩ := Int.eq_ofNat_of_zero_le h0
    exact Ev.neg h (Ev.bind (ev_l1Digits m (by omega)) (Ev.now _))
theorem ev_l11Text (x : List S58) (hl : x.length ≤ 8) (hx : x.all okRange = true) : Ev (fun k => spec_l11Text.f k x) (ba (textL x)) := by
  unfold spec_l11Text.f
  have h := ev_iter (fun k (s : ByteArray) i => spec_l11Text.l0 k x s i) x.length (fun i => ba (textL (x.take i))) (ba (textL x)) ?_ ?_
  · exact h
  · refine Ev.succ ?_
    simp only [spec_l11Text.l0, Int.lt_irrefl, if_false, List.take_length]
    exact Ev.now _
  · intro i hi r h
    have hk := List.all_eq_true.1 hx x[i] (List.getElem_mem _)
    simp only [okRange, decide_eq_true_eq] at hk
    have h0 := numL_le hk.1.1 hk.1.2
    have h1 := numL_le hk.2.1 hk.2.2
    have ht := textL_le x hx i (by omega)
    refine Ev.succ ?_
    simp only [spec_l11Text.l0]
    refine Ev.pos (by omega) ?_
    have step : ∀ p : List UInt8, p.length ≤ 100 → textL (x.take (i + 1)) = p ++ wordL x[i] → Ev (fun k => spec_l11Text.j1 k x (ba p) (i : Int)) r := by
      intro p hp he
      refine Ev.succ ?_
      simp only [spec_l11Text.j1, rd_Range_get x i hi, wsucc hi (show x.length ≤ 281474976710656 by omega)]
      refine Ev.pos (by omega) (Ev.pos (by omega) (Ev.bind (ev_l11Number _ hk.1.1 hk.1.2) (Ev.pos (by rw [ba_size, ba_size]; omega) ?_)))
      simp only [ba_append]
      rw [he] at h
      unfold wordL at h
      by_cases hq : x[i].f0 = x[i].f1
      · rw [if_pos hq] at h
        exact Ev.pos hq h
      · rw [if_neg hq] at h
        refine Ev.neg hq (Ev.pos (by rw [ba_size, List.length_append]; omega) (Ev.bind (ev_l11Number _ hk.2.1 hk.2.2) ?_))
        rw [show ba (p ++ numL x[i].f0) ++ (⟨#[58]⟩ : ByteArray) = ba ((p ++ numL x[i].f0) ++ [58]) from ba_append _ [58]]
        refine Ev.pos (by rw [ba_size, ba_size, List.length_append, List.length_append, List.length_singleton]; omega) ?_
        rw [ba_append]
        simpa using h
    by_cases hz : i = 0
    · subst hz
      refine Ev.neg (by simp) ?_
      have := step [] (by simp) (by rw [textL_succ x 0 hi]; simp)
      simpa [textL, Lib.join_nil] using this
    · refine Ev.pos (by omega) (Ev.pos (by rw [ba_size]; omega) ?_)
      rw [show ba (textL (x.take i)) ++ (⟨#[44]⟩ : ByteArray) = ba (textL (x.take i) ++ [44]) from ba_append _ [44]]
      exact step _ (by simp only [List.length_append, List.length_singleton]; omega) (by rw [textL_succ x i hi, if_neg hz]; simp)
def setTextR (x : List S58) : Int × ByteArray := if rangesFault x = 0 then (0, ba (textL x)) else (rangesFault x, (⟨#[]⟩ : ByteArray))
theorem right_of (x : List S58) (h : rangesFault x = 0) : x.length ≤ 8 ∧ x.all okRange = true := by
  unfold rangesFault at h
  by_cases h1 : x.length < 1 ∨ 8 < x.length
  · rw [if_pos h1] at h; exact absurd h (by decide)
  · rw [if_neg h1] at h
    refine ⟨by omega, ?_⟩
    by_cases h2 : x.all okRange = true
    · exact h2
    · rw [if_neg h2] at h; exact absurd h (by decide)
theorem ev_implSetText (x : List S58) (hl : x.length ≤ 1048576) : Ev (fun k => impl_SetText.f k x) (setTextR x) := by
  unfold impl_SetText.f setTextR
  exact Ev.bind (ev_implRangesFault x hl) (Ev.ite (fun h => Ev.bind (ev_setText x (right_of x h).1 (right_of x h).2) (Ev.now _)) (fun _ => Ev.now _))
theorem ev_specSetText (x : List S58) (hl : x.length ≤ 1048576) : Ev (fun k => spec_SetText.f k x) (setTextR x) := by
  unfold spec_SetText.f setTextR
  exact Ev.bind (ev_l11Fault x hl) (Ev.ite (fun h => Ev.bind (ev_l11Text x (right_of x h).1 (right_of x h).2) (Ev.now _)) (fun _ => Ev.now _))
def endOf (m x : Int) : Int := if x = 0 then m else x
def inRange (m n : Int) (r : S58) : Bool := decide ((endOf m r.f0 ≤ n ∨ endOf m r.f1 ≤ n) ∧ (n ≤ endOf m r.f0 ∨ n ≤ endOf m r.f1))
def inSet (x : List S58) (n m : Int) : Bool := x.any (inRange m n)
theorem find_any {α : Type} (p : α → Bool) (l : List α) : ((l.findSome? fun a => if p a = true then some true else none).getD false) = l.any p := by
  induction l with
  | nil => simp
  | cons a l ih => cases h : p a <;> simp [h, ih]

def uidOkAt (x : List Int) (i : Nat) : Prop := (1 ≤ rd x i ∧ rd x i ≤ 999) ∧ (0 < i → rd x ((i - 1 : Nat) : Int) < rd x i)
instance (x : List Int) (i : Nat) : Decidable (uidOkAt x i) := by unfold uidOkAt; exact inferInstance
def uidsOk (x : List Int) : Prop := ∀ i : Nat, i < x.length → uidOkAt x i
instance (x : List Int) : Decidable (uidsOk x) := by unfold uidsOk; exact inferInstance
theorem ev_areUids (x : List Int) (hx : x.length ≤ 60) : Ev (fun k => impl_areUids.f k x) (decide (uidsOk x)) := by
  unfold impl_areUids.f
  have key : ∀ (d i : Nat), i + d = x.length → (∀ j : Nat, j < i → uidOkAt x j) → Ev (fun k => impl_areUids.l0 k x x (x.length : Int) (i : Int)) (decide (uidsOk x)) := by
    intro d
    induction d with
    | zero =>
      intro i hi h
      have : uidsOk x := fun j hj => h j (by omega)
      rw [decide_eq_true this]
      refine Ev.succ ?_
      simp only [impl_areUids.l0]
      exact Ev.neg (by omega) (Ev.now _)
    | succ d ih =>
      intro i hi h
      have hl : i < x.length := by omega
      refine Ev.succ ?_
      simp only [impl_areUids.l0, impl_isUid.f, within_eq, Option.bind_some, wsucc hl (show x.length ≤ 281474976710656 by omega)]
      refine Ev.pos (by omega) (Ev.pos (by omega) (Ev.pos (by omega) ?_))
      have bad : ¬ uidOkAt x i → decide (uidsOk x) = false := fun hb => decide_eq_false (fun hu => hb (hu i hl))
      by_cases h1 : 1 ≤ rd x i ∧ rd x i ≤ 999
      case neg =>
        rw [bad (fun hu => h1 hu.1)]
        exact Ev.neg (by simpa using h1) (Ev.now _)
      refine Ev.pos (decide_eq_true h1) ?_
      by_cases h0 : 0 < i
      · rw [wpred h0 (show i ≤ 281474976710656 by omega)]
        refine Ev.pos (by omega) (Ev.pos (by omega) (Ev.pos (by omega) ?_))
        by_cases h2 : rd x ((i - 1 : Nat) : Int) ≥ rd x i
        · rw [bad (fun hu => by have := hu.2 h0; omega)]
          exact Ev.pos h2 (Ev.now _)
        · refine Ev.neg h2 (ih (i + 1) (by omega) (fun j hj => ?_))
          by_cases hji : j < i
          · exact h j hji
          · have : j = i := by omega
            subst this
            exact ⟨h1, fun _ => by omega⟩
      · refine Ev.neg (by omega) (ih (i + 1) (by omega) (fun j hj => ?_))
        have : j = i := by omega
        subst this
        exact ⟨h1, fun h' => absurd h' h0⟩
  exact key x.length 0 (by omega) (fun j hj => absurd hj (by omega))
/-- One number put to ranges. -/
def addN (s : List S58) (n : Int) : List S58 := if 0 < s.length then (if (rd_T58 s ((s.length - 1 : Nat) : Int)).f1 = n - 1 then s.set (s.length - 1) ⟨(rd_T58 s ((s.length - 1 : Nat) : Int)).f0, n⟩ else s ++ [⟨n, n⟩]) else [⟨n, n⟩]
def rangesN (x : List Int) (i : Nat) : List S58 := (x.take i).foldl addN []
theorem rangesN_succ (x : List Int) (i : Nat) (h : i < x.length) : rangesN x (i + 1) = addN (rangesN x i) (rd x i) := by
  unfold rangesN
  rw [List.take_succ_eq_append_getElem h, List.foldl_append, rd_get x i h]
  rfl
/-- What is known of the ranges of the first numbers. -/
def InvN (x : List Int) (i : Nat) (s : List S58) : Prop := s.length ≤ i ∧ (0 < i → 0 < s.length ∧ (rd_T58 s ((s.length - 1 : Nat) : Int)).f1 = rd x ((i - 1 : Nat) : Int)) ∧ (∀ r ∈ s, 1 ≤ r.f0 ∧ r.f0 ≤ r.f1 ∧ r.f1 ≤ 999) ∧ ∀ n : Int, (∃ r ∈ s, r.f0 ≤ n ∧ n ≤ r.f1) ↔ n ∈ x.take i
theorem last_get (s : List S58) (h : 0 < s.length) : rd_T58 s ((s.length - 1 : Nat) : Int) = s[s.length - 1]'(by omega) := rd_Range_get s _ (by omega)
theorem InvN_all (x : List Int) (h : uidsOk x) : ∀ i, i ≤ x.length → InvN x i (rangesN x i)
  | 0, _ => ⟨by simp [rangesN], fun h => absurd h (by omega), by simp [rangesN], by simp [rangesN]⟩
  | i + 1, hi => by
    have hl : i < x.length := by omega
    obtain ⟨k1, k2, k3, k4⟩ := InvN_all x h i (by omega)
    obtain ⟨u1, u2⟩ := h i hl
    rw [rangesN_succ x i hl]
    generalize rangesN x i = s at k1 k2 k3 k4
    have hmem : ∀ n : Int, n ∈ x.take (i + 1) ↔ n ∈ x.take i ∨ n = rd x i := fun n => by
      rw [List.take_succ_eq_append_getElem hl, List.mem_append, List.mem_singleton, rd_get x i hl]
    have app : InvN x (i + 1) (s ++ [⟨rd x i, rd x i⟩]) := by
      refine ⟨by simp; omega, fun _ => ⟨by simp, ?_⟩, ?_, fun n => ?_⟩
      · rw [last_get _ (by simp)]
        simp
      · intro r hr
        rcases List.mem_append.1 hr with hr | hr
        · exact k3 r hr
        · rw [List.mem_singleton.1 hr]; simp only; omega
      · rw [hmem, ← k4]
        constructor
        · rintro ⟨r, hr, h1, h2⟩
          rcases List.mem_append.1 hr with hr | hr
          · exact .inl ⟨r, hr, h1, h2⟩
          · rw [List.mem_singleton.1 hr] at h1 h2
            simp only at h1 h2
            exact .inr (by omega)
        · rintro (⟨r, hr, h1, h2⟩ | he)
          · exact ⟨r, List.mem_append_left _ hr, h1, h2⟩
          · exact ⟨⟨rd x i, rd x i⟩, List.mem_append_right _ (List.mem_singleton.2 rfl), by simp only; omega, by simp only; omega⟩
    unfold addN
    by_cases hp : 0 < s.length
    case neg =>
      rw [if_neg hp]
      have : s = [] := List.eq_nil_of_length_eq_zero (by omega)
      subst this
      exact app
    rw [if_pos hp]
    by_cases hc : (rd_T58 s ((s.length - 1 : Nat) : Int)).f1 = rd x i - 1
    case neg => rw [if_neg hc]; exact app
    rw [if_pos hc]
    rw [last_get s hp] at hc ⊢
    have hlr := k3 _ (List.getElem_mem (show s.length - 1 < s.length by omega))
    refine ⟨by rw [List.length_set]; omega, fun _ => ⟨by rw [List.length_set]; exact hp, ?_⟩, ?_, fun n => ?_⟩
    · rw [List.length_set, rd_Range_get _ _ (by rw [List.length_set]; omega)]
      simp
    · intro r hr
      rcases List.mem_or_eq_of_mem_set hr with hr | hr
      · exact k3 r hr
      · rw [hr]; simp only; omega
    · rw [hmem, ← k4]
      constructor
      · rintro ⟨r, hr, h1, h2⟩
        rcases List.mem_or_eq_of_mem_set hr with hr | hr
        · exact .inl ⟨r, hr, h1, h2⟩
        · subst hr
          simp only at h1 h2
          by_cases he : n = rd x i
          · exact .inr he
          · exact .inl ⟨s[s.length - 1], List.getElem_mem _, h1, by omega⟩
      · have hin : (⟨(s[s.length - 1]).f0, rd x i⟩ : S58) ∈ s.set (s.length - 1) ⟨(s[s.length - 1]).f0, rd x i⟩ := by
          rw [List.mem_iff_getElem]
          exact ⟨s.length - 1, by rw [List.length_set]; omega, by simp⟩
        rintro (⟨r, hr, h1, h2⟩ | he)
        · obtain ⟨j, hj, rfl⟩ := List.mem_iff_getElem.1 hr
          by_cases hjl : j = s.length - 1
          · subst hjl
            exact ⟨_, hin, by simp only; omega, by simp only; omega⟩
          · refine ⟨s[j], ?_, h1, h2⟩
            rw [List.mem_iff_getElem]
            exact ⟨j, by rw [List.length_set]; exact hj, by rw [List.getElem_set_ne (fun e => hjl e.symm)]⟩
        · exact ⟨_, hin, by simp only; omega, by simp only; omega⟩
def setOfR (x : List Int) : Int × List S58 := if 1 ≤ x.length ∧ x.length ≤ 60 then (if uidsOk x then (if 8 < (rangesN x x.length).length then (2, []) else (0, rangesN x x.length)) else (3, [])) else (2, [])
theorem ev_implSetOf (x : List Int) (hx : x.length ≤ 1048576) (hb : ∀ n ∈ x, -1000000 ≤ n ∧ n ≤ 1000000) : Ev (fun k => impl_SetOf.f k x) (setOfR x) := by
  unfold impl_SetOf.f impl_length_int64.f setOfR
  simp only [Option.bind_some, within_eq]
  by_cases h1 : 1 ≤ x.length ∧ x.length ≤ 60
  case neg => rw [if_neg h1]; exact Ev.neg (by simp; omega) (Ev.now _)
  rw [if_pos h1]
  refine Ev.pos (decide_eq_true (by omega)) (Ev.bind (ev_areUids x h1.2) ?_)
  by_cases h2 : uidsOk x
  case neg => rw [if_neg h2]; exact Ev.neg (by simpa using h2) (Ev.now _)
  rw [if_pos h2]
  refine Ev.pos (decide_eq_true h2) ?_
  have hn : ∀ i : Nat, i < x.length → 1 ≤ rd x i ∧ rd x i ≤ 999 := fun i hi => (h2 i hi).1
  have h := ev_iter (fun k (s : List S58) i => impl_SetOf.l0 k s x (x.length : Int) i) x.length (fun i => rangesN x i) (if 8 < (rangesN x x.length).length then (2, []) else (0, rangesN x x.length)) ?_ ?_
  · exact h
  · refine Ev.succ ?_
    simp only [impl_SetOf.l0]
    refine Ev.neg (by omega) ?_
    by_cases h8 : 8 < (rangesN x x.length).length
    · rw [if_pos h8]; exact Ev.pos (by omega) (Ev.now _)
    · rw [if_neg h8]; exact Ev.neg (by omega) (Ev.now _)
  · intro i hi r h
    have hni := hn i hi
    obtain ⟨k1, k2, _, _⟩ := InvN_all x h2 i (by omega)
    rw [rangesN_succ x i hi] at h
    unfold addN at h
    generalize rangesN x i = s at k1 k2 h ⊢
    refine Ev.succ ?_
    simp only [impl_SetOf.l0, wsucc hi (show x.length ≤ 281474976710656 by omega)]
    refine Ev.pos (by omega) (Ev.pos (by omega) (Ev.pos (by omega) ?_))
    by_cases hp : 0 < s.length
    case neg =>
      rw [if_neg hp] at h
      have : s = [] := List.eq_nil_of_length_eq_zero (by omega)
      subst this
      exact Ev.neg (by simp) (Ev.pos (by simp) h)
    rw [if_pos hp] at h
    have e1 : wrap64 ((s.length : Int) - 1) = ((s.length - 1 : Nat) : Int) := by rw [wid (by omega) (by omega)]; omega
    rw [e1, wid (x := rd x i - 1) (by omega) (by omega)]
    refine Ev.pos (by omega) (Ev.pos (by omega) (Ev.pos (by omega) ?_))
    by_cases hc : (rd_T58 s ((s.length - 1 : Nat) : Int)).f1 = rd x i - 1
    · rw [if_pos hc] at h
      rw [Int.toNat_natCast]
      exact Ev.pos hc h
    · rw [if_neg hc] at h
      exact Ev.neg hc (Ev.pos (by omega) h)
theorem ev_specSetOf (x : List Int) (hx : x.length ≤ 1048576) (hb : ∀ n ∈ x, -1000000 ≤ n ∧ n ≤ 1000000) : Ev (fun k => spec_SetOf.f k x) (setOfR x) := by
  have j : ∀ b : Bool, b = decide (¬ (1 ≤ x.length ∧ x.length ≤ 60)) → Ev (fun k => spec_SetOf.j0 k x b) (setOfR x) := by
    intro b hb'
    subst hb'
    refine Ev.succ ?_
    simp only [spec_SetOf.j0]
    unfold setOfR
    by_cases h1 : 1 ≤ x.length ∧ x.length ≤ 60
    case neg => rw [if_neg h1]; exact Ev.pos (decide_eq_true h1) (Ev.now _)
    rw [if_pos h1]
    refine Ev.neg (fun h => (of_decide_eq_true h) h1) ?_
    -- from place i on, the first i numbers being right
    have key : ∀ (d i : Nat), i + d = x.length → (∀ q : Nat, q < i → uidOkAt x q) → InvN x i (rangesN x i) → Ev (fun k => spec_SetOf.l0 k x (rangesN x i) (i : Int)) (if uidsOk x then (if 8 < (rangesN x x.length).length then (2, []) else (0, rangesN x x.length)) else (3, [])) := by
      intro d
      induction d with
      | zero =>
        intro i hi h hI
        have hu : uidsOk x := fun q hq => h q (by omega)
        have e : i = x.length := by omega
        subst e
        rw [if_pos hu]
        refine Ev.succ ?_
        simp only [spec_SetOf.l0]
        refine Ev.neg (by omega) ?_
        by_cases h8 : 8 < (rangesN x x.length).length
        · rw [if_pos h8]; exact Ev.pos (by omega) (Ev.now _)
        · rw [if_neg h8]; exact Ev.neg (by omega) (Ev.now _)
      | succ d ih =>
        intro i hi h hI
        have hl : i < x.length := by omega
        obtain ⟨k1, k2, _, _⟩ := hI
        have hbi : -1000000 ≤ rd x i ∧ rd x i ≤ 1000000 := by rw [rd_get x i hl]; exact hb _ (List.getElem_mem _)
        have bad : ¬ uidOkAt x i → Ev (fun k => spec_SetOf.j2 k x (rangesN x i) (i : Int) (rd x i) true) (if uidsOk x then (if 8 < (rangesN x x.length).length then ((2 : Int), ([] : List S58)) else (0, rangesN x x.length)) else (3, [])) := fun hbad => by
          rw [if_neg (fun hu => hbad (hu i hl))]
          refine Ev.succ ?_
          simp only [spec_SetOf.j2]
          exact Ev.pos trivial (Ev.now _)
        have good : uidOkAt x i → Ev (fun k => spec_SetOf.j2 k x (rangesN x i) (i : Int) (rd x i) false) (if uidsOk x then (if 8 < (rangesN x x.length).length then ((2 : Int), ([] : List S58)) else (0, rangesN x x.length)) else (3, [])) := fun hgood => by
          have hall : ∀ q : Nat, q < i + 1 → uidOkAt x q := fun q hq => by
            by_cases hqi : q < i
            · exact h q hqi
            · have : q = i := by omega
              subst this
              exact hgood
          have hI' : InvN x (i + 1) (rangesN x (i + 1)) := by
            have hok : uidsOk (x.take (i + 1)) := fun q hq => by
              have hq' : q < i + 1 := by rw [List.length_take] at hq; omega
              obtain ⟨a1, a2⟩ := hall q hq'
              have er : ∀ p : Nat, p < i + 1 → rd (x.take (i + 1)) (p : Int) = rd x (p : Int) := fun p hp => by
                rw [rd_get _ p (by rw [List.length_take]; omega), rd_get x p (by omega), List.getElem_take]
              refine ⟨by rw [er q hq']; exact a1, fun h0 => ?_⟩
              rw [er q hq', er (q - 1) (by omega)]
              exact a2 h0
            have := InvN_all (x.take (i + 1)) hok (i + 1) (by rw [List.length_take]; omega)
            have e1 : rangesN (x.take (i + 1)) (i + 1) = rangesN x (i + 1) := by unfold rangesN; rw [List.take_take, Nat.min_self]
            rw [e1] at this
            obtain ⟨a1, a2, a3, a4⟩ := this
            refine ⟨a1, fun h0 => ⟨(a2 h0).1, ?_⟩, a3, fun n => ?_⟩
            · rw [(a2 h0).2, Nat.add_sub_cancel, rd_get _ i (by rw [List.length_take]; omega), rd_get x i hl, List.getElem_take]
            · rw [a4 n, List.take_take, Nat.min_self]
          have next := ih (i + 1) (by omega) hall hI'
          rw [rangesN_succ x i hl] at next
          unfold addN at next
          refine Ev.succ ?_
          simp only [spec_SetOf.j2, wsucc hl (show x.length ≤ 281474976710656 by omega)]
          refine Ev.neg (by simp) ?_
          by_cases h0 : 0 < i
          · obtain ⟨hp, hlast⟩ := k2 h0
            have e1 : wrap64 (((rangesN x i).length : Int) - 1) = (((rangesN x i).length - 1 : Nat) : Int) := by rw [wid (by omega) (by omega)]; omega
            have hbp : -1000000 ≤ rd x ((i - 1 : Nat) : Int) ∧ rd x ((i - 1 : Nat) : Int) ≤ 1000000 := by rw [rd_get x (i - 1) (by omega)]; exact hb _ (List.getElem_mem _)
            rw [wpred h0 (show i ≤ 281474976710656 by omega), e1, wid (x := rd x ((i - 1 : Nat) : Int) + 1) (by omega) (by omega)]
            rw [if_pos hp, hlast] at next
            refine Ev.pos (by omega) (Ev.pos (by omega) (Ev.pos (by omega) ?_))
            by_cases hc : rd x i = rd x ((i - 1 : Nat) : Int) + 1
            · rw [if_pos (by omega)] at next
              rw [Int.toNat_natCast]
              exact Ev.pos hc (Ev.pos (by omega) (Ev.pos (by omega) next))
            · rw [if_neg (by omega)] at next
              exact Ev.neg hc (Ev.pos (by omega) next)
          · have hz : i = 0 := by omega
            subst hz
            have e0 : rangesN x 0 = [] := rfl
            rw [e0] at next ⊢
            exact Ev.neg (by omega) (Ev.pos (by simp) next)
        refine Ev.succ ?_
        simp only [spec_SetOf.l0, l1In_eq, Option.bind_some]
        refine Ev.pos (by omega) (Ev.pos (by omega) ?_)
        by_cases h1' : 1 ≤ rd x i ∧ rd x i ≤ 999
        case neg => exact Ev.neg (by simpa using h1') (bad (fun hu => h1' hu.1))
        refine Ev.pos (decide_eq_true h1') ?_
        by_cases h0 : 0 < i
        · rw [wpred h0 (show i ≤ 281474976710656 by omega)]
          refine Ev.pos (by omega) (Ev.pos (by omega) (Ev.pos (by omega) ?_))
          by_cases h3 : rd x i ≤ rd x ((i - 1 : Nat) : Int)
          · rw [decide_eq_true h3]; exact bad (fun hu => by have := hu.2 h0; omega)
          · rw [decide_eq_false h3]; exact good ⟨h1', fun _ => by omega⟩
        · exact Ev.neg (by omega) (good ⟨h1', fun h => absurd h h0⟩)
    exact key x.length 0 (by omega) (fun q hq => absurd hq (by omega)) ⟨by simp [rangesN], fun h => absurd h (by omega), by simp [rangesN], by simp [rangesN]⟩
  unfold spec_SetOf.f
  by_cases h0 : (x.length : Int) < 1
  · exact Ev.pos h0 (j true (decide_eq_true (by omega)).symm)
  · refine Ev.neg h0 (j _ ?_)
    exact decide_eq_decide.2 (by omega)
theorem ev_implinSet (x : List S58) (n m : Int) (hx : x.length ≤ 1048576) : Ev (fun k => impl_inSet.f k x n m) (inSet x n m) := by
  unfold impl_inSet.f inSet
  have hend : ∀ a : Int, impl_inSet_1_v0.f a [m] = some (endOf m a) := by
    intro a
    unfold impl_inSet_1_v0.f endOf
    by_cases ha : a = 0 <;> simp [ha, rd]
  have h := ev_find (fun k i => impl_inSet.l0 k n x (x.length : Int) i m) x (fun r => if inRange m n r = true then some true else none) false ?_ ?_ ?_
  · rw [find_any] at h; exact h
  · refine Ev.succ ?_
    simp only [impl_inSet.l0, Int.lt_irrefl, if_false]
    exact Ev.now _
  · intro i hi r hr
    by_cases hin : inRange m n x[i] = true
    case neg => rw [if_neg hin] at hr; cases hr
    rw [if_pos hin] at hr; cases hr
    refine Ev.succ ?_
    simp only [impl_inSet.l0, rd_Range_get x i hi, hend, within_eq, Option.bind_some]
    refine Ev.pos (by omega) (Ev.pos (by omega) (Ev.pos (by omega) (Ev.pos (decide_eq_true ?_) (Ev.now _))))
    simp only [inRange, decide_eq_true_eq] at hin
    unfold mn mx
    constructor <;> split <;> omega
  · intro i hi hr r h
    by_cases hin : inRange m n x[i] = true
    · rw [if_pos hin] at hr; cases hr
    refine Ev.succ ?_
    simp only [impl_inSet.l0, rd_Range_get x i hi, hend, within_eq, Option.bind_some]
    refine Ev.pos (by omega) (Ev.pos (by omega) (Ev.pos (by omega) (Ev.neg ?_ ?_)))
    · simp only [inRange, decide_eq_true_eq] at hin ⊢
      intro h2
      apply hin
      unfold mn mx at h2
      constructor
      · have := h2.1; split at this <;> omega
      · have := h2.2; split at this <;> omega
    · simp only [wsucc hi (show x.length ≤ 281474976710656 by omega)]
      exact h
def expand (x : List S58) (m : Int) (i : Nat) : List Int := ((List.range i).map fun (j : Nat) => (j : Int) + 1).filter fun n => inSet x n m
theorem expand_succ (x : List S58) (m : Int) (i : Nat) : expand x m (i + 1) = if inSet x ((i : Int) + 1) m = true then expand x m i ++ [(i : Int) + 1] else expand x m i := by
  unfold expand
  rw [List.range_succ, List.map_append, List.filter_append]
  by_cases h : inSet x ((i : Int) + 1) m = true <;> simp [h]
theorem expand_length (x : List S58) (m : Int) (i : Nat) : (expand x m i).length ≤ i := by
  unfold expand
  have := List.length_filter_le (fun n => inSet x n m) ((List.range i).map fun (j : Nat) => (j : Int) + 1)
  simpa using this
def expandSetF (x : List S58) (m : Int) : Int × List Int := if rangesFault x = 0 then (if 0 ≤ m ∧ m ≤ 999 then (0, expand x m m.toNat) else (3, [])) else (rangesFault x, [])
theorem expandSetF_length (x : List S58) (m : Int) : (expandSetF x m).2.length ≤ 999 := by
  unfold expandSetF
  split
  · split
    · have := expand_length x m m.toNat; simp only; omega
    · simp
  · simp
theorem ev_expandLoop {ρ : Type} (l : Nat → List Int → Int → Option ρ) (fin : List Int → ρ) (x : List S58) (m : Int) (h0 : 0 ≤ m) (h1 : m ≤ 999)
    (stop : ∀ s, Ev (fun k => l k s (m + 1)) (fin s))
    (yes : ∀ (n : Int) s, 1 ≤ n → n ≤ m → s.length ≤ 999 → inSet x n m = true → ∀ r, Ev (fun k => l k (s ++ [n]) (n + 1)) r → Ev (fun k => l k s n) r)
    (no : ∀ (n : Int) s, 1 ≤ n → n ≤ m → inSet x n m = false → ∀ r, Ev (fun k => l k s (n + 1)) r → Ev (fun k => l k s n) r) : Ev (fun k => l k [] 1) (fin (expand x m m.toNat)) := by
  have h := ev_iter (fun k s i => l k s (i + 1)) m.toNat (fun i => expand x m i) (fin (expand x m m.toNat)) ?_ ?_
  · have e : expand x m 0 = [] := rfl
    rw [e] at h
    exact h
  · have e : ((m.toNat : Nat) : Int) = m := by omega
    simp only [e]
    exact stop _
  · intro i hi r hr
    rw [expand_succ] at hr
    by_cases hc : inSet x ((i : Int) + 1) m = true
    · rw [if_pos hc] at hr
      have := expand_length x m i
      exact yes _ _ (by omega) (by omega) (by omega) hc _ hr
    · rw [if_neg hc] at hr
      exact no _ _ (by omega) (by omega) (by simpa using hc) _ hr
theorem ev_implExpandSet (x : List S58) (m : Int) (hx : x.length ≤ 1048576) : Ev (fun k => impl_ExpandSet.f k x m) (expandSetF x m) := by
  unfold impl_ExpandSet.f expandSetF
  refine Ev.bind (ev_implRangesFault x hx) ?_
  simp only [within_eq, Option.bind_some]
  by_cases h0 : rangesFault x = 0
  case neg => rw [if_neg h0]; exact Ev.neg h0 (Ev.now _)
  rw [if_pos h0]
  refine Ev.pos h0 ?_
  by_cases h1 : 0 ≤ m ∧ m ≤ 999
  case neg => rw [if_neg h1]; exact Ev.neg (by simpa using h1) (Ev.now _)
  rw [if_pos h1]
  refine Ev.pos (decide_eq_true h1) ?_
  refine ev_expandLoop (fun k s i => impl_ExpandSet.l0 k x m s i) (fun s => (0, s)) x m h1.1 h1.2 ?_ ?_ ?_
  · intro s
    refine Ev.succ ?_
    simp only [impl_ExpandSet.l0]
    exact Ev.neg (by omega) (Ev.now _)
  · intro n s hn1 hn2 hs hin r h
    refine Ev.succ ?_
    simp only [impl_ExpandSet.l0]
    refine Ev.pos hn2 (Ev.bind (ev_implinSet x n m hx) (Ev.pos hin (Ev.pos (by omega) ?_)))
    simp only [wid (x := n + 1) (by omega) (by omega)]
    exact h
  · intro n s hn1 hn2 hin r h
    refine Ev.succ ?_
    simp only [impl_ExpandSet.l0]
    refine Ev.pos hn2 (Ev.bind (ev_implinSet x n m hx) (Ev.neg (by simp [hin]) ?_))
    simp only [wid (x := n + 1) (by omega) (by omega)]
    exact h
theorem findSome_none {α β : Type} (l : List α) : (l.findSome? fun _ => (none : Option β)) = none := by simp
theorem ev_lwNums (x : List Int) (hx : x.length ≤ 1048576) : Ev (fun k => laws_lwNums.f k x x) true := by
  unfold laws_lwNums.f
  refine Ev.pos rfl ?_
  have h := ev_find (fun k i => laws_lwNums.l0 k x x i) x (fun _ => none) true ?_ ?_ ?_
  · rw [findSome_none] at h; exact h
  · refine Ev.succ ?_
    simp only [laws_lwNums.l0, Int.lt_irrefl, if_false]
    exact Ev.now _
  · intro i hi r hr; cases hr
  · intro i hi hr r h
    refine Ev.succ ?_
    simp only [laws_lwNums.l0, wsucc hi (show x.length ≤ 281474976710656 by omega)]
    exact Ev.pos (by omega) (Ev.pos (by omega) (Ev.pos (by omega) (Ev.pos (by simp) h)))
theorem numL_pos (a : Int) (h0 : 0 ≤ a) (h1 : a ≤ 999) : numL a ≠ [] := by
  intro h
  have := endL_numL a h0 h1
  rw [h] at this
  have h2 : endL ([] : List UInt8) = -1 := by decide
  omega
theorem wordL_pos {r : S58} (h : okRange r = true) : wordL r ≠ [] := by
  simp only [okRange, decide_eq_true_eq] at h
  have := numL_pos r.f0 h.1.1 h.1.2
  unfold wordL
  split
  · exact this
  · simp
theorem cut_textL (rs : List S58) (hp : 0 < rs.length) (h2 : rs.all okRange = true) : cutL 44 (textL rs) = rs.map wordL := by
  unfold textL
  cases rs with
  | nil => simp at hp
  | cons r rs =>
    rw [List.map_cons]
    have ha := List.all_eq_true.1 h2
    exact cutL_join 44 _ _ (wordL_44 (ha r (List.mem_cons_self ..))) (fun w hw => by
      obtain ⟨q, hq, rfl⟩ := List.mem_map.1 hw
      exact wordL_44 (ha q (List.mem_cons_of_mem _ hq)))
theorem textL_pos (rs : List S58) (hp : 0 < rs.length) (h2 : rs.all okRange = true) : textL rs ≠ [] := by
  intro h
  have hc := cut_textL rs hp h2
  rw [h] at hc
  cases rs with
  | nil => simp at hp
  | cons r rs =>
    have ha := List.all_eq_true.1 h2
    have e : cutL 44 ([] : List UInt8) = [[]] := rfl
    rw [e, List.map_cons] at hc
    exact wordL_pos (ha r (List.mem_cons_self ..)) (List.cons.inj hc).1.symm
theorem parse_text (rs : List S58) (h : rangesFault rs = 0) : parseR (textL rs) = (0, rs) := by
  obtain ⟨h1, h2⟩ := right_of rs h
  have hp : 0 < rs.length := by
    unfold rangesFault at h
    by_cases h1 : rs.length < 1 ∨ 8 < rs.length
    · rw [if_pos h1] at h; exact absurd h (by decide)
    · omega
  have : parseS (textL rs) = (rs, true) := by
    unfold parseS
    rw [cut_textL rs hp h2, wordsP_words h2]
    simp only [Prod.mk.injEq, decide_eq_true_eq, true_and]
    omega
  unfold parseR
  rw [this]
  rfl
theorem text_parse (t : List UInt8) (h : (parseR t).1 = 0) : rangesFault (parseR t).2 = 0 ∧ textL (parseR t).2 = t := by
  unfold parseR at h ⊢
  by_cases hp : (parseS t).2 = true
  case neg => rw [if_neg hp] at h; exact absurd h (by decide)
  rw [if_pos hp]
  unfold parseS at hp ⊢
  cases hq : wordsP (cutL 44 t) with
  | none => rw [hq] at hp; cases hp
  | some rs =>
    rw [hq] at hp
    simp only [decide_eq_true_eq] at hp
    have hlen := wordsP_length hq
    obtain ⟨h1, h2, h3⟩ := wordsP_some hq
    have hpos : 0 < (cutL 44 t).length := List.length_pos_iff.2 (cutL_ne _ _)
    have hf : rangesFault rs = 0 := by unfold rangesFault; rw [if_neg (by omega), if_pos h1]
    refine ⟨hf, ?_⟩
    unfold textL
    rw [h2]
    exact join_cutL 44 _
/-- What is drawn for a text of ranges, all within their bounds. -/
theorem ev_l11DrawOk (b : List Int) (hb : ∀ x ∈ b, 0 ≤ x ∧ x ≤ 255) (hl : b.length ≤ 1048576) (c : Nat) : ∀ (x : List S58) (p : Int), x.length + c ≤ 100 → c ≤ 10 → 0 ≤ p → p + 5 * c ≤ 1000 → x.all okRange = true → ∃ y q, Ev (fun k => spec_l11Draw.l0 k x (c : Int) b p) (y, q) ∧ y.length = x.length + c ∧ 0 ≤ q ∧ q ≤ p + 5 * c ∧ y.all okRange = true := by
  induction c with
  | zero =>
    intro x p _ _ h0 _ hx
    refine ⟨x, p, Ev.succ ?_, rfl, h0, by omega, hx⟩
    simp only [spec_l11Draw.l0]
    exact Ev.neg (by omega) (Ev.now _)
  | succ c ih =>
    intro x p hx hc h0 h1 hok
    obtain ⟨v1, e1, a1, b1⟩ := next_ok b hb hl p 6 (by omega) (by omega) (by omega) (by omega)
    obtain ⟨v2, e2, a2, b2⟩ := next_ok b hb hl (p + 1) 6 (by omega) (by omega) (by omega) (by omega)
    obtain ⟨v3, e3, m3⟩ := pick_ok b hb hl (p + 1 + 1) (by omega) (by omega) [wrap64 (1 + v1), wrap64 (1 + v2), 0, 999] (by simp) (by simp)
    obtain ⟨v4, e4, a4, b4⟩ := next_ok b hb hl (p + 1 + 1 + 1) 6 (by omega) (by omega) (by omega) (by omega)
    obtain ⟨v5, e5, m5⟩ := pick_ok b hb hl (p + 1 + 1 + 1 + 1) (by omega) (by omega) [v3, wrap64 (1 + v4), 0] (by simp) (by simp)
    have k3 : 0 ≤ v3 ∧ v3 ≤ 999 := by
      simp only [List.mem_cons, List.not_mem_nil, or_false] at m3
      rw [wid (x := 1 + v1) (by omega) (by omega), wid (x := 1 + v2) (by omega) (by omega)] at m3
      omega
    have k5 : 0 ≤ v5 ∧ v5 ≤ 999 := by
      simp only [List.mem_cons, List.not_mem_nil, or_false] at m5
      rw [wid (x := 1 + v4) (by omega) (by omega)] at m5
      omega
    obtain ⟨y, q, h, hy, hq0, hq1, hyo⟩ := ih (x ++ [⟨v3, v5⟩]) (p + 1 + 1 + 1 + 1 + 1) (by simp only [List.length_append, List.length_cons, List.length_nil]; omega) (by omega) (by omega) (by omega) (by
      rw [List.all_append, hok]
      simp only [List.all_cons, List.all_nil, Bool.true_and, Bool.and_true, okRange, decide_eq_true_eq]
      exact ⟨k3, k5⟩)
    refine ⟨y, q, Ev.succ ?_, by simp only [List.length_append, List.length_cons, List.length_nil] at hy; omega, hq0, by omega, hyo⟩
    simp only [spec_l11Draw.l0, e1, e2, e3, e4, e5, Option.bind_some]
    refine Ev.pos (by omega) (Ev.pos (by omega) ?_)
    rw [show wrap64 (((c + 1 : Nat) : Int) - 1) = (c : Int) by rw [wid (by omega) (by omega)]; omega]
    exact h
theorem bytesOf_len (t : ByteArray) : (bytesOf t).length = t.size := by
  unfold bytesOf
  rw [List.length_map, Lib.size_eq]
theorem ev_DrawParseSet (b : List Int) (hb : ∀ x ∈ b, 0 ≤ x ∧ x ≤ 255) (hl : b.length ≤ 1048576) : ∃ t, Ev (fun k => spec_DrawParseSet.f k b) t ∧ t.size ≤ 100 := by
  obtain ⟨v, e, hv0, hv1⟩ := next_ok b hb hl 0 3 (by omega) (by omega) (by omega) (by omega)
  obtain ⟨c, rfl⟩ : ∃ c : Nat, v = c := ⟨v.toNat, by omega⟩
  obtain ⟨y, q, h, hy, hq0, hq1, hok⟩ := ev_l11DrawOk b hb hl (1 + c) [] (0 + 1) (by simp only [List.length_nil]; omega) (by omega) (by omega) (by omega) rfl
  simp only [List.length_nil] at hy
  have hd : Ev (fun k => spec_l11Draw.f k b 0) (y, q) := by
    unfold spec_l11Draw.f
    simp only [e, Option.bind_some]
    rw [show wrap64 (1 + (c : Int)) = ((1 + c : Nat) : Int) by rw [wid (by omega) (by omega)]; omega]
    exact h
  have hne : 0 < (textL y).length := List.length_pos_iff.2 (textL_pos y (by omega) hok)
  have hle := textL_le y hok y.length (Nat.le_refl _)
  rw [List.take_length] at hle
  obtain ⟨w, e2, hw0, hw1⟩ := next_ok b hb hl q 5 (by omega) (by omega) (by omega) (by omega)
  obtain ⟨u, e3, hu0, hu1⟩ := next_ok b hb hl (q + 1) ((ba (textL y)).size : Int) (by omega) (by omega) (by rw [ba_size]; omega) (by rw [ba_size]; omega)
  obtain ⟨d, e4, _⟩ := pick_ok b hb hl (q + 1 + 1) (by omega) (by omega) [44, 58, 42, 48, 120] (by simp) (by simp)
  have hs := ba_size (textL y)
  unfold spec_DrawParseSet.f
  by_cases c0 : w = 0
  · refine ⟨strOfNums ((bytesOf (ba (textL y))).set u.toNat (d % 256)), Ev.bind hd (Ev.bind (ev_l11Text y (by omega) hok) (Ev.pos (by omega) ?_)), ?_⟩
    · simp only [e2, e3, e4, Option.bind_some]
      exact Ev.pos c0 (Ev.pos ⟨hu0, hu1⟩ (Ev.now _))
    · rw [strOfNums_size, List.length_set, bytesOf_len]; omega
  by_cases c1 : w = 1
  · refine ⟨strOfNums ((bytesOf (ba (textL y))).take u.toNat), Ev.bind hd (Ev.bind (ev_l11Text y (by omega) hok) (Ev.pos (by omega) ?_)), ?_⟩
    · simp only [e2, e3, e4, Option.bind_some]
      exact Ev.neg c0 (Ev.pos c1 (Ev.pos ⟨hu0, by omega⟩ (Ev.now _)))
    · rw [strOfNums_size, List.length_take, bytesOf_len]; omega
  · refine ⟨strOfNums (bytesOf (ba (textL y))), Ev.bind hd (Ev.bind (ev_l11Text y (by omega) hok) (Ev.pos (by omega) ?_)), ?_⟩
    · simp only [e2, e3, e4, Option.bind_some]
      exact Ev.neg c0 (Ev.neg c1 (Ev.now _))
    · rw [strOfNums_size, bytesOf_len]; omega
theorem ev_DrawSetOfL (b : List Int) (hb : ∀ x ∈ b, 0 ≤ x ∧ x ≤ 255) (hl : b.length ≤ 1048576) (c : Nat) : ∀ (x : List Int) (v p : Int), x.length + c ≤ 100 → c ≤ 10 → 0 ≤ v → v + 10 * c ≤ 1000 → 0 ≤ p → p + c ≤ 1000 → (∀ n ∈ x, -1000000 ≤ n ∧ n ≤ 1000000) → ∃ y, Ev (fun k => spec_DrawSetOf.l0 k x v (c : Int) b p) y ∧ y.length ≤ 101 ∧ (∀ n ∈ y, -1000000 ≤ n ∧ n ≤ 1000000) := by
  induction c with
  | zero =>
    intro x v p hx _ _ _ h0 h1 hok
    obtain ⟨w, e1, _, _⟩ := next_ok b hb hl p 10 (by omega) (by omega) (by omega) (by omega)
    obtain ⟨u, e2, m2⟩ := pick_ok b hb hl (p + 1) (by omega) (by omega) [0, 999, 1000, 1] (by simp) (by simp)
    by_cases hw : w = 0
    · refine ⟨x ++ [u], Ev.succ ?_, by simp; omega, fun n hn => ?_⟩
      · simp only [spec_DrawSetOf.l0, spec_l1Chance.f, e1, e2, Option.bind_some]
        exact Ev.neg (by omega) (Ev.pos (by simpa using hw) (Ev.pos (by omega) (Ev.now _)))
      · rcases List.mem_append.1 hn with hn | hn
        · exact hok n hn
        · rw [List.mem_singleton.1 hn]
          simp only [List.mem_cons, List.not_mem_nil, or_false] at m2
          omega
    · refine ⟨x, Ev.succ ?_, by omega, hok⟩
      simp only [spec_DrawSetOf.l0, spec_l1Chance.f, e1, Option.bind_some]
      exact Ev.neg (by omega) (Ev.neg (by simpa using hw) (Ev.now _))
  | succ c ih =>
    intro x v p hx hc hv0 hv1 h0 h1 hok
    obtain ⟨u, e1, m1⟩ := pick_ok b hb hl p (by omega) (by omega) [0, 0, 1, 5] (by simp) (by simp)
    have hu : 0 ≤ u ∧ u ≤ 5 := by
      simp only [List.mem_cons, List.not_mem_nil, or_false] at m1
      omega
    have ew : wrap64 (wrap64 (v + 1) + u) = v + 1 + u := by rw [wid (x := v + 1) (by omega) (by omega), wid (by omega) (by omega)]
    obtain ⟨y, h, hy, hyo⟩ := ih (x ++ [v + 1 + u]) (v + 1 + u) (p + 1) (by simp only [List.length_append, List.length_cons, List.length_nil]; omega) (by omega) (by omega) (by omega) (by omega) (by omega) (fun n hn => by
      rcases List.mem_append.1 hn with hn | hn
      · exact hok n hn
      · rw [List.mem_singleton.1 hn]; omega)
    refine ⟨y, Ev.succ ?_, hy, hyo⟩
    simp only [spec_DrawSetOf.l0, e1, Option.bind_some, ew]
    refine Ev.pos (by omega) (Ev.pos (by omega) ?_)
    rw [show wrap64 (((c + 1 : Nat) : Int) - 1) = (c : Int) by rw [wid (by omega) (by omega)]; omega]
    exact h
theorem ev_DrawSetOf (b : List Int) (hb : ∀ x ∈ b, 0 ≤ x ∧ x ≤ 255) (hl : b.length ≤ 1048576) : ∃ y, Ev (fun k => spec_DrawSetOf.f k b) y ∧ y.length ≤ 101 ∧ (∀ n ∈ y, -1000000 ≤ n ∧ n ≤ 1000000) := by
  obtain ⟨v, e, hv0, hv1⟩ := next_ok b hb hl 0 9 (by omega) (by omega) (by omega) (by omega)
  obtain ⟨c, rfl⟩ : ∃ c : Nat, v = c := ⟨v.toNat, by omega⟩
  obtain ⟨y, h, hy⟩ := ev_DrawSetOfL b hb hl c [] 0 (0 + 1) (by simp only [List.length_nil]; omega) (by omega) (by omega) (by omega) (by omega) (by omega) (by simp)
  refine ⟨y, ?_, hy⟩
  unfold spec_DrawSetOf.f
  simp only [src_eq, e, Option.bind_some]
  exact h
theorem sorted_eq : ∀ a b : List Int, a.Pairwise (· < ·) → b.Pairwise (· < ·) → (∀ n, n ∈ a ↔ n ∈ b) → a = b
  | [], [], _, _, _ => rfl
  | [], y :: b, _, _, h => absurd ((h y).2 (List.mem_cons_self ..)) (by simp)
  | x :: a, [], _, _, h => absurd ((h x).1 (List.mem_cons_self ..)) (by simp)
  | x :: a, y :: b, ha, hb, h => by
    obtain ⟨ha1, ha2⟩ := List.pairwise_cons.1 ha
    obtain ⟨hb1, hb2⟩ := List.pairwise_cons.1 hb
    have e : x = y := by
      rcases List.mem_cons.1 ((h x).1 (List.mem_cons_self ..)) with h1 | h1
      · exact h1
      · rcases List.mem_cons.1 ((h y).2 (List.mem_cons_self ..)) with h2 | h2
        · exact h2.symm
        · have := hb1 _ h1; have := ha1 _ h2; omega
    subst e
    rw [sorted_eq a b ha2 hb2 (fun n => ⟨fun hn => by
      rcases List.mem_cons.1 ((h n).1 (List.mem_cons_of_mem _ hn)) with h1 | h1
      · have := ha1 _ hn; omega
      · exact h1, fun hn => by
      rcases List.mem_cons.1 ((h n).2 (List.mem_cons_of_mem _ hn)) with h1 | h1
      · have := hb1 _ hn; omega
      · exact h1⟩)]
theorem expand_memS (x : List S58) (m : Int) (i : Nat) (n : Int) : n ∈ expand x m i ↔ (1 ≤ n ∧ n ≤ i) ∧ inSet x n m = true := by
  unfold expand
  rw [List.mem_filter, List.mem_map]
  constructor
  · rintro ⟨⟨j, hj, rfl⟩, h⟩
    rw [List.mem_range] at hj
    exact ⟨⟨by omega, by omega⟩, h⟩
  · rintro ⟨⟨h1, h2⟩, h⟩
    exact ⟨⟨(n - 1).toNat, List.mem_range.2 (by omega), by omega⟩, h⟩
theorem expand_rise (x : List S58) (m : Int) (i : Nat) : (expand x m i).Pairwise (· < ·) := by
  unfold expand
  refine List.Pairwise.filter _ (List.pairwise_map.2 ?_)
  exact List.Pairwise.imp (fun h => by omega) List.pairwise_lt_range
theorem uids_rise (x : List Int) (h : uidsOk x) : x.Pairwise (· < ·) := by
  have key : ∀ (j i : Nat), i < j → j < x.length → rd x (i : Int) < rd x (j : Int) := by
    intro j
    induction j with
    | zero => intro i hi; omega
    | succ j ih =>
      intro i hi hj
      have h1 := (h (j + 1) hj).2 (by omega)
      rw [Nat.add_sub_cancel] at h1
      by_cases hij : i = j
      · subst hij; exact h1
      · have := ih i (by omega) (by omega); omega
  refine List.pairwise_iff_getElem.2 (fun i j hi hj hij => ?_)
  have := key j i hij hj
  rw [rd_get x i hi, rd_get x j hj] at this
  exact this
theorem inRange_in (r : S58) (n : Int) (h1 : 1 ≤ r.f0) (h2 : r.f0 ≤ r.f1) : inRange 999 n r = true ↔ r.f0 ≤ n ∧ n ≤ r.f1 := by
  have e0 : endOf 999 r.f0 = r.f0 := if_neg (by omega)
  have e1 : endOf 999 r.f1 = r.f1 := if_neg (by omega)
  unfold inRange
  rw [e0, e1, decide_eq_true_eq]
  omega
theorem set_back (x : List Int) (h : (setOfR x).1 = 0) : expandSetF (setOfR x).2 999 = (0, x) ∧ (setOfR x).2.length ≤ 8 := by
  unfold setOfR at h ⊢
  by_cases h1 : 1 ≤ x.length ∧ x.length ≤ 60
  case neg => rw [if_neg h1] at h; exact absurd h (by decide)
  rw [if_pos h1] at h ⊢
  by_cases h2 : uidsOk x
  case neg => rw [if_neg h2] at h; exact absurd h (by decide)
  rw [if_pos h2] at h ⊢
  by_cases h8 : 8 < (rangesN x x.length).length
  · rw [if_pos h8] at h; exact absurd h (by decide)
  rw [if_neg h8] at h ⊢
  obtain ⟨_, k2, k3, k4⟩ := InvN_all x h2 x.length (Nat.le_refl _)
  rw [List.take_length] at k4
  have hp := (k2 (by omega)).1
  simp only
  generalize rangesN x x.length = s at h8 k3 k4 hp ⊢
  have hf : rangesFault s = 0 := by
    unfold rangesFault
    rw [if_neg (by omega), if_pos (List.all_eq_true.2 (fun r hr => by
      have := k3 r hr
      simp only [okRange, decide_eq_true_eq]
      omega))]
  refine ⟨?_, by omega⟩
  unfold expandSetF
  rw [if_pos hf, if_pos (by omega)]
  have he : expand s 999 (999 : Int).toNat = x := ?_
  · rw [he]
  refine sorted_eq _ _ (expand_rise _ _ _) (uids_rise x h2) (fun n => ?_)
  rw [expand_memS]
  have hin : inSet s n 999 = true ↔ n ∈ x := by
    rw [← k4 n]
    unfold inSet
    rw [List.any_eq_true]
    constructor
    · rintro ⟨r, hr, h⟩
      have := k3 r hr
      exact ⟨r, hr, (inRange_in r n this.1 this.2.1).1 h⟩
    · rintro ⟨r, hr, h, h'⟩
      have := k3 r hr
      exact ⟨r, hr, (inRange_in r n this.1 this.2.1).2 ⟨h, h'⟩⟩
  rw [hin]
  constructor
  · exact fun h => h.2
  · intro hn
    refine ⟨?_, hn⟩
    obtain ⟨i, hi, rfl⟩ := List.mem_iff_getElem.1 hn
    have := (h2 i hi).1
    rw [rd_get x i hi] at this
    exact ⟨this.1, by have := this.2; omega⟩
theorem sets_l0 (x : List S58) (hx : x.length ≤ 1048576) (c d : Int) (t : ByteArray) : Ev (fun k => laws_FnSets.l0 k x 0 c t d x) (t.toList != ([] : List UInt8)) := by
  have h := ev_find (fun k i => laws_FnSets.l0 k x i c t d x) x (fun _ => none) (t.toList != ([] : List UInt8)) ?_ ?_ ?_
  · rw [findSome_none] at h; exact h
  · refine Ev.succ ?_
    simp only [laws_FnSets.l0, Int.lt_irrefl, if_false]
    exact Ev.now _
  · intro i hi r hr; cases hr
  · intro i hi hr r h
    refine Ev.succ ?_
    simp only [laws_FnSets.l0, wsucc hi (show x.length ≤ 281474976710656 by omega)]
    exact Ev.pos (by omega) (Ev.pos (by omega) (Ev.pos (by omega) (Ev.neg (by simp) h)))
theorem sets_j1 (b : List Int) (hb : ∀ x ∈ b, 0 ≤ x ∧ x ≤ 255) (hl : b.length ≤ 1048576) : Ev (fun k => laws_FnSets.j1 k b false) true := by
  obtain ⟨x, q, hd, hx, _⟩ := ev_l11Bent b hb hl 0 (by omega) (by omega)
  have hI := ev_implSetText x (by omega)
  have hS := ev_specSetText x (by omega)
  have hD : Ev (fun k => spec_DrawSetText.f k b) x := by
    unfold spec_DrawSetText.f
    simp only [src_eq, Option.bind_some]
    exact Ev.bind hd (Ev.now _)
  refine Ev.succ ?_
  simp only [laws_FnSets.j1]
  refine Ev.neg (by simp) (Ev.bind hD (Ev.bind hI ?_))
  by_cases hf : rangesFault x = 0
  case neg =>
    have e : setTextR x = (rangesFault x, (⟨#[]⟩ : ByteArray)) := by unfold setTextR; rw [if_neg hf]
    rw [e] at hS ⊢
    refine Ev.neg hf (Ev.bind hS (Ev.pos rfl (Ev.bind (ev_implRangesFault x (by omega)) ?_)))
    simp only [beq_self_eq_true]
    exact Ev.now _
  have e : setTextR x = (0, ba (textL x)) := by unfold setTextR; rw [if_pos hf]
  rw [e]
  obtain ⟨h1, h2⟩ := right_of x hf
  have hle := textL_le x h2 x.length (Nat.le_refl _)
  rw [List.take_length] at hle
  have hp : 0 < x.length := by
    unfold rangesFault at hf
    by_cases h1 : x.length < 1 ∨ 8 < x.length
    · rw [if_pos h1] at hf; exact absurd hf (by decide)
    · omega
  have hP := ev_implParseSet (ba (textL x)) (by rw [ba_size]; omega)
  rw [ba_data, parse_text x hf] at hP
  refine Ev.pos rfl (Ev.bind hP (Ev.pos rfl (Ev.succ ?_)))
  simp only [laws_FnSets.j2]
  refine Ev.neg (by simp) ?_
  have h := sets_l0 x (by omega) 0 0 (ba (textL x))
  have e2 : ((ba (textL x)).toList != ([] : List UInt8)) = true := by
    rw [ByteArray.toList_eq, ba_data]
    simpa using textL_pos x hp h2
  rw [e2] at h
  exact h
theorem sets_j0 (b : List Int) (hb : ∀ x ∈ b, 0 ≤ x ∧ x ≤ 255) (hl : b.length ≤ 1048576) : Ev (fun k => laws_FnSets.j0 k b false) true := by
  obtain ⟨x, hd, hx, hxb⟩ := ev_DrawSetOf b hb hl
  have hj := sets_j1 b hb hl
  refine Ev.succ ?_
  simp only [laws_FnSets.j0]
  refine Ev.neg (by simp) (Ev.bind hd (Ev.bind (ev_implSetOf x (by omega) hxb) (Ev.bind (ev_specSetOf x (by omega) hxb) (Ev.pos rfl ?_))))
  by_cases h0 : (setOfR x).1 = 0
  case neg => exact Ev.neg h0 hj
  obtain ⟨hs, hl8⟩ := set_back x h0
  have hE := ev_implExpandSet (setOfR x).2 999 (by omega)
  rw [hs] at hE
  exact Ev.pos h0 (Ev.bind hE (Ev.bind (ev_lwNums x (by omega)) hj))
theorem FnSets : ∀ (l0 : List Int), (l0.length * 1 ≤ 140737488351232 ∧ ∀ x1_ ∈ l0, (Lit.int .u8 x1_).wf = true) → ∃ k, laws_FnSets.f k l0 = some true := by
  rintro b ⟨_, hb'⟩
  apply Ev.get
  unfold laws_FnSets.f
  refine Ev.bindc (b := decide ((b.length : Int) > 1048576)) rfl ?_
  by_cases hbig : (b.length : Int) > 1048576
  · exact Ev.pos (decide_eq_true hbig) (Ev.now _)
  have hb : ∀ x ∈ b, 0 ≤ x ∧ x ≤ 255 := by
    intro x hx
    have := hb' x hx
    simp only [Lit.wf, Bool.and_eq_true, decide_eq_true_eq] at this
    exact this
  have hl : b.length ≤ 1048576 := by omega
  obtain ⟨t, hd, ht⟩ := ev_DrawParseSet b hb hl
  have hj := sets_j0 b hb hl
  refine Ev.neg (by simpa using hbig) (Ev.bind hd (Ev.bind (ev_implParseSet t (by omega)) (Ev.bind (ev_specParseSet t (by omega)) (Ev.pos rfl ?_))))
  by_cases h0 : (parseR t.data.toList).1 = 0
  case neg => exact Ev.neg h0 hj
  obtain ⟨hf, hT⟩ := text_parse _ h0
  have hlen := parseR_length t.data.toList
  have hS := ev_implSetText (parseR t.data.toList).2 (by omega)
  have e : setTextR (parseR t.data.toList).2 = (0, ba (textL (parseR t.data.toList).2)) := by unfold setTextR; rw [if_pos hf]
  rw [e, hT, ba_of] at hS
  refine Ev.pos h0 (Ev.bind hS ?_)
  simp only [bne_self_eq_false]
  exact hj

end Go.Proofs.YtnehephjliankaaDoor.Pure

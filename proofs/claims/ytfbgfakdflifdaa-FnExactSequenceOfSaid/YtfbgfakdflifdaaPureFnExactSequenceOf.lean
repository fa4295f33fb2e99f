/- The law of SequenceOf, told of the printed functions. -/
import Derived.Test.YtfbgfakdflifdaaPFnExactSequenceOfx6
import Derived.Test.YtfbgfakdflifdaaU
namespace Go.Proofs.Ytfbgfakdflifdaa.Pure
open Go.RowKit Go.Proofs.Ytfbgfakdflifdaa.PFnExactSequenceOf Go.Proofs.YtfbgfakdflifdaaW.PrintWords Go.Proofs.YtfbgfakdflifdaaW.PrintLast Go.Proofs.Ytfbgfakdflifdaa.U
set_option linter.unusedSimpArgs false
set_option linter.unusedVariables false

def cvMessage (x : S166) : S133 := ⟨x.f0, x.f1, x.f2, x.f3⟩
def okMessage (x : S166) : Prop := x.f3.length ≤ 1048576
theorem rd_Message_get (x : List S133) (i : Nat) (h : i < x.length) : rd_T133 x (i : Int) = x[i] := by simp [rd_T133, List.getD_eq_getElem?_getD, h]
theorem rd_lMessage_get (x : List S166) (i : Nat) (h : i < x.length) : rd_T166 x (i : Int) = x[i] := by simp [rd_T166, List.getD_eq_getElem?_getD, h]
theorem szByteS_eq (x : List Int) (m : Int) (hx : x.length ≤ 140737488351232) (h0 : 0 ≤ m) (h1 : m ≤ 1048576) : laws_szByteS.f x m = some (if m - x.length < 0 then -1 else m - x.length) := by
  unfold laws_szByteS.f
  rw [wid (by omega) (by omega)]
  split <;> rfl
theorem szMessage_eq (a b c : Int) (x : List Int) (m : Int) (hx : x.length ≤ 140737488351232) (h0 : 0 ≤ m) (h1 : m ≤ 1048576) : laws_szMessage.f a b c x m = some (if m - x.length < 0 then -1 else m - x.length) := by
  unfold laws_szMessage.f
  rw [szByteS_eq x m hx h0 h1]
  simp only [Option.bind_some]
  split
  · rfl
  · rfl
theorem ev_szMessageS (x : List S166) (hx : x.length ≤ 140737488351232) (hin : ∀ y ∈ x, y.f3.length ≤ 140737488351232) (m : Int) (h0 : 0 ≤ m) (h1 : m ≤ 1048576) :
    ∃ r, Ev (fun k => laws_szMessageS.f k x m) r ∧ (r < 0 ∨ (0 ≤ r ∧ r ≤ m ∧ x.length ≤ 1048576 ∧ ∀ y ∈ x, okMessage y)) := by
  unfold laws_szMessageS.f
  simp only [wid (x := m - x.length) (by omega) (by omega)]
  by_cases hn : m - (x.length : Int) < 0
  · exact ⟨-1, Ev.pos hn (Ev.now _), .inl (by omega)⟩
  suffices H : ∃ r, Ev (fun k => laws_szMessageS.l0 k x (m - x.length) 0) r ∧ (r < 0 ∨ (0 ≤ r ∧ r ≤ m - x.length ∧ ∀ a ∈ x, okMessage a)) by
    obtain ⟨r, hr, hr'⟩ := H
    refine ⟨r, Ev.neg hn hr, ?_⟩
    rcases hr' with h | ⟨a, b, c⟩
    · exact .inl h
    · exact .inr ⟨a, by omega, by omega, c⟩
  refine ev_szL (fun k m i => laws_szMessageS.l0 k x m i) x okMessage ?_ ?_ (m - x.length) (by omega) (by omega)
  · intro m hm
    refine Ev.succ ?_
    simp only [laws_szMessageS.l0, Int.lt_irrefl, if_false]
    exact Ev.now _
  · intro i hi m hm0 hm1
    have hb := hin x[i] (List.getElem_mem hi)
    refine ⟨if m - x[i].f3.length < 0 then -1 else m - x[i].f3.length, ?_, ?_, ?_⟩
    · split
      · exact .inl (by omega)
      · exact .inr ⟨by omega, by omega, by unfold okMessage; omega⟩
    · intro hneg
      refine Ev.succ ?_
      simp only [laws_szMessageS.l0, rd_lMessage_get x i hi, szMessage_eq _ _ _ _ m hb hm0 hm1, Option.bind_some]
      exact Ev.pos (by omega) (Ev.pos (by omega) (Ev.pos hneg (Ev.now _)))
    · intro hpos q hq
      refine Ev.succ ?_
      simp only [laws_szMessageS.l0, rd_lMessage_get x i hi, szMessage_eq _ _ _ _ m hb hm0 hm1, Option.bind_some, wsucc hi (show x.length ≤ 281474976710656 by omega)]
      exact Ev.pos (by omega) (Ev.pos (by omega) (Ev.neg (by omega) hq))
theorem ev_toByteS (x : List Int) (hx : x.length ≤ 1048576) : Ev (fun k => laws_toByteS.f k x) x := by
  unfold laws_toByteS.f
  have h := ev_copy (fun k y i => laws_toByteS.l0 k x y i) x (fun a => a) (fun y => y) ?_ ?_ (List.replicate x.length 0) (by simp)
  · simp only [List.map_id'] at h
    refine Ev.pos (by omega) (Ev.pos (by omega) ?_)
    simp only [Int.toNat_natCast]
    exact h
  · refine Ev.succ ?_
    simp only [laws_toByteS.l0, Int.lt_irrefl, if_false]
    exact Ev.now _
  · intro i hi y hy r h
    refine Ev.succ ?_
    simp only [laws_toByteS.l0]
    refine Ev.pos (by omega) (Ev.pos (by omega) (Ev.pos (by omega) ?_))
    simp only [Int.toNat_natCast, rd_get x i hi, wsucc hi (show x.length ≤ 281474976710656 by omega)]
    exact h
theorem ev_toMessage (u fl d : Int) (x : List Int) (hx : x.length ≤ 1048576) : Ev (fun k => laws_toMessage.f k u fl d x) (u, fl, d, x) := by
  unfold laws_toMessage.f
  exact Ev.bind (ev_toByteS x hx) (Ev.now _)
theorem ev_toMessageS (x : List S166) (hx : x.length ≤ 1048576) (hin : ∀ y ∈ x, okMessage y) : Ev (fun k => laws_toMessageS.f k x) (x.map cvMessage) := by
  unfold laws_toMessageS.f
  have h := ev_copy (fun k y i => laws_toMessageS.l0 k x y i) x cvMessage (fun y => y) ?_ ?_ (List.replicate x.length z133) (by simp)
  · refine Ev.pos (by omega) (Ev.pos (by omega) ?_)
    simp only [Int.toNat_natCast]
    exact h
  · refine Ev.succ ?_
    simp only [laws_toMessageS.l0, Int.lt_irrefl, if_false]
    exact Ev.now _
  · intro i hi y hy r h
    refine Ev.succ ?_
    simp only [laws_toMessageS.l0, rd_lMessage_get x i hi]
    refine Ev.pos (by omega) (Ev.pos (by omega) (Ev.bind (ev_toMessage _ _ _ _ (hin _ (List.getElem_mem hi))) (Ev.pos (by omega) ?_)))
    simp only [Int.toNat_natCast, wsucc hi (show x.length ≤ 281474976710656 by omega)]
    exact h
theorem ev_eqByteS (x : List Int) (hx : x.length ≤ 1048576) : Ev (fun k => laws_eqByteS.f k x x) true := by
  unfold laws_eqByteS.f
  refine Ev.pos rfl ?_
  refine ev_iter (fun k (_ : Unit) i => laws_eqByteS.l0 k x x i) x.length (fun _ => ()) true ?_ ?_
  · refine Ev.succ ?_
    simp only [laws_eqByteS.l0, Int.lt_irrefl, if_false]
    exact Ev.now _
  · intro i hi r h
    refine Ev.succ ?_
    simp only [laws_eqByteS.l0]
    refine Ev.pos (by omega) (Ev.pos (by omega) (Ev.pos (by omega) (Ev.pos trivial ?_)))
    simp only [wsucc hi (show x.length ≤ 281474976710656 by omega)]
    exact h
theorem ev_eqMessage (u fl d : Int) (x : List Int) (hx : x.length ≤ 1048576) : Ev (fun k => laws_eqMessage.f k u fl d x u fl d x) true := by
  unfold laws_eqMessage.f
  refine Ev.pos rfl (Ev.pos rfl (Ev.pos rfl ?_))
  exact Ev.bind (ev_eqByteS x hx) (Ev.pos rfl (Ev.now _))
theorem ev_eqMessageS (x : List S133) (hx : x.length ≤ 1048576) (hin : ∀ y ∈ x, y.f3.length ≤ 1048576) : Ev (fun k => laws_eqMessageS.f k x x) true := by
  unfold laws_eqMessageS.f
  refine Ev.pos rfl ?_
  refine ev_iter (fun k (_ : Unit) i => laws_eqMessageS.l0 k x x i) x.length (fun _ => ()) true ?_ ?_
  · refine Ev.succ ?_
    simp only [laws_eqMessageS.l0, Int.lt_irrefl, if_false]
    exact Ev.now _
  · intro i hi r h
    refine Ev.succ ?_
    simp only [laws_eqMessageS.l0, rd_Message_get x i hi]
    refine Ev.pos (by omega) (Ev.pos (by omega) (Ev.pos (by omega) (Ev.bind (ev_eqMessage _ _ _ _ (hin _ (List.getElem_mem hi))) (Ev.pos rfl ?_))))
    simp only [wsucc hi (show x.length ≤ 281474976710656 by omega)]
    exact h
theorem ev_szBox (nm : ByteArray) (v nx : Int) (x : List S166) (hn : nm.size ≤ 140737488351232) (hx : x.length ≤ 140737488351232) (hin : ∀ y ∈ x, y.f3.length ≤ 140737488351232) (m : Int) (h0 : 0 ≤ m) (h1 : m ≤ 1048576) :
    ∃ r, Ev (fun k => laws_szBox.f k nm v nx x m) r ∧ (r < 0 ∨ (0 ≤ r ∧ r ≤ m ∧ nm.size ≤ 1048576 ∧ x.length ≤ 1048576 ∧ ∀ y ∈ x, okMessage y)) := by
  unfold laws_szBox.f
  simp only [wid (x := m - nm.size) (by omega) (by omega)]
  by_cases hneg : m - (nm.size : Int) < 0
  · exact ⟨-1, Ev.pos hneg (Ev.now _), .inl (by omega)⟩
  obtain ⟨r, hr, hr'⟩ := ev_szMessageS x hx hin (m - nm.size) (by omega) (by omega)
  rcases hr' with h | ⟨a, b, c, d⟩
  · exact ⟨-1, Ev.neg hneg (Ev.bind hr (Ev.pos h (Ev.now _))), .inl (by omega)⟩
  · exact ⟨r, Ev.neg hneg (Ev.bind hr (Ev.neg (by omega) (Ev.now _))), .inr ⟨a, by omega, by omega, c, d⟩⟩
theorem ev_toBox (nm : ByteArray) (v nx : Int) (x : List S166) (hx : x.length ≤ 1048576) (hin : ∀ y ∈ x, okMessage y) : Ev (fun k => laws_toBox.f k nm v nx x) (nm, v, nx, x.map cvMessage) := by
  unfold laws_toBox.f
  exact Ev.bind (ev_toMessageS x hx hin) (Ev.now _)
theorem ev_eqBox (nm : ByteArray) (v nx : Int) (x : List S133) (hx : x.length ≤ 1048576) (hin : ∀ y ∈ x, y.f3.length ≤ 1048576) : Ev (fun k => laws_eqBox.f k nm v nx x nm v nx x) true := by
  unfold laws_eqBox.f
  refine Ev.pos rfl (Ev.pos rfl (Ev.pos rfl ?_))
  exact Ev.bind (ev_eqMessageS x hx hin) (Ev.pos rfl (Ev.now _))
theorem ok_cv {x : List S166} (hin : ∀ y ∈ x, okMessage y) : ∀ y ∈ x.map cvMessage, y.f3.length ≤ 1048576 := by
  intro y hy
  obtain ⟨z, hz, rfl⟩ := List.mem_map.1 hy
  exact hin z hz
def isWord (s : ByteArray) (most : Int) : Bool := (List.range s.size).all (fun i => decide (97 ≤ bt s (i : Int) ∧ bt s (i : Int) ≤ 122)) && decide (1 ≤ (s.size : Int) ∧ (s.size : Int) ≤ most)
def msgFault (u fl d : Int) (n : Nat) : Int := if (1 ≤ u ∧ u ≤ 999) ∧ (0 ≤ fl ∧ fl ≤ 15) ∧ (0 ≤ d ∧ d ≤ 9999) then (if 400 < n then 2 else 0) else 3
def msgStep (nx : Int) (last : Int) (m : S133) : Int ⊕ Int :=
  if msgFault m.f0 m.f1 m.f2 m.f3.length ≠ 0 then .inl (msgFault m.f0 m.f1 m.f2 m.f3.length) else if m.f0 ≤ last ∨ nx ≤ m.f0 then .inl 1 else .inr m.f0
def msgsFault (nx : Int) (ms : List S133) : Int := match run (msgStep nx) ms 0 with | .inl r => r | .inr _ => 0
def boxFault (nm : ByteArray) (v nx : Int) (ms : List S133) : Int :=
  if isWord nm 8 = true then (if (1 ≤ v ∧ v ≤ 999) ∧ (1 ≤ nx ∧ nx ≤ 1000) then (if 6 < ms.length then 2 else msgsFault nx ms) else 3) else 5
theorem msgFault_uid {u fl d : Int} {n : Nat} (h : msgFault u fl d n = 0) : 1 ≤ u ∧ u ≤ 999 := by
  unfold msgFault at h
  split at h
  · rename_i h'; exact h'.1
  · omega
theorem l1In_eq (a b c : Int) : spec_l1In.f a b c = some (decide (b ≤ a ∧ a ≤ c)) := by
  unfold spec_l1In.f
  by_cases h : b ≤ a <;> simp [h]
theorem ev_l7Name (s : ByteArray) (hs : s.size ≤ 281474976710656) : Ev (fun k => spec_l7Name.f k s) (isWord s 8) := by
  unfold spec_l7Name.f isWord
  have h := ev_findI (fun k i => spec_l7Name.l0 k s i) s.size (fun i => if decide (97 ≤ bt s (i : Int) ∧ bt s (i : Int) ≤ 122) = true then none else some false) (decide (1 ≤ (s.size : Int) ∧ (s.size : Int) ≤ 8)) ?_ ?_ ?_
  · rw [find_guard] at h
    by_cases hall : (List.range s.size).all (fun i => decide (97 ≤ bt s (i : Int) ∧ bt s (i : Int) ≤ 122)) = true
    · rw [if_pos hall] at h; rw [hall, Bool.true_and]; exact h
    · rw [if_neg hall] at h; rw [Bool.not_eq_true] at hall; rw [hall, Bool.false_and]; exact h
  · refine Ev.succ ?_
    simp only [spec_l7Name.l0, Int.lt_irrefl, if_false, l1In_eq, Option.bind_some]
    exact Ev.now _
  · intro i hi r hr
    by_cases hc : 97 ≤ bt s (i : Int) ∧ bt s (i : Int) ≤ 122
    · rw [if_pos (decide_eq_true hc)] at hr; cases hr
    rw [if_neg (by simpa using hc)] at hr; cases hr
    refine Ev.succ ?_
    simp only [spec_l7Name.l0]
    refine Ev.pos (by omega) (Ev.pos (by omega) ?_)
    by_cases h1 : bt s (i : Int) < 97
    · exact Ev.pos h1 (Ev.now _)
    · exact Ev.neg h1 (Ev.pos (by omega) (Ev.now _))
  · intro i hi hr r h
    by_cases hc : 97 ≤ bt s (i : Int) ∧ bt s (i : Int) ≤ 122
    case neg => rw [if_neg (by simpa using hc)] at hr; cases hr
    refine Ev.succ ?_
    simp only [spec_l7Name.l0]
    refine Ev.pos (by omega) (Ev.pos (by omega) (Ev.neg (by omega) (Ev.neg (by omega) ?_)))
    simp only [wsucc hi (show s.size ≤ 281474976710656 by omega)]
    exact h
theorem ev_l7Message (m : S133) (l : List S133) : Ev (fun k => spec_l7Message.f k (m :: l)) (msgFault m.f0 m.f1 m.f2 m.f3.length) := by
  have e : rd_T133 (m :: l) 0 = m := rfl
  refine Ev.at 1 fun k => ?_
  have hl : (0 : Int) < ((m :: l).length : Int) := by simp only [List.length_cons]; omega
  simp only [spec_l7Message.f, spec_l7Message.j0, e, l1In_eq, Option.bind_some, hl, if_true, decide_eq_true_eq, msgFault]
  by_cases h0 : 1 ≤ m.f0 ∧ m.f0 ≤ 999 <;> by_cases h1 : 0 ≤ m.f1 ∧ m.f1 ≤ 15 <;> by_cases h2 : 0 ≤ m.f2 ∧ m.f2 ≤ 9999 <;> by_cases h3 : 400 < m.f3.length <;> simp [h0, h1, h2, h3] <;> first | done | omega
theorem ev_l7Box (b : S51) (l : List S51) (hn : b.f0.size ≤ 1048576) (hm : b.f3.length ≤ 1048576) : Ev (fun k => spec_l7Box.f k (b :: l)) (boxFault b.f0 b.f1 b.f2 b.f3) := by
  have e : rd_T51 (b :: l) 0 = b := rfl
  have hl : (0 : Int) < ((b :: l).length : Int) := by simp only [List.length_cons]; omega
  unfold spec_l7Box.f boxFault
  refine Ev.pos hl ?_
  simp only [e]
  refine Ev.bind (ev_l7Name b.f0 (by omega)) ?_
  by_cases h0 : isWord b.f0 8 = true
  case neg => rw [if_neg h0]; exact Ev.neg h0 (Ev.now _)
  rw [if_pos h0]
  refine Ev.pos h0 ?_
  simp only [l1In_eq, Option.bind_some]
  by_cases h1 : 1 ≤ b.f1 ∧ b.f1 ≤ 999
  case neg =>
    rw [if_neg (fun h => h1 h.1)]
    refine Ev.neg (by simpa using h1) (Ev.succ ?_)
    simp only [spec_l7Box.j0, if_true]
    exact Ev.now _
  refine Ev.pos (decide_eq_true h1) (Ev.succ ?_)
  by_cases h2 : 1 ≤ b.f2 ∧ b.f2 ≤ 1000
  case neg =>
    rw [if_neg (fun h => h2 h.2)]
    simp only [spec_l7Box.j0]
    exact Ev.pos (by simp [h2]) (Ev.now _)
  rw [if_pos ⟨h1, h2⟩]
  simp only [spec_l7Box.j0, e]
  refine Ev.neg (by simp [h2]) (Ev.pos hl ?_)
  by_cases h3 : 6 < b.f3.length
  · rw [if_pos h3]; exact Ev.pos (by omega) (Ev.now _)
  rw [if_neg h3]
  refine Ev.neg (by omega) ?_
  unfold msgsFault
  have hmsg : ∀ (i : Nat) (hi : i < b.f3.length), Ev (fun k => spec_l7Message.f k (b.f3.drop i)) (msgFault b.f3[i].f0 b.f3[i].f1 b.f3[i].f2 b.f3[i].f3.length) := by
    intro i hi
    rw [List.drop_eq_getElem_cons hi]
    exact ev_l7Message _ _
  have h := ev_run (fun k (_ : Int) i => spec_l7Box.l0 k (b :: l) i) b.f3 (msgStep b.f2) (fun _ => 0) (fun i s => (i = 0 → s = 0) ∧ (∀ hi : 0 < i ∧ i ≤ b.f3.length, s = (b.f3[i - 1]'(by omega)).f0)) ?_ ?_ ?_ 0 0 (by omega) ⟨fun _ => rfl, fun h => absurd h.1 (by omega)⟩
  · rw [List.drop_zero] at h; revert h; cases run (msgStep b.f2) b.f3 0 <;> exact fun h => h
  · intro s _
    refine Ev.succ ?_
    simp only [spec_l7Box.l0, e, Int.lt_irrefl, if_false]
    exact Ev.pos hl (Ev.now _)
  · intro i hi s r hI hr
    refine Ev.succ ?_
    simp only [spec_l7Box.l0, e]
    refine Ev.pos hl (Ev.pos (by omega) (Ev.pos (by omega) ?_))
    simp only [Int.toNat_natCast]
    refine Ev.bind (hmsg i hi) ?_
    simp only [msgStep] at hr
    by_cases hf : msgFault b.f3[i].f0 b.f3[i].f1 b.f3[i].f2 b.f3[i].f3.length = 0
    case neg => rw [if_pos hf] at hr; cases hr; exact Ev.neg hf (Ev.now _)
    rw [if_neg (by simpa using hf)] at hr
    refine Ev.pos hf ?_
    have hu := msgFault_uid hf
    by_cases hc : b.f3[i].f0 ≤ s ∨ b.f2 ≤ b.f3[i].f0
    case neg => rw [if_neg hc] at hr; cases hr
    rw [if_pos hc] at hr; cases hr
    by_cases hi0 : 0 < i
    · have hs := hI.2 ⟨hi0, by omega⟩
      refine Ev.pos (by omega) ?_
      simp only [wpred hi0 (show i ≤ 281474976710656 by omega), rd_Message_get _ i hi, rd_Message_get _ (i - 1) (show i - 1 < b.f3.length by omega), ← hs]
      refine Ev.pos (by omega) (Ev.pos (by omega) ?_)
      by_cases hc1 : b.f3[i].f0 ≤ s
      · exact Ev.pos hc1 (Ev.now _)
      · exact Ev.neg hc1 (Ev.pos (by omega) (Ev.now _))
    · have hs := hI.1 (by omega)
      refine Ev.neg (by omega) ?_
      simp only [rd_Message_get _ i hi]
      exact Ev.pos (by omega) (Ev.now _)
  · intro i hi s s' hI hr
    simp only [msgStep] at hr
    by_cases hf : msgFault b.f3[i].f0 b.f3[i].f1 b.f3[i].f2 b.f3[i].f3.length = 0
    case neg => rw [if_pos hf] at hr; cases hr
    rw [if_neg (by simpa using hf)] at hr
    by_cases hc : b.f3[i].f0 ≤ s ∨ b.f2 ≤ b.f3[i].f0
    · rw [if_pos hc] at hr; cases hr
    rw [if_neg hc] at hr; cases hr
    refine ⟨⟨fun h => by omega, fun h => by simp⟩, fun r h => ?_⟩
    refine Ev.succ ?_
    simp only [spec_l7Box.l0, e]
    refine Ev.pos hl (Ev.pos (by omega) (Ev.pos (by omega) ?_))
    simp only [Int.toNat_natCast]
    refine Ev.bind (hmsg i hi) (Ev.pos hf ?_)
    by_cases hi0 : 0 < i
    · have hs := hI.2 ⟨hi0, by omega⟩
      refine Ev.pos (by omega) ?_
      simp only [wpred hi0 (show i ≤ 281474976710656 by omega), rd_Message_get _ i hi, rd_Message_get _ (i - 1) (show i - 1 < b.f3.length by omega), ← hs, wsucc hi (show b.f3.length ≤ 281474976710656 by omega)]
      exact Ev.pos (by omega) (Ev.pos (by omega) (Ev.neg (by omega) (Ev.neg (by omega) h)))
    · refine Ev.neg (by omega) ?_
      simp only [rd_Message_get _ i hi, wsucc hi (show b.f3.length ≤ 281474976710656 by omega)]
      exact Ev.neg (by omega) h
theorem ev_isSmallWord (s : ByteArray) (most : Int) (hs : s.size ≤ 281474976710656) : Ev (fun k => impl_isSmallWord.f k s most) (isWord s most) := by
  unfold impl_isSmallWord.f isWord
  have h := ev_findI (fun k i => impl_isSmallWord.l0 k s most (s.size : Int) i) s.size (fun i => if decide (97 ≤ bt s (i : Int) ∧ bt s (i : Int) ≤ 122) = true then none else some false) (decide (1 ≤ (s.size : Int) ∧ (s.size : Int) ≤ most)) ?_ ?_ ?_
  · rw [find_guard] at h
    by_cases hall : (List.range s.size).all (fun i => decide (97 ≤ bt s (i : Int) ∧ bt s (i : Int) ≤ 122)) = true
    · rw [if_pos hall] at h; rw [hall, Bool.true_and]; exact h
    · rw [if_neg hall] at h; rw [Bool.not_eq_true] at hall; rw [hall, Bool.false_and]; exact h
  · refine Ev.succ ?_
    simp only [impl_isSmallWord.l0, Int.lt_irrefl, if_false]
    by_cases h1 : 1 ≤ (s.size : Int)
    · refine Ev.pos h1 ?_; simp only [h1, true_and]; exact Ev.now _
    · refine Ev.neg h1 ?_; simp only [h1, false_and, decide_false]; exact Ev.now _
  · intro i hi r hr
    by_cases hc : 97 ≤ bt s (i : Int) ∧ bt s (i : Int) ≤ 122
    · rw [if_pos (decide_eq_true hc)] at hr; cases hr
    rw [if_neg (by simpa using hc)] at hr; cases hr
    refine Ev.succ ?_
    simp only [impl_isSmallWord.l0]
    refine Ev.pos (by omega) (Ev.pos (by omega) (Ev.pos (by omega) ?_))
    by_cases h1 : bt s (i : Int) < 97
    · exact Ev.pos h1 (Ev.now _)
    · exact Ev.neg h1 (Ev.pos (by omega) (Ev.now _))
  · intro i hi hr r h
    by_cases hc : 97 ≤ bt s (i : Int) ∧ bt s (i : Int) ≤ 122
    case neg => rw [if_neg (by simpa using hc)] at hr; cases hr
    refine Ev.succ ?_
    simp only [impl_isSmallWord.l0]
    refine Ev.pos (by omega) (Ev.pos (by omega) (Ev.pos (by omega) (Ev.neg (by omega) (Ev.neg (by omega) ?_))))
    simp only [wsucc hi (show s.size ≤ 281474976710656 by omega)]
    exact h
theorem within_eq (a b c : Int) : impl_within.f a b c = some (decide (b ≤ a ∧ a ≤ c)) := by
  unfold impl_within.f
  by_cases h : b ≤ a <;> simp [h]
theorem ev_implMessageFault (u fl d : Int) (x : List Int) : Ev (fun k => impl_MessageFault.f k u fl d x) (msgFault u fl d x.length) := by
  refine Ev.at 1 fun k => ?_
  simp only [impl_MessageFault.f, impl_MessageFault.j0, impl_isUid.f, impl_areFlags.f, impl_isDate.f, within_eq, Option.bind_some, decide_eq_true_eq, msgFault]
  by_cases h0 : 1 ≤ u ∧ u ≤ 999 <;> by_cases h1 : 0 ≤ fl ∧ fl ≤ 15 <;> by_cases h2 : 0 ≤ d ∧ d ≤ 9999 <;> by_cases h3 : 400 < x.length <;> simp [h0, h1, h2, h3] <;> first | done | omega
theorem ev_implBoxFault (nm : ByteArray) (v nx : Int) (ms : List S133) (hn : nm.size ≤ 1048576) (hm : ms.length ≤ 1048576) : Ev (fun k => impl_BoxFault.f k nm v nx ms) (boxFault nm v nx ms) := by
  unfold impl_BoxFault.f boxFault
  refine Ev.bind (a := isWord nm 8) (by unfold impl_isName.f; exact Ev.bind (ev_isSmallWord nm 8 (by omega)) (Ev.now _)) ?_
  by_cases h0 : isWord nm 8 = true
  case neg => rw [if_neg h0]; exact Ev.neg h0 (Ev.now _)
  rw [if_pos h0]
  refine Ev.pos h0 ?_
  simp only [within_eq, Option.bind_some]
  by_cases h1 : 1 ≤ v ∧ v ≤ 999
  case neg =>
    rw [if_neg (fun h => h1 h.1)]
    refine Ev.neg (by simpa using h1) (Ev.succ ?_)
    simp only [impl_BoxFault.j0, if_true]
    exact Ev.now _
  refine Ev.pos (decide_eq_true h1) (Ev.succ ?_)
  by_cases h2 : 1 ≤ nx ∧ nx ≤ 1000
  case neg =>
    rw [if_neg (fun h => h2 h.2)]
    simp only [impl_BoxFault.j0]
    exact Ev.pos (by simp [h2]) (Ev.now _)
  rw [if_pos ⟨h1, h2⟩]
  simp only [impl_BoxFault.j0]
  refine Ev.neg (by simp [h2]) ?_
  by_cases h3 : 6 < ms.length
  · rw [if_pos h3]; exact Ev.pos (by omega) (Ev.now _)
  rw [if_neg h3]
  refine Ev.neg (by omega) ?_
  unfold msgsFault
  have h := ev_run (fun k s i => impl_BoxFault.l0 k s ms (ms.length : Int) i nm v nx ms) ms (msgStep nx) (fun _ => 0) (fun _ _ => True) ?_ ?_ ?_ 0 0 (by omega) trivial
  · rw [List.drop_zero] at h; revert h; cases run (msgStep nx) ms 0 <;> exact fun h => h
  · intro s _
    refine Ev.succ ?_
    simp only [impl_BoxFault.l0, Int.lt_irrefl, if_false]
    exact Ev.now _
  · intro i hi s r _ hr
    refine Ev.succ ?_
    simp only [impl_BoxFault.l0, rd_Message_get _ i hi]
    refine Ev.pos (by omega) (Ev.pos (by omega) (Ev.pos (by omega) (Ev.bind (ev_implMessageFault _ _ _ _) ?_)))
    simp only [msgStep] at hr
    by_cases hf : msgFault ms[i].f0 ms[i].f1 ms[i].f2 ms[i].f3.length = 0
    case neg => rw [if_pos hf] at hr; cases hr; exact Ev.neg hf (Ev.now _)
    rw [if_neg (by simpa using hf)] at hr
    refine Ev.pos hf ?_
    by_cases hc : ms[i].f0 ≤ s ∨ nx ≤ ms[i].f0
    case neg => rw [if_neg hc] at hr; cases hr
    rw [if_pos hc] at hr; cases hr
    by_cases hc1 : ms[i].f0 ≤ s
    · exact Ev.pos hc1 (Ev.now _)
    · exact Ev.neg hc1 (Ev.pos (by omega) (Ev.now _))
  · intro i hi s s' _ hr
    simp only [msgStep] at hr
    by_cases hf : msgFault ms[i].f0 ms[i].f1 ms[i].f2 ms[i].f3.length = 0
    case neg => rw [if_pos hf] at hr; cases hr
    rw [if_neg (by simpa using hf)] at hr
    by_cases hc : ms[i].f0 ≤ s ∨ nx ≤ ms[i].f0
    · rw [if_pos hc] at hr; cases hr
    rw [if_neg hc] at hr; cases hr
    refine ⟨trivial, fun r h => ?_⟩
    refine Ev.succ ?_
    simp only [impl_BoxFault.l0, rd_Message_get _ i hi, wsucc hi (show ms.length ≤ 281474976710656 by omega)]
    refine Ev.pos (by omega) (Ev.pos (by omega) (Ev.pos (by omega) (Ev.bind (ev_implMessageFault _ _ _ _) (Ev.pos hf (Ev.neg (by omega) (Ev.neg (by omega) h))))))
def uidAt (ms : List S133) (u : Int) : Int := (((List.range ms.length).findSome? fun (i : Nat) => if (rd_T133 ms (i : Int)).f0 = u then some (i : Int) else none)).getD (-1)
theorem ev_l7Uid (b : S51) (l : List S51) (u : Int) (hm : b.f3.length ≤ 1048576) : Ev (fun k => spec_l7Uid.f k (b :: l) u) (uidAt b.f3 u) := by
  have e : rd_T51 (b :: l) 0 = b := rfl
  have hl : (0 : Int) < ((b :: l).length : Int) := by simp only [List.length_cons]; omega
  unfold spec_l7Uid.f uidAt
  refine ev_findI (fun k i => spec_l7Uid.l0 k (b :: l) u i) b.f3.length _ (-1) ?_ ?_ ?_
  · refine Ev.succ ?_
    simp only [spec_l7Uid.l0, e, Int.lt_irrefl, if_false]
    exact Ev.pos hl (Ev.now _)
  · intro i hi r hr
    refine Ev.succ ?_
    simp only [spec_l7Uid.l0, e]
    refine Ev.pos hl (Ev.pos (by omega) (Ev.pos (by omega) ?_))
    by_cases hc : (rd_T133 b.f3 (i : Int)).f0 = u
    · rw [if_pos hc] at hr; cases hr; exact Ev.pos hc (Ev.now _)
    · rw [if_neg hc] at hr; cases hr
  · intro i hi hr r h
    refine Ev.succ ?_
    simp only [spec_l7Uid.l0, e, wsucc hi (show b.f3.length ≤ 281474976710656 by omega)]
    refine Ev.pos hl (Ev.pos (by omega) (Ev.pos (by omega) ?_))
    by_cases hc : (rd_T133 b.f3 (i : Int)).f0 = u
    · rw [if_pos hc] at hr; cases hr
    · exact Ev.neg hc h
theorem ev_boxmessage (nm : ByteArray) (v nx : Int) (ms : List S133) (u : Int) (hm : ms.length ≤ 1048576) : Ev (fun k => impl_Box_message.f k nm v nx ms u) (uidAt ms u) := by
  unfold impl_Box_message.f
  refine Ev.bind ?_ (Ev.now _)
  unfold impl_Message_v0.f uidAt
  have hv : ∀ a b c (d : List Int), impl_Box_message_1_v1.f a b c d [u] = some (a == u) := by intro a b c d; rfl
  refine ev_findI (fun k i => impl_Message_v0.l0 k ms (ms.length : Int) i [u]) ms.length _ (-1) ?_ ?_ ?_
  · refine Ev.succ ?_
    simp only [impl_Message_v0.l0, Int.lt_irrefl, if_false]
    exact Ev.now _
  · intro i hi r hr
    refine Ev.succ ?_
    simp only [impl_Message_v0.l0, hv, Option.bind_some, beq_iff_eq]
    refine Ev.pos (by omega) (Ev.pos (by omega) (Ev.pos (by omega) ?_))
    by_cases hc : (rd_T133 ms (i : Int)).f0 = u
    · rw [if_pos hc] at hr; cases hr; exact Ev.pos hc (Ev.now _)
    · rw [if_neg hc] at hr; cases hr
  · intro i hi hr r h
    refine Ev.succ ?_
    simp only [impl_Message_v0.l0, hv, Option.bind_some, beq_iff_eq, wsucc hi (show ms.length ≤ 281474976710656 by omega)]
    refine Ev.pos (by omega) (Ev.pos (by omega) (Ev.pos (by omega) ?_))
    by_cases hc : (rd_T133 ms (i : Int)).f0 = u
    · rw [if_pos hc] at hr; cases hr
    · exact Ev.neg hc h
def seqOf (nm : ByteArray) (v nx : Int) (ms : List S133) (u : Int) : Int × Int :=
  if boxFault nm v nx ms = 0 then (if uidAt ms u < 0 then (4, 0) else (0, wrap64 (uidAt ms u + 1))) else (boxFault nm v nx ms, 0)
theorem FnExactSequenceOf : ∀ (a0_0 : ByteArray) (a0_1 : Int) (a0_2 : Int) (l0_3 : List (S166)) (a1 : Int), a0_0.size ≤ 140737488351232 → (Lit.int .i64 a0_1).wf = true → (Lit.int .i64 a0_2).wf = true → (l0_3.length * 48 ≤ 140737488351232 ∧ ∀ x1_ ∈ l0_3, ((Lit.int .i64 x1_.f0).wf = true ∧ (Lit.int .i64 x1_.f1).wf = true ∧ (Lit.int .i64 x1_.f2).wf = true ∧ (x1_.f3.length * 1 ≤ 140737488351232 ∧ ∀ x2_ ∈ x1_.f3, (Lit.int .u8 x2_).wf = true))) → (Lit.int .i64 a1).wf = true → ∃ k, laws_FnExactSequenceOf.f k a0_0 a0_1 a0_2 l0_3 a1 = some true := by
  rintro nm v nx x u hn _ _ ⟨hx, hin⟩ _
  apply Ev.get
  unfold laws_FnExactSequenceOf.f
  obtain ⟨r, hr, hr'⟩ := ev_szBox nm v nx x hn (by omega) (fun y hy => by have := (hin y hy).2.2.2.1; omega) 1048576 (by omega) (by omega)
  refine Ev.bind hr ?_
  rcases hr' with h | ⟨h0, _, hn', hx', hok⟩
  · exact Ev.pos h (Ev.now _)
  have hl : (x.map cvMessage).length ≤ 1048576 := by simpa using hx'
  have hto := ev_toBox nm v nx x hx' hok
  have hs : Ev (fun k => spec_SequenceOf.f k nm v nx (x.map cvMessage) u) (seqOf nm v nx (x.map cvMessage) u) := by
    unfold spec_SequenceOf.f seqOf
    refine Ev.bind (ev_l7Box ⟨nm, v, nx, x.map cvMessage⟩ [] hn' hl) (Ev.ite (fun _ => ?_) (fun _ => Ev.now _))
    exact Ev.bind (ev_l7Uid ⟨nm, v, nx, x.map cvMessage⟩ [] u hl) (Ev.ite (fun _ => Ev.now _) (fun _ => Ev.now _))
  have hi : Ev (fun k => impl_SequenceOf.f k nm v nx (x.map cvMessage) u) (seqOf nm v nx (x.map cvMessage) u) := by
    unfold impl_SequenceOf.f seqOf
    refine Ev.bind (ev_implBoxFault nm v nx _ hn' hl) (Ev.ite (fun _ => ?_) (fun _ => Ev.now _))
    exact Ev.bind (ev_boxmessage nm v nx _ u hl) (Ev.ite (fun _ => Ev.now _) (fun _ => Ev.now _))
  refine Ev.neg (by omega) (Ev.bind hto (Ev.bind hs (Ev.bind hto (Ev.bind hi ?_))))
  refine Ev.bindc (b := true) ?_ (Ev.pos rfl (Ev.bind hto ?_))
  · unfold laws_eqIntResult.f; simp
  · exact Ev.bind (ev_eqBox nm v nx _ hl (ok_cv hok)) (Ev.pos rfl (Ev.now _))

end Go.Proofs.Ytfbgfakdflifdaa.Pure

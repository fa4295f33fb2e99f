/- The law of StoreFault, told of the printed functions. -/
import Derived.Test.YtfbgfakdflifdaaPFnExactStoreFaultx8
import Derived.Test.YtfbgfakdflifdaaU
namespace Go.Proofs.Ytfbgfakdflifdaa.Pure
open Go.RowKit Go.Proofs.Ytfbgfakdflifdaa.PFnExactStoreFault Go.Proofs.YtfbgfakdflifdaaW.PrintWords Go.Proofs.YtfbgfakdflifdaaW.PrintLast Go.Proofs.Ytfbgfakdflifdaa.U
set_option linter.unusedSimpArgs false
set_option linter.unusedVariables false

def cvMessage (x : S166) : S133 := ⟨x.f0, x.f1, x.f2, x.f3⟩
def okMessage (x : S166) : Prop := x.f3.length ≤ 1048576
theorem rd_Message_get (x : List S133) (i : Nat) (h : i < x.length) : rd_T133 x (i : Int) = x[i] := by simp [rd_T133, List.getD_eq_getElem?_getD, h]
theorem rd_lMessage_get (x : List S166) (i : Nat) (h : i < x.length) : rd_T166 x (i : Int) = x[i] := by simp [rd_T166, List.getD_eq_getElem?_getD, h]
def cvBox (x : S46) : S51 := ⟨x.f0, x.f1, x.f2, x.f3.map cvMessage⟩
def okBox (x : S46) : Prop := x.f0.size ≤ 1048576 ∧ x.f3.length ≤ 1048576 ∧ ∀ y ∈ x.f3, okMessage y
def okIBox (x : S51) : Prop := x.f0.size ≤ 1048576 ∧ x.f3.length ≤ 1048576 ∧ ∀ y ∈ x.f3, y.f3.length ≤ 1048576
theorem rd_Box_get (x : List S51) (i : Nat) (h : i < x.length) : rd_T51 x (i : Int) = x[i] := by simp [rd_T51, List.getD_eq_getElem?_getD, h]
theorem rd_lBox_get (x : List S46) (i : Nat) (h : i < x.length) : rd_T46 x (i : Int) = x[i] := by simp [rd_T46, List.getD_eq_getElem?_getD, h]
theorem okI_cv {x : List S46} (hin : ∀ y ∈ x, okBox y) : ∀ y ∈ x.map cvBox, okIBox y := by
  intro y hy
  obtain ⟨z, hz, rfl⟩ := List.mem_map.1 hy
  obtain ⟨h1, h2, h3⟩ := hin z hz
  refine ⟨h1, by simpa [cvBox] using h2, ?_⟩
  intro u hu
  obtain ⟨t, ht, rfl⟩ := List.mem_map.1 hu
  exact h3 t ht
theorem szByteS_eq (x : List Int) (m : Int) (hx : x.length ≤ 140737488351232) (h0 : 0 ≤ m) (h1 : m ≤ 1048576) : laws_szByteS.f x m = some (if m - x.length < 0 then -1 else m - x.length) := by
  unfold laws_szByteS.f
  rw [wid (by omega) (by omega)]
  split <;> rfl
theorem szMessage_eq (a b c : Int) (x : List Int) (m : Int) (hx : x.length ≤ 140737488351232) (h0 : 0 ≤ m) (h1 : m ≤ 1048576) : laws_szMessage.f a b c x m = some (if m - x.length < 0 then -1 else m - x.length) := by
  unfold laws_szMessage.f
  rw [szByteS_eq x m hx h0 h1]
  simp only [Option.bind_some]
  split
  · rfl
  · rfl
theorem ev_szMessageS (x : List S166) (hx : x.length ≤ 140737488351232) (hin : ∀ y ∈ x, y.f3.length ≤ 140737488351232) (m : Int) (h0 : 0 ≤ m) (h1 : m ≤ 1048576) :
    ∃ r, Ev (fun k => laws_szMessageS.f k x m) r ∧ (r < 0 ∨ (0 ≤ r ∧ r ≤ m ∧ x.length ≤ 1048576 ∧ ∀ y ∈ x, okMessage y)) := by
  unfold laws_szMessageS.f
  simp only [wid (x := m - x.length) (by omega) (by omega)]
  by_cases hn : m - (x.length : Int) < 0
  · exact ⟨-1, Ev.pos hn (Ev.now _), .inl (by omega)⟩
  suffices H : ∃ r, Ev (fun k => laws_szMessageS.l0 k x (m - x.length) 0) r ∧ (r < 0 ∨ (0 ≤ r ∧ r ≤ m - x.length ∧ ∀ a ∈ x, okMessage a)) by
    obtain ⟨r, hr, hr'⟩ := H
    refine ⟨r, Ev.neg hn hr, ?_⟩
    rcases hr' with h | ⟨a, b, c⟩
    · exact .inl h
    · exact .inr ⟨a, by omega, by omega, c⟩
  refine ev_szL (fun k m i => laws_szMessageS.l0 k x m i) x okMessage ?_ ?_ (m - x.length) (by omega) (by omega)
  · intro m hm
    refine Ev.succ ?_
    simp only [laws_szMessageS.l0, Int.lt_irrefl, if_false]
    exact Ev.now _
  · intro i hi m hm0 hm1
    have hb := hin x[i] (List.getElem_mem hi)
    refine ⟨if m - x[i].f3.length < 0 then -1 else m - x[i].f3.length, ?_, ?_, ?_⟩
    · split
      · exact .inl (by omega)
      · exact .inr ⟨by omega, by omega, by unfold okMessage; omega⟩
    · intro hneg
      refine Ev.succ ?_
      simp only [laws_szMessageS.l0, rd_lMessage_get x i hi, szMessage_eq _ _ _ _ m hb hm0 hm1, Option.bind_some]
      exact Ev.pos (by omega) (Ev.pos (by omega) (Ev.pos hneg (Ev.now _)))
    · intro hpos q hq
      refine Ev.succ ?_
      simp only [laws_szMessageS.l0, rd_lMessage_get x i hi, szMessage_eq _ _ _ _ m hb hm0 hm1, Option.bind_some, wsucc hi (show x.length ≤ 281474976710656 by omega)]
      exact Ev.pos (by omega) (Ev.pos (by omega) (Ev.neg (by omega) hq))
theorem ev_toByteS (x : List Int) (hx : x.length ≤ 1048576) : Ev (fun k => laws_toByteS.f k x) x := by
  unfold laws_toByteS.f
  have h := ev_copy (fun k y i => laws_toByteS.l0 k x y i) x (fun a => a) (fun y => y) ?_ ?_ (List.replicate x.length 0) (by simp)
  · simp only [List.map_id'] at h
    refine Ev.pos (by omega) (Ev.pos (by omega) ?_)
    simp only [Int.toNat_natCast]
    exact h
  · refine Ev.succ ?_
    simp only [laws_toByteS.l0, Int.lt_irrefl, if_false]
    exact Ev.now _
  · intro i hi y hy r h
    refine Ev.succ ?_
    simp only [laws_toByteS.l0]
    refine Ev.pos (by omega) (Ev.pos (by omega) (Ev.pos (by omega) ?_))
    simp only [Int.toNat_natCast, rd_get x i hi, wsucc hi (show x.length ≤ 281474976710656 by omega)]
    exact h
theorem ev_toMessage (u fl d : Int) (x : List Int) (hx : x.length ≤ 1048576) : Ev (fun k => laws_toMessage.f k u fl d x) (u, fl, d, x) := by
  unfold laws_toMessage.f
  exact Ev.bind (ev_toByteS x hx) (Ev.now _)
theorem ev_toMessageS (x : List S166) (hx : x.length ≤ 1048576) (hin : ∀ y ∈ x, okMessage y) : Ev (fun k => laws_toMessageS.f k x) (x.map cvMessage) := by
  unfold laws_toMessageS.f
  have h := ev_copy (fun k y i => laws_toMessageS.l0 k x y i) x cvMessage (fun y => y) ?_ ?_ (List.replicate x.length z133) (by simp)
  · refine Ev.pos (by omega) (Ev.pos (by omega) ?_)
    simp only [Int.toNat_natCast]
    exact h
  · refine Ev.succ ?_
    simp only [laws_toMessageS.l0, Int.lt_irrefl, if_false]
    exact Ev.now _
  · intro i hi y hy r h
    refine Ev.succ ?_
    simp only [laws_toMessageS.l0, rd_lMessage_get x i hi]
    refine Ev.pos (by omega) (Ev.pos (by omega) (Ev.bind (ev_toMessage _ _ _ _ (hin _ (List.getElem_mem hi))) (Ev.pos (by omega) ?_)))
    simp only [Int.toNat_natCast, wsucc hi (show x.length ≤ 281474976710656 by omega)]
    exact h
theorem ev_eqByteS (x : List Int) (hx : x.length ≤ 1048576) : Ev (fun k => laws_eqByteS.f k x x) true := by
  unfold laws_eqByteS.f
  refine Ev.pos rfl ?_
  refine ev_iter (fun k (_ : Unit) i => laws_eqByteS.l0 k x x i) x.length (fun _ => ()) true ?_ ?_
  · refine Ev.succ ?_
    simp only [laws_eqByteS.l0, Int.lt_irrefl, if_false]
    exact Ev.now _
  · intro i hi r h
    refine Ev.succ ?_
    simp only [laws_eqByteS.l0]
    refine Ev.pos (by omega) (Ev.pos (by omega) (Ev.pos (by omega) (Ev.pos trivial ?_)))
    simp only [wsucc hi (show x.length ≤ 281474976710656 by omega)]
    exact h
theorem ev_eqMessage (u fl d : Int) (x : List Int) (hx : x.length ≤ 1048576) : Ev (fun k => laws_eqMessage.f k u fl d x u fl d x) true := by
  unfold laws_eqMessage.f
  refine Ev.pos rfl (Ev.pos rfl (Ev.pos rfl ?_))
  exact Ev.bind (ev_eqByteS x hx) (Ev.pos rfl (Ev.now _))
theorem ev_eqMessageS (x : List S133) (hx : x.length ≤ 1048576) (hin : ∀ y ∈ x, y.f3.length ≤ 1048576) : Ev (fun k => laws_eqMessageS.f k x x) true := by
  unfold laws_eqMessageS.f
  refine Ev.pos rfl ?_
  refine ev_iter (fun k (_ : Unit) i => laws_eqMessageS.l0 k x x i) x.length (fun _ => ()) true ?_ ?_
  · refine Ev.succ ?_
    simp only [laws_eqMessageS.l0, Int.lt_irrefl, if_false]
    exact Ev.now _
  · intro i hi r h
    refine Ev.succ ?_
    simp only [laws_eqMessageS.l0, rd_Message_get x i hi]
    refine Ev.pos (by omega) (Ev.pos (by omega) (Ev.pos (by omega) (Ev.bind (ev_eqMessage _ _ _ _ (hin _ (List.getElem_mem hi))) (Ev.pos rfl ?_))))
    simp only [wsucc hi (show x.length ≤ 281474976710656 by omega)]
    exact h
theorem ev_szBox (nm : ByteArray) (v nx : Int) (x : List S166) (hn : nm.size ≤ 140737488351232) (hx : x.length ≤ 140737488351232) (hin : ∀ y ∈ x, y.f3.length ≤ 140737488351232) (m : Int) (h0 : 0 ≤ m) (h1 : m ≤ 1048576) :
    ∃ r, Ev (fun k => laws_szBox.f k nm v nx x m) r ∧ (r < 0 ∨ (0 ≤ r ∧ r ≤ m ∧ nm.size ≤ 1048576 ∧ x.length ≤ 1048576 ∧ ∀ y ∈ x, okMessage y)) := by
  unfold laws_szBox.f
  simp only [wid (x := m - nm.size) (by omega) (by omega)]
  by_cases hneg : m - (nm.size : Int) < 0
  · exact ⟨-1, Ev.pos hneg (Ev.now _), .inl (by omega)⟩
  obtain ⟨r, hr, hr'⟩ := ev_szMessageS x hx hin (m - nm.size) (by omega) (by omega)
  rcases hr' with h | ⟨a, b, c, d⟩
  · exact ⟨-1, Ev.neg hneg (Ev.bind hr (Ev.pos h (Ev.now _))), .inl (by omega)⟩
  · exact ⟨r, Ev.neg hneg (Ev.bind hr (Ev.neg (by omega) (Ev.now _))), .inr ⟨a, by omega, by omega, c, d⟩⟩
theorem ev_toBox (nm : ByteArray) (v nx : Int) (x : List S166) (hx : x.length ≤ 1048576) (hin : ∀ y ∈ x, okMessage y) : Ev (fun k => laws_toBox.f k nm v nx x) (nm, v, nx, x.map cvMessage) := by
  unfold laws_toBox.f
  exact Ev.bind (ev_toMessageS x hx hin) (Ev.now _)
theorem ev_eqBox (nm : ByteArray) (v nx : Int) (x : List S133) (hx : x.length ≤ 1048576) (hin : ∀ y ∈ x, y.f3.length ≤ 1048576) : Ev (fun k => laws_eqBox.f k nm v nx x nm v nx x) true := by
  unfold laws_eqBox.f
  refine Ev.pos rfl (Ev.pos rfl (Ev.pos rfl ?_))
  exact Ev.bind (ev_eqMessageS x hx hin) (Ev.pos rfl (Ev.now _))
theorem ok_cv {x : List S166} (hin : ∀ y ∈ x, okMessage y) : ∀ y ∈ x.map cvMessage, y.f3.length ≤ 1048576 := by
  intro y hy
  obtain ⟨z, hz, rfl⟩ := List.mem_map.1 hy
  exact hin z hz
theorem ev_szBoxS (x : List S46) (hx : x.length ≤ 140737488351232) (hin : ∀ b ∈ x, b.f0.size ≤ 140737488351232 ∧ b.f3.length ≤ 140737488351232 ∧ ∀ y ∈ b.f3, y.f3.length ≤ 140737488351232) (m : Int) (h0 : 0 ≤ m) (h1 : m ≤ 1048576) :
    ∃ r, Ev (fun k => laws_szBoxS.f k x m) r ∧ (r < 0 ∨ (0 ≤ r ∧ r ≤ m ∧ x.length ≤ 1048576 ∧ ∀ y ∈ x, okBox y)) := by
  unfold laws_szBoxS.f
  simp only [wid (x := m - x.length) (by omega) (by omega)]
  by_cases hn : m - (x.length : Int) < 0
  · exact ⟨-1, Ev.pos hn (Ev.now _), .inl (by omega)⟩
  suffices H : ∃ r, Ev (fun k => laws_szBoxS.l0 k x (m - x.length) 0) r ∧ (r < 0 ∨ (0 ≤ r ∧ r ≤ m - x.length ∧ ∀ a ∈ x, okBox a)) by
    obtain ⟨r, hr, hr'⟩ := H
    refine ⟨r, Ev.neg hn hr, ?_⟩
    rcases hr' with h | ⟨a, b, c⟩
    · exact .inl h
    · exact .inr ⟨a, by omega, by omega, c⟩
  refine ev_szL (fun k m i => laws_szBoxS.l0 k x m i) x okBox ?_ ?_ (m - x.length) (by omega) (by omega)
  · intro m hm
    refine Ev.succ ?_
    simp only [laws_szBoxS.l0, Int.lt_irrefl, if_false]
    exact Ev.now _
  · intro i hi m hm0 hm1
    have hb := hin x[i] (List.getElem_mem hi)
    obtain ⟨r, hr, hr'⟩ := ev_szBox x[i].f0 x[i].f1 x[i].f2 x[i].f3 hb.1 hb.2.1 hb.2.2 m hm0 hm1
    refine ⟨r, ?_, ?_, ?_⟩
    · rcases hr' with h | ⟨a, b, c, d, e⟩
      · exact .inl h
      · exact .inr ⟨a, b, c, d, e⟩
    · intro hneg
      refine Ev.succ ?_
      simp only [laws_szBoxS.l0, rd_lBox_get x i hi]
      exact Ev.pos (by omega) (Ev.pos (by omega) (Ev.bind hr (Ev.pos hneg (Ev.now _))))
    · intro hpos q hq
      refine Ev.succ ?_
      simp only [laws_szBoxS.l0, rd_lBox_get x i hi, wsucc hi (show x.length ≤ 281474976710656 by omega)]
      exact Ev.pos (by omega) (Ev.pos (by omega) (Ev.bind hr (Ev.neg (by omega) hq)))
theorem ev_szStore (v : Int) (x : List S46) (hx : x.length ≤ 140737488351232) (hin : ∀ b ∈ x, b.f0.size ≤ 140737488351232 ∧ b.f3.length ≤ 140737488351232 ∧ ∀ y ∈ b.f3, y.f3.length ≤ 140737488351232) (m : Int) (h0 : 0 ≤ m) (h1 : m ≤ 1048576) :
    ∃ r, Ev (fun k => laws_szStore.f k v x m) r ∧ (r < 0 ∨ (0 ≤ r ∧ r ≤ m ∧ x.length ≤ 1048576 ∧ ∀ y ∈ x, okBox y)) := by
  obtain ⟨r, hr, hr'⟩ := ev_szBoxS x hx hin m h0 h1
  unfold laws_szStore.f
  by_cases h : r < 0
  · exact ⟨-1, Ev.bind hr (Ev.pos h (Ev.now _)), .inl (by omega)⟩
  · exact ⟨r, Ev.bind hr (Ev.neg h (Ev.now _)), hr'⟩
theorem ev_toBoxS (x : List S46) (hx : x.length ≤ 1048576) (hin : ∀ y ∈ x, okBox y) : Ev (fun k => laws_toBoxS.f k x) (x.map cvBox) := by
  unfold laws_toBoxS.f
  have h := ev_copy (fun k y i => laws_toBoxS.l0 k x y i) x cvBox (fun y => y) ?_ ?_ (List.replicate x.length z51) (by simp)
  · refine Ev.pos (by omega) (Ev.pos (by omega) ?_)
    simp only [Int.toNat_natCast]
    exact h
  · refine Ev.succ ?_
    simp only [laws_toBoxS.l0, Int.lt_irrefl, if_false]
    exact Ev.now _
  · intro i hi y hy r h
    have hb := hin _ (List.getElem_mem hi)
    refine Ev.succ ?_
    simp only [laws_toBoxS.l0, rd_lBox_get x i hi]
    refine Ev.pos (by omega) (Ev.pos (by omega) (Ev.bind (ev_toBox _ _ _ _ hb.2.1 hb.2.2) (Ev.pos (by omega) ?_)))
    simp only [Int.toNat_natCast, wsucc hi (show x.length ≤ 281474976710656 by omega)]
    exact h
theorem ev_toStore (v : Int) (x : List S46) (hx : x.length ≤ 1048576) (hin : ∀ y ∈ x, okBox y) : Ev (fun k => laws_toStore.f k v x) (v, x.map cvBox) := by
  unfold laws_toStore.f
  exact Ev.bind (ev_toBoxS x hx hin) (Ev.now _)
theorem ev_eqBoxS (x : List S51) (hx : x.length ≤ 1048576) (hin : ∀ y ∈ x, okIBox y) : Ev (fun k => laws_eqBoxS.f k x x) true := by
  unfold laws_eqBoxS.f
  refine Ev.pos rfl ?_
  refine ev_iter (fun k (_ : Unit) i => laws_eqBoxS.l0 k x x i) x.length (fun _ => ()) true ?_ ?_
  · refine Ev.succ ?_
    simp only [laws_eqBoxS.l0, Int.lt_irrefl, if_false]
    exact Ev.now _
  · intro i hi r h
    have hb := hin _ (List.getElem_mem hi)
    refine Ev.succ ?_
    simp only [laws_eqBoxS.l0, rd_Box_get x i hi]
    refine Ev.pos (by omega) (Ev.pos (by omega) (Ev.pos (by omega) (Ev.bind (ev_eqBox _ _ _ _ hb.2.1 hb.2.2) (Ev.pos rfl ?_))))
    simp only [wsucc hi (show x.length ≤ 281474976710656 by omega)]
    exact h
theorem ev_eqStore (v : Int) (x : List S51) (hx : x.length ≤ 1048576) (hin : ∀ y ∈ x, okIBox y) : Ev (fun k => laws_eqStore.f k v x v x) true := by
  unfold laws_eqStore.f
  exact Ev.pos rfl (Ev.bind (ev_eqBoxS x hx hin) (Ev.pos rfl (Ev.now _)))
theorem ev_find_some {α ρ : Type} (l : Nat → Int → Option ρ) (x : List α) (f : α → Option ρ) (r : ρ) (h : x.findSome? f = some r)
    (out : ∀ (i : Nat) (hi : i < x.length) r, f x[i] = some r → Ev (fun k => l k (i : Int)) r)
    (on : ∀ (i : Nat) (hi : i < x.length), f x[i] = none → ∀ r, Ev (fun k => l k ((i + 1 : Nat) : Int)) r → Ev (fun k => l k (i : Int)) r) : Ev (fun k => l k 0) r := by
  obtain ⟨l1, a, l2, hx, ha, hn⟩ := List.findSome?_eq_some_iff.1 h
  have key : ∀ d i, l1.length - i = d → i ≤ l1.length → Ev (fun k => l k ((i : Nat) : Int)) r := by
    intro d
    induction d with
    | zero =>
      intro i hd hi
      have hl : i < x.length := by rw [hx]; simp; omega
      refine out i hl r ?_
      have : x[i] = a := by
        have e : i = l1.length := by omega
        subst e; simp [hx]
      rw [this]; exact ha
    | succ d ih =>
      intro i hd hi
      have hl : i < x.length := by rw [hx]; simp; omega
      refine on i hl ?_ r (ih (i + 1) (by omega) (by omega))
      have : x[i] ∈ l1 := by
        have e : x[i] = l1[i]'(by omega) := by simp only [hx]; exact List.getElem_append_left (by omega)
        rw [e]; exact List.getElem_mem _
      exact hn _ this
  exact key l1.length 0 (by omega) (by omega)
theorem any_find {α ρ : Type} (p : α → Bool) (e : ρ) (l : List α) (h : l.any p = true) : (l.findSome? fun a => if p a = true then some e else none) = some e := by
  induction l with
  | nil => simp at h
  | cons a l ih =>
    cases hp : p a
    · simp only [List.any_cons, hp, Bool.false_or] at h; simp [hp, ih h]
    · simp [hp]
def isWord (s : ByteArray) (most : Int) : Bool := (List.range s.size).all (fun i => decide (97 ≤ bt s (i : Int) ∧ bt s (i : Int) ≤ 122)) && decide (1 ≤ (s.size : Int) ∧ (s.size : Int) ≤ most)
def msgFault (u fl d : Int) (n : Nat) : Int := if (1 ≤ u ∧ u ≤ 999) ∧ (0 ≤ fl ∧ fl ≤ 15) ∧ (0 ≤ d ∧ d ≤ 9999) then (if 400 < n then 2 else 0) else 3
def msgStep (nx : Int) (last : Int) (m : S133) : Int ⊕ Int :=
  if msgFault m.f0 m.f1 m.f2 m.f3.length ≠ 0 then .inl (msgFault m.f0 m.f1 m.f2 m.f3.length) else if m.f0 ≤ last ∨ nx ≤ m.f0 then .inl 1 else .inr m.f0
def msgsFault (nx : Int) (ms : List S133) : Int := match run (msgStep nx) ms 0 with | .inl r => r | .inr _ => 0
def boxFault (nm : ByteArray) (v nx : Int) (ms : List S133) : Int :=
  if isWord nm 8 = true then (if (1 ≤ v ∧ v ≤ 999) ∧ (1 ≤ nx ∧ nx ≤ 1000) then (if 6 < ms.length then 2 else msgsFault nx ms) else 3) else 5
theorem msgFault_uid {u fl d : Int} {n : Nat} (h : msgFault u fl d n = 0) : 1 ≤ u ∧ u ≤ 999 := by
  unfold msgFault at h
  split at h
  · rename_i h'; exact h'.1
  · omega
def sameBox (c b : S51) : Bool := decide (b.f0.toList = c.f0.toList) || decide (b.f1 = c.f1)
def boxAt (v : Int) (bs : List S51) (i : Nat) : Option Int :=
  let b := rd_T51 bs (i : Int)
  if boxFault b.f0 b.f1 b.f2 b.f3 ≠ 0 then some (boxFault b.f0 b.f1 b.f2 b.f3) else if v ≤ b.f1 then some 9 else if (bs.take i).any (sameBox b) = true then some 6 else none
def storeFault (v : Int) (bs : List S51) : Int := if 1 ≤ v ∧ v ≤ 1000 then (if 3 < bs.length then 2 else ((List.range bs.length).findSome? (boxAt v bs)).getD 0) else 3
theorem find_any_e {α ρ : Type} (p : α → Bool) (e d : ρ) (l : List α) : ((l.findSome? fun a => if p a = true then some e else none).getD d) = if l.any p = true then e else d := by
  induction l with
  | nil => simp
  | cons a l ih => cases h : p a <;> simp [h, ih]
theorem l1In_eq (a b c : Int) : spec_l1In.f a b c = some (decide (b ≤ a ∧ a ≤ c)) := by
  unfold spec_l1In.f
  by_cases h : b ≤ a <;> simp [h]
theorem ev_l7Name (s : ByteArray) (hs : s.size ≤ 281474976710656) : Ev (fun k => spec_l7Name.f k s) (isWord s 8) := by
  unfold spec_l7Name.f isWord
  have h := ev_findI (fun k i => spec_l7Name.l0 k s i) s.size (fun i => if decide (97 ≤ bt s (i : Int) ∧ bt s (i : Int) ≤ 122) = true then none else some false) (decide (1 ≤ (s.size : Int) ∧ (s.size : Int) ≤ 8)) ?_ ?_ ?_
  · rw [find_guard] at h
    by_cases hall : (List.range s.size).all (fun i => decide (97 ≤ bt s (i : Int) ∧ bt s (i : Int) ≤ 122)) = true
    · rw [if_pos hall] at h; rw [hall, Bool.true_and]; exact h
    · rw [if_neg hall] at h; rw [Bool.not_eq_true] at hall; rw [hall, Bool.false_and]; exact h
  · refine Ev.succ ?_
    simp only [spec_l7Name.l0, Int.lt_irrefl, if_false, l1In_eq, Option.bind_some]
    exact Ev.now _
  · intro i hi r hr
    by_cases hc : 97 ≤ bt s (i : Int) ∧ bt s (i : Int) ≤ 122
    · rw [if_pos (decide_eq_true hc)] at hr; cases hr
    rw [if_neg (by simpa using hc)] at hr; cases hr
    refine Ev.succ ?_
    simp only [spec_l7Name.l0]
    refine Ev.pos (by omega) (Ev.pos (by omega) ?_)
    by_cases h1 : bt s (i : Int) < 97
    · exact Ev.pos h1 (Ev.now _)
    · exact Ev.neg h1 (Ev.pos (by omega) (Ev.now _))
  · intro i hi hr r h
    by_cases hc : 97 ≤ bt s (i : Int) ∧ bt s (i : Int) ≤ 122
    case neg => rw [if_neg (by simpa using hc)] at hr; cases hr
    refine Ev.succ ?_
    simp only [spec_l7Name.l0]
    refine Ev.pos (by omega) (Ev.pos (by omega) (Ev.neg (by omega) (Ev.neg (by omega) ?_)))
    simp only [wsucc hi (show s.size ≤ 281474976710656 by omega)]
    exact h
theorem ev_l7Message (m : S133) (l : List S133) : Ev (fun k => spec_l7Message.f k (m :: l)) (msgFault m.f0 m.f1 m.f2 m.f3.length) := by
  have e : rd_T133 (m :: l) 0 = m := rfl
  refine Ev.at 1 fun k => ?_
  have hl : (0 : Int) < ((m :: l).length : Int) := by simp only [List.length_cons]; omega
  simp only [spec_l7Message.f, spec_l7Message.j0, e, l1In_eq, Option.bind_some, hl, if_true, decide_eq_true_eq, msgFault]
  by_cases h0 : 1 ≤ m.f0 ∧ m.f0 ≤ 999 <;> by_cases h1 : 0 ≤ m.f1 ∧ m.f1 ≤ 15 <;> by_cases h2 : 0 ≤ m.f2 ∧ m.f2 ≤ 9999 <;> by_cases h3 : 400 < m.f3.length <;> simp [h0, h1, h2, h3] <;> first | done | omega
theorem ev_l7Box (b : S51) (l : List S51) (hn : b.f0.size ≤ 1048576) (hm : b.f3.length ≤ 1048576) : Ev (fun k => spec_l7Box.f k (b :: l)) (boxFault b.f0 b.f1 b.f2 b.f3) := by
  have e : rd_T51 (b :: l) 0 = b := rfl
  have hl : (0 : Int) < ((b :: l).length : Int) := by simp only [List.length_cons]; omega
  unfold spec_l7Box.f boxFault
  refine Ev.pos hl ?_
  simp only [e]
  refine Ev.bind (ev_l7Name b.f0 (by omega)) ?_
  by_cases h0 : isWord b.f0 8 = true
  case neg => rw [if_neg h0]; exact Ev.neg h0 (Ev.now _)
  rw [if_pos h0]
  refine Ev.pos h0 ?_
  simp only [l1In_eq, Option.bind_some]
  by_cases h1 : 1 ≤ b.f1 ∧ b.f1 ≤ 999
  case neg =>
    rw [if_neg (fun h => h1 h.1)]
    refine Ev.neg (by simpa using h1) (Ev.succ ?_)
    simp only [spec_l7Box.j0, if_true]
    exact Ev.now _
  refine Ev.pos (decide_eq_true h1) (Ev.succ ?_)
  by_cases h2 : 1 ≤ b.f2 ∧ b.f2 ≤ 1000
  case neg =>
    rw [if_neg (fun h => h2 h.2)]
    simp only [spec_l7Box.j0]
    exact Ev.pos (by simp [h2]) (Ev.now _)
  rw [if_pos ⟨h1, h2⟩]
  simp only [spec_l7Box.j0, e]
  refine Ev.neg (by simp [h2]) (Ev.pos hl ?_)
  by_cases h3 : 6 < b.f3.length
  · rw [if_pos h3]; exact Ev.pos (by omega) (Ev.now _)
  rw [if_neg h3]
  refine Ev.neg (by omega) ?_
  unfold msgsFault
  have hmsg : ∀ (i : Nat) (hi : i < b.f3.length), Ev (fun k => spec_l7Message.f k (b.f3.drop i)) (msgFault b.f3[i].f0 b.f3[i].f1 b.f3[i].f2 b.f3[i].f3.length) := by
    intro i hi
    rw [List.drop_eq_getElem_cons hi]
    exact ev_l7Message _ _
  have h := ev_run (fun k (_ : Int) i => spec_l7Box.l0 k (b :: l) i) b.f3 (msgStep b.f2) (fun _ => 0) (fun i s => (i = 0 → s = 0) ∧ (∀ hi : 0 < i ∧ i ≤ b.f3.length, s = (b.f3[i - 1]'(by omega)).f0)) ?_ ?_ ?_ 0 0 (by omega) ⟨fun _ => rfl, fun h => absurd h.1 (by omega)⟩
  · rw [List.drop_zero] at h; revert h; cases run (msgStep b.f2) b.f3 0 <;> exact fun h => h
  · intro s _
    refine Ev.succ ?_
    simp only [spec_l7Box.l0, e, Int.lt_irrefl, if_false]
    exact Ev.pos hl (Ev.now _)
  · intro i hi s r hI hr
    refine Ev.succ ?_
    simp only [spec_l7Box.l0, e]
    refine Ev.pos hl (Ev.pos (by omega) (Ev.pos (by omega) ?_))
    simp only [Int.toNat_natCast]
    refine Ev.bind (hmsg i hi) ?_
    simp only [msgStep] at hr
    by_cases hf : msgFault b.f3[i].f0 b.f3[i].f1 b.f3[i].f2 b.f3[i].f3.length = 0
    case neg => rw [if_pos hf] at hr; cases hr; exact Ev.neg hf (Ev.now _)
    rw [if_neg (by simpa using hf)] at hr
    refine Ev.pos hf ?_
    have hu := msgFault_uid hf
    by_cases hc : b.f3[i].f0 ≤ s ∨ b.f2 ≤ b.f3[i].f0
    case neg => rw [if_neg hc] at hr; cases hr
    rw [if_pos hc] at hr; cases hr
    by_cases hi0 : 0 < i
    · have hs := hI.2 ⟨hi0, by omega⟩
      refine Ev.pos (by omega) ?_
      simp only [wpred hi0 (show i ≤ 281474976710656 by omega), rd_Message_get _ i hi, rd_Message_get _ (i - 1) (show i - 1 < b.f3.length by omega), ← hs]
      refine Ev.pos (by omega) (Ev.pos (by omega) ?_)
      by_cases hc1 : b.f3[i].f0 ≤ s
      · exact Ev.pos hc1 (Ev.now _)
      · exact Ev.neg hc1 (Ev.pos (by omega) (Ev.now _))
    · have hs := hI.1 (by omega)
      refine Ev.neg (by omega) ?_
      simp only [rd_Message_get _ i hi]
      exact Ev.pos (by omega) (Ev.now _)
  · intro i hi s s' hI hr
    simp only [msgStep] at hr
    by_cases hf : msgFault b.f3[i].f0 b.f3[i].f1 b.f3[i].f2 b.f3[i].f3.length = 0
    case neg => rw [if_pos hf] at hr; cases hr
    rw [if_neg (by simpa using hf)] at hr
    by_cases hc : b.f3[i].f0 ≤ s ∨ b.f2 ≤ b.f3[i].f0
    · rw [if_pos hc] at hr; cases hr
    rw [if_neg hc] at hr; cases hr
    refine ⟨⟨fun h => by omega, fun h => by simp⟩, fun r h => ?_⟩
    refine Ev.succ ?_
    simp only [spec_l7Box.l0, e]
    refine Ev.pos hl (Ev.pos (by omega) (Ev.pos (by omega) ?_))
    simp only [Int.toNat_natCast]
    refine Ev.bind (hmsg i hi) (Ev.pos hf ?_)
    by_cases hi0 : 0 < i
    · have hs := hI.2 ⟨hi0, by omega⟩
      refine Ev.pos (by omega) ?_
      simp only [wpred hi0 (show i ≤ 281474976710656 by omega), rd_Message_get _ i hi, rd_Message_get _ (i - 1) (show i - 1 < b.f3.length by omega), ← hs, wsucc hi (show b.f3.length ≤ 281474976710656 by omega)]
      exact Ev.pos (by omega) (Ev.pos (by omega) (Ev.neg (by omega) (Ev.neg (by omega) h)))
    · refine Ev.neg (by omega) ?_
      simp only [rd_Message_get _ i hi, wsucc hi (show b.f3.length ≤ 281474976710656 by omega)]
      exact Ev.neg (by omega) h
theorem ev_l7Fault (s : S62) (hb : ∀ y ∈ s.f1, okIBox y) (hl : s.f1.length ≤ 1048576) : Ev (fun k => spec_l7Fault.f k [s]) (storeFault s.f0 s.f1) := by
  have e : rd_T62 [s] 0 = s := rfl
  have hp : (0 : Int) < (([s] : List S62).length : Int) := by simp
  unfold spec_l7Fault.f storeFault
  refine Ev.pos hp ?_
  simp only [e, l1In_eq, Option.bind_some]
  by_cases h0 : 1 ≤ s.f0 ∧ s.f0 ≤ 1000
  case neg => rw [if_neg h0]; exact Ev.neg (by simpa using h0) (Ev.now _)
  rw [if_pos h0]
  refine Ev.pos (decide_eq_true h0) ?_
  by_cases h3 : 3 < s.f1.length
  · rw [if_pos h3]; exact Ev.pos (by omega) (Ev.now _)
  rw [if_neg h3]
  refine Ev.neg (by omega) ?_
  have hbx : ∀ (i : Nat) (hi : i < s.f1.length), Ev (fun k => spec_l7Box.f k (s.f1.drop i)) (boxFault s.f1[i].f0 s.f1[i].f1 s.f1[i].f2 s.f1[i].f3) := by
    intro i hi
    have h := hb _ (List.getElem_mem hi)
    rw [List.drop_eq_getElem_cons hi]
    exact ev_l7Box _ _ h.1 h.2.1
  have hout : ∀ (i : Nat) (hi : i < s.f1.length) (j : Nat) (hj : j < (s.f1.take i).length) (r' : Int), (if sameBox s.f1[i] (s.f1.take i)[j] = true then some (6 : Int) else none) = some r' → Ev (fun k => spec_l7Fault.l1 k [s] (i : Int) (j : Int)) r' := by
    intro i hi j hj r' hr'
    have hlen : (s.f1.take i).length = i := by rw [List.length_take]; omega
    rw [hlen] at hj
    have hj' : j < s.f1.length := by omega
    rw [List.getElem_take] at hr'
    by_cases hs : sameBox s.f1[i] s.f1[j] = true
    case neg => rw [if_neg hs] at hr'; cases hr'
    rw [if_pos hs] at hr'; cases hr'
    refine Ev.succ ?_
    simp only [spec_l7Fault.l1, e, rd_Box_get s.f1 i hi, rd_Box_get s.f1 j hj']
    refine Ev.pos (by omega) (Ev.pos hp (Ev.pos (by omega) (Ev.pos (by omega) (Ev.pos (by omega) (Ev.pos (by omega) ?_)))))
    simp only [sameBox, Bool.or_eq_true, decide_eq_true_eq] at hs
    by_cases hc : s.f1[j].f0.toList = s.f1[i].f0.toList
    · exact Ev.pos hc (Ev.now _)
    · exact Ev.neg hc (Ev.pos (hs.resolve_left hc) (Ev.now _))
  have hon : ∀ (i : Nat) (hi : i < s.f1.length) (j : Nat) (hj : j < (s.f1.take i).length), (if sameBox s.f1[i] (s.f1.take i)[j] = true then some (6 : Int) else none) = none → ∀ q, Ev (fun k => spec_l7Fault.l1 k [s] (i : Int) ((j + 1 : Nat) : Int)) q → Ev (fun k => spec_l7Fault.l1 k [s] (i : Int) (j : Int)) q := by
    intro i hi j hj hr' q hq
    have hlen : (s.f1.take i).length = i := by rw [List.length_take]; omega
    rw [hlen] at hj
    have hj' : j < s.f1.length := by omega
    rw [List.getElem_take] at hr'
    by_cases hs : sameBox s.f1[i] s.f1[j] = true
    · rw [if_pos hs] at hr'; cases hr'
    refine Ev.succ ?_
    simp only [spec_l7Fault.l1, e, rd_Box_get s.f1 i hi, rd_Box_get s.f1 j hj', wsucc hj' (show s.f1.length ≤ 281474976710656 by omega)]
    refine Ev.pos (by omega) (Ev.pos hp (Ev.pos (by omega) (Ev.pos (by omega) (Ev.pos (by omega) (Ev.pos (by omega) ?_)))))
    simp only [sameBox, Bool.or_eq_true, decide_eq_true_eq, not_or] at hs
    exact Ev.neg hs.1 (Ev.neg hs.2 hq)
  have hl1 : ∀ (i : Nat) (hi : i < s.f1.length) (r : Int), (s.f1.take i).any (sameBox s.f1[i]) = false → Ev (fun k => spec_l7Fault.l0 k [s] ((i + 1 : Nat) : Int)) r → Ev (fun k => spec_l7Fault.l1 k [s] (i : Int) 0) r := by
    intro i hi r hd hr
    have hlen : (s.f1.take i).length = i := by rw [List.length_take]; omega
    have h := ev_find (fun k j => spec_l7Fault.l1 k [s] (i : Int) j) (s.f1.take i) (fun b => if sameBox s.f1[i] b = true then some 6 else none) r ?_ (hout i hi) (hon i hi)
    · rw [find_any_e, if_neg (by simp [hd])] at h; exact h
    · rw [hlen]
      refine Ev.succ ?_
      simp only [spec_l7Fault.l1, Int.lt_irrefl, if_false, wsucc hi (show s.f1.length ≤ 281474976710656 by omega)]
      exact hr
  refine ev_findI (fun k i => spec_l7Fault.l0 k [s] i) s.f1.length (boxAt s.f0 s.f1) 0 ?_ ?_ ?_
  · refine Ev.succ ?_
    simp only [spec_l7Fault.l0, e, Int.lt_irrefl, if_false]
    exact Ev.pos hp (Ev.now _)
  · intro i hi r hr
    simp only [boxAt, rd_Box_get s.f1 i hi] at hr
    by_cases hf : boxFault s.f1[i].f0 s.f1[i].f1 s.f1[i].f2 s.f1[i].f3 = 0
    case neg =>
      rw [if_pos hf] at hr; cases hr
      refine Ev.succ ?_
      simp only [spec_l7Fault.l0, e, Int.toNat_natCast]
      exact Ev.pos hp (Ev.pos (by omega) (Ev.pos (by omega) (Ev.bind (hbx i hi) (Ev.neg hf (Ev.now _)))))
    rw [if_neg (by simpa using hf)] at hr
    by_cases hv : s.f0 ≤ s.f1[i].f1
    · rw [if_pos hv] at hr; cases hr
      refine Ev.succ ?_
      simp only [spec_l7Fault.l0, e, Int.toNat_natCast, rd_Box_get s.f1 i hi]
      exact Ev.pos hp (Ev.pos (by omega) (Ev.pos (by omega) (Ev.bind (hbx i hi) (Ev.pos hf (Ev.pos hv (Ev.now _))))))
    rw [if_neg hv] at hr
    by_cases hd : (s.f1.take i).any (sameBox s.f1[i]) = true
    case neg => rw [if_neg hd] at hr; cases hr
    rw [if_pos hd] at hr; cases hr
    have h1 := ev_find_some (fun k j => spec_l7Fault.l1 k [s] (i : Int) j) (s.f1.take i) _ 6 (any_find (sameBox s.f1[i]) 6 _ hd) (hout i hi) (hon i hi)
    refine Ev.succ ?_
    simp only [spec_l7Fault.l0, e, Int.toNat_natCast, rd_Box_get s.f1 i hi]
    exact Ev.pos hp (Ev.pos (by omega) (Ev.pos (by omega) (Ev.bind (hbx i hi) (Ev.pos hf (Ev.neg hv h1)))))
  · intro i hi hr r h
    simp only [boxAt, rd_Box_get s.f1 i hi] at hr
    by_cases hf : boxFault s.f1[i].f0 s.f1[i].f1 s.f1[i].f2 s.f1[i].f3 = 0
    case neg => rw [if_pos hf] at hr; cases hr
    rw [if_neg (by simpa using hf)] at hr
    by_cases hv : s.f0 ≤ s.f1[i].f1
    · rw [if_pos hv] at hr; cases hr
    rw [if_neg hv] at hr
    by_cases hd : (s.f1.take i).any (sameBox s.f1[i]) = true
    · rw [if_pos hd] at hr; cases hr
    have h1 := hl1 i hi r (by simpa using hd) h
    refine Ev.succ ?_
    simp only [spec_l7Fault.l0, e, Int.toNat_natCast, rd_Box_get s.f1 i hi]
    exact Ev.pos hp (Ev.pos (by omega) (Ev.pos (by omega) (Ev.bind (hbx i hi) (Ev.pos hf (Ev.neg hv h1)))))
theorem ev_isSmallWord (s : ByteArray) (most : Int) (hs : s.size ≤ 281474976710656) : Ev (fun k => impl_isSmallWord.f k s most) (isWord s most) := by
  unfold impl_isSmallWord.f isWord
  have h := ev_findI (fun k i => impl_isSmallWord.l0 k s most (s.size : Int) i) s.size (fun i => if decide (97 ≤ bt s (i : Int) ∧ bt s (i : Int) ≤ 122) = true then none else some false) (decide (1 ≤ (s.size : Int) ∧ (s.size : Int) ≤ most)) ?_ ?_ ?_
  · rw [find_guard] at h
    by_cases hall : (List.range s.size).all (fun i => decide (97 ≤ bt s (i : Int) ∧ bt s (i : Int) ≤ 122)) = true
    · rw [if_pos hall] at h; rw [hall, Bool.true_and]; exact h
    · rw [if_neg hall] at h; rw [Bool.not_eq_true] at hall; rw [hall, Bool.false_and]; exact h
  · refine Ev.succ ?_
    simp only [impl_isSmallWord.l0, Int.lt_irrefl, if_false]
    by_cases h1 : 1 ≤ (s.size : Int)
    · refine Ev.pos h1 ?_; simp only [h1, true_and]; exact Ev.now _
    · refine Ev.neg h1 ?_; simp only [h1, false_and, decide_false]; exact Ev.now _
  · intro i hi r hr
    by_cases hc : 97 ≤ bt s (i : Int) ∧ bt s (i : Int) ≤ 122
    · rw [if_pos (decide_eq_true hc)] at hr; cases hr
    rw [if_neg (by simpa using hc)] at hr; cases hr
    refine Ev.succ ?_
    simp only [impl_isSmallWord.l0]
    refine Ev.pos (by omega) (Ev.pos (by omega) (Ev.pos (by omega) ?_))
    by_cases h1 : bt s (i : Int) < 97
    · exact Ev.pos h1 (Ev.now _)
    · exact Ev.neg h1 (Ev.pos (by omega) (Ev.now _))
  · intro i hi hr r h
    by_cases hc : 97 ≤ bt s (i : Int) ∧ bt s (i : Int) ≤ 122
    case neg => rw [if_neg (by simpa using hc)] at hr; cases hr
    refine Ev.succ ?_
    simp only [impl_isSmallWord.l0]
    refine Ev.pos (by omega) (Ev.pos (by omega) (Ev.pos (by omega) (Ev.neg (by omega) (Ev.neg (by omega) ?_))))
    simp only [wsucc hi (show s.size ≤ 281474976710656 by omega)]
    exact h
theorem within_eq (a b c : Int) : impl_within.f a b c = some (decide (b ≤ a ∧ a ≤ c)) := by
  unfold impl_within.f
  by_cases h : b ≤ a <;> simp [h]
theorem ev_implMessageFault (u fl d : Int) (x : List Int) : Ev (fun k => impl_MessageFault.f k u fl d x) (msgFault u fl d x.length) := by
  refine Ev.at 1 fun k => ?_
  simp only [impl_MessageFault.f, impl_MessageFault.j0, impl_isUid.f, impl_areFlags.f, impl_isDate.f, within_eq, Option.bind_some, decide_eq_true_eq, msgFault]
  by_cases h0 : 1 ≤ u ∧ u ≤ 999 <;> by_cases h1 : 0 ≤ fl ∧ fl ≤ 15 <;> by_cases h2 : 0 ≤ d ∧ d ≤ 9999 <;> by_cases h3 : 400 < x.length <;> simp [h0, h1, h2, h3] <;> first | done | omega
theorem ev_implBoxFault (nm : ByteArray) (v nx : Int) (ms : List S133) (hn : nm.size ≤ 1048576) (hm : ms.length ≤ 1048576) : Ev (fun k => impl_BoxFault.f k nm v nx ms) (boxFault nm v nx ms) := by
  unfold impl_BoxFault.f boxFault
  refine Ev.bind (a := isWord nm 8) (by unfold impl_isName.f; exact Ev.bind (ev_isSmallWord nm 8 (by omega)) (Ev.now _)) ?_
  by_cases h0 : isWord nm 8 = true
  case neg => rw [if_neg h0]; exact Ev.neg h0 (Ev.now _)
  rw [if_pos h0]
  refine Ev.pos h0 ?_
  simp only [within_eq, Option.bind_some]
  by_cases h1 : 1 ≤ v ∧ v ≤ 999
  case neg =>
    rw [if_neg (fun h => h1 h.1)]
    refine Ev.neg (by simpa using h1) (Ev.succ ?_)
    simp only [impl_BoxFault.j0, if_true]
    exact Ev.now _
  refine Ev.pos (decide_eq_true h1) (Ev.succ ?_)
  by_cases h2 : 1 ≤ nx ∧ nx ≤ 1000
  case neg =>
    rw [if_neg (fun h => h2 h.2)]
    simp only [impl_BoxFault.j0]
    exact Ev.pos (by simp [h2]) (Ev.now _)
  rw [if_pos ⟨h1, h2⟩]
  simp only [impl_BoxFault.j0]
  refine Ev.neg (by simp [h2]) ?_
  by_cases h3 : 6 < ms.length
  · rw [if_pos h3]; exact Ev.pos (by omega) (Ev.now _)
  rw [if_neg h3]
  refine Ev.neg (by omega) ?_
  unfold msgsFault
  have h := ev_run (fun k s i => impl_BoxFault.l0 k s ms (ms.length : Int) i nm v nx ms) ms (msgStep nx) (fun _ => 0) (fun _ _ => True) ?_ ?_ ?_ 0 0 (by omega) trivial
  · rw [List.drop_zero] at h; revert h; cases run (msgStep nx) ms 0 <;> exact fun h => h
  · intro s _
    refine Ev.succ ?_
    simp only [impl_BoxFault.l0, Int.lt_irrefl, if_false]
    exact Ev.now _
  · intro i hi s r _ hr
    refine Ev.succ ?_
    simp only [impl_BoxFault.l0, rd_Message_get _ i hi]
    refine Ev.pos (by omega) (Ev.pos (by omega) (Ev.pos (by omega) (Ev.bind (ev_implMessageFault _ _ _ _) ?_)))
    simp only [msgStep] at hr
    by_cases hf : msgFault ms[i].f0 ms[i].f1 ms[i].f2 ms[i].f3.length = 0
    case neg => rw [if_pos hf] at hr; cases hr; exact Ev.neg hf (Ev.now _)
    rw [if_neg (by simpa using hf)] at hr
    refine Ev.pos hf ?_
    by_cases hc : ms[i].f0 ≤ s ∨ nx ≤ ms[i].f0
    case neg => rw [if_neg hc] at hr; cases hr
    rw [if_pos hc] at hr; cases hr
    by_cases hc1 : ms[i].f0 ≤ s
    · exact Ev.pos hc1 (Ev.now _)
    · exact Ev.neg hc1 (Ev.pos (by omega) (Ev.now _))
  · intro i hi s s' _ hr
    simp only [msgStep] at hr
    by_cases hf : msgFault ms[i].f0 ms[i].f1 ms[i].f2 ms[i].f3.length = 0
    case neg => rw [if_pos hf] at hr; cases hr
    rw [if_neg (by simpa using hf)] at hr
    by_cases hc : ms[i].f0 ≤ s ∨ nx ≤ ms[i].f0
    · rw [if_pos hc] at hr; cases hr
    rw [if_neg hc] at hr; cases hr
    refine ⟨trivial, fun r h => ?_⟩
    refine Ev.succ ?_
    simp only [impl_BoxFault.l0, rd_Message_get _ i hi, wsucc hi (show ms.length ≤ 281474976710656 by omega)]
    refine Ev.pos (by omega) (Ev.pos (by omega) (Ev.pos (by omega) (Ev.bind (ev_implMessageFault _ _ _ _) (Ev.pos hf (Ev.neg (by omega) (Ev.neg (by omega) h))))))
theorem ev_Box_v1 (x : List S51) (c : S51) (hl : x.length ≤ 1048576) : ∃ r, Ev (fun k => impl_Box_v1.f k x [c]) r ∧ decide (r ≥ 0) = x.any (sameBox c) := by
  have hv : ∀ b : S51, impl_StoreFault_1_v2.f b.f0 b.f1 b.f2 b.f3 [c] = some (sameBox c b) := by
    intro b
    have e : rd_T51 [c] 0 = c := rfl
    unfold impl_StoreFault_1_v2.f sameBox
    rw [e, if_pos (by simp)]
    by_cases h : b.f0.toList = c.f0.toList
    · rw [if_pos h, decide_eq_true h]; rfl
    · rw [if_neg h, decide_eq_false h]; rfl
  let f : Nat → Option Int := fun i => if sameBox c (rd_T51 x (i : Int)) = true then some (i : Int) else none
  have h := ev_findI (fun k i => impl_Box_v1.l0 k x (x.length : Int) i [c]) x.length f (-1) ?_ ?_ ?_
  · refine ⟨_, h, ?_⟩
    cases hf : (List.range x.length).findSome? f with
    | none =>
      have : x.any (sameBox c) = false := by
        rw [List.any_eq_false]
        intro b hb
        obtain ⟨i, hi, rfl⟩ := List.mem_iff_getElem.1 hb
        have := List.findSome?_eq_none_iff.1 hf i (List.mem_range.2 hi)
        simp only [f, rd_Box_get x i hi] at this
        intro h'
        rw [if_pos h'] at this
        cases this
      rw [this]; rfl
    | some r =>
      obtain ⟨i, hi, h'⟩ := List.exists_of_findSome?_eq_some hf
      have hi := List.mem_range.1 hi
      simp only [f, rd_Box_get x i hi] at h'
      by_cases hs : sameBox c x[i] = true
      · rw [if_pos hs] at h'; cases h'
        have : x.any (sameBox c) = true := List.any_eq_true.2 ⟨_, List.getElem_mem hi, hs⟩
        rw [this]; simp
      · rw [if_neg hs] at h'; cases h'
  · refine Ev.succ ?_
    simp only [impl_Box_v1.l0, Int.lt_irrefl, if_false]
    exact Ev.now _
  · intro i hi r hr
    simp only [f] at hr
    refine Ev.succ ?_
    simp only [impl_Box_v1.l0, hv, Option.bind_some]
    by_cases hs : sameBox c (rd_T51 x (i : Int)) = true
    · rw [if_pos hs] at hr; cases hr
      exact Ev.pos (by omega) (Ev.pos (by omega) (Ev.pos (by omega) (Ev.pos hs (Ev.now _))))
    · rw [if_neg hs] at hr; cases hr
  · intro i hi hr r h
    simp only [f] at hr
    refine Ev.succ ?_
    simp only [impl_Box_v1.l0, hv, Option.bind_some, wsucc hi (show x.length ≤ 281474976710656 by omega)]
    by_cases hs : sameBox c (rd_T51 x (i : Int)) = true
    · rw [if_pos hs] at hr; cases hr
    · exact Ev.pos (by omega) (Ev.pos (by omega) (Ev.pos (by omega) (Ev.neg hs h)))
theorem ev_Box_v0 (x : List S51) (c : S51) (hl : x.length ≤ 1048576) : Ev (fun k => impl_Box_v0.f k x [c]) (x.any (sameBox c)) := by
  obtain ⟨r, h, e⟩ := ev_Box_v1 x c hl
  unfold impl_Box_v0.f
  rw [← e]
  exact Ev.bind h (Ev.now _)
theorem ev_implStoreFault (v : Int) (bs : List S51) (hb : ∀ y ∈ bs, okIBox y) (hl : bs.length ≤ 1048576) : Ev (fun k => impl_StoreFault.f k v bs) (storeFault v bs) := by
  unfold impl_StoreFault.f storeFault
  simp only [within_eq, Option.bind_some]
  by_cases h0 : 1 ≤ v ∧ v ≤ 1000
  case neg => rw [if_neg h0]; exact Ev.neg (by simpa using h0) (Ev.now _)
  rw [if_pos h0]
  refine Ev.pos (decide_eq_true h0) ?_
  by_cases h3 : 3 < bs.length
  · rw [if_pos h3]; exact Ev.pos (by omega) (Ev.now _)
  rw [if_neg h3]
  refine Ev.neg (by omega) ?_
  have hbx : ∀ (i : Nat) (hi : i < bs.length), Ev (fun k => impl_BoxFault.f k bs[i].f0 bs[i].f1 bs[i].f2 bs[i].f3) (boxFault bs[i].f0 bs[i].f1 bs[i].f2 bs[i].f3) := by
    intro i hi
    have h := hb _ (List.getElem_mem hi)
    exact ev_implBoxFault _ _ _ _ h.1 h.2.1
  refine ev_findI (fun k i => impl_StoreFault.l0 k bs (bs.length : Int) i v bs) bs.length (boxAt v bs) 0 ?_ ?_ ?_
  · refine Ev.succ ?_
    simp only [impl_StoreFault.l0, Int.lt_irrefl, if_false]
    exact Ev.now _
  · intro i hi r hr
    simp only [boxAt, rd_Box_get bs i hi] at hr
    refine Ev.succ ?_
    simp only [impl_StoreFault.l0, rd_Box_get bs i hi, Int.toNat_natCast]
    refine Ev.pos (by omega) (Ev.pos (by omega) (Ev.pos (by omega) (Ev.bind (hbx i hi) ?_)))
    by_cases hf : boxFault bs[i].f0 bs[i].f1 bs[i].f2 bs[i].f3 = 0
    case neg => rw [if_pos hf] at hr; cases hr; exact Ev.neg hf (Ev.now _)
    rw [if_neg (by simpa using hf)] at hr
    refine Ev.pos hf ?_
    by_cases hv : v ≤ bs[i].f1
    · rw [if_pos hv] at hr; cases hr; exact Ev.pos hv (Ev.now _)
    rw [if_neg hv] at hr
    refine Ev.neg hv (Ev.pos (by omega) (Ev.bind (ev_Box_v0 (bs.take i) bs[i] (by rw [List.length_take]; omega)) ?_))
    by_cases hd : (bs.take i).any (sameBox bs[i]) = true
    case neg => rw [if_neg hd] at hr; cases hr
    rw [if_pos hd] at hr; cases hr
    exact Ev.pos hd (Ev.now _)
  · intro i hi hr r h
    simp only [boxAt, rd_Box_get bs i hi] at hr
    refine Ev.succ ?_
    simp only [impl_StoreFault.l0, rd_Box_get bs i hi, Int.toNat_natCast, wsucc hi (show bs.length ≤ 281474976710656 by omega)]
    refine Ev.pos (by omega) (Ev.pos (by omega) (Ev.pos (by omega) (Ev.bind (hbx i hi) ?_)))
    by_cases hf : boxFault bs[i].f0 bs[i].f1 bs[i].f2 bs[i].f3 = 0
    case neg => rw [if_pos hf] at hr; cases hr
    rw [if_neg (by simpa using hf)] at hr
    refine Ev.pos hf ?_
    by_cases hv : v ≤ bs[i].f1
    · rw [if_pos hv] at hr; cases hr
    rw [if_neg hv] at hr
    refine Ev.neg hv (Ev.pos (by omega) (Ev.bind (ev_Box_v0 (bs.take i) bs[i] (by rw [List.length_take]; omega)) ?_))
    by_cases hd : (bs.take i).any (sameBox bs[i]) = true
    · rw [if_pos hd] at hr; cases hr
    exact Ev.neg hd h
theorem FnExactStoreFault : ∀ (a0_0 : Int) (l0_1 : List (S46)), (Lit.int .i64 a0_0).wf = true → (l0_1.length * 56 ≤ 140737488351232 ∧ ∀ x1_ ∈ l0_1, (x1_.f0.size ≤ 140737488351232 ∧ (Lit.int .i64 x1_.f1).wf = true ∧ (Lit.int .i64 x1_.f2).wf = true ∧ (x1_.f3.length * 48 ≤ 140737488351232 ∧ ∀ x2_ ∈ x1_.f3, ((Lit.int .i64 x2_.f0).wf = true ∧ (Lit.int .i64 x2_.f1).wf = true ∧ (Lit.int .i64 x2_.f2).wf = true ∧ (x2_.f3.length * 1 ≤ 140737488351232 ∧ ∀ x3_ ∈ x2_.f3, (Lit.int .u8 x3_).wf = true))))) → ∃ k, laws_FnExactStoreFault.f k a0_0 l0_1 = some true := by
  rintro v x _ ⟨hx, hin⟩
  apply Ev.get
  unfold laws_FnExactStoreFault.f
  obtain ⟨r, hr, hr'⟩ := ev_szStore v x (by omega) (fun b hb => by
    have h := hin b hb
    exact ⟨h.1, by omega, fun y hy => by have := (h.2.2.2.2 y hy).2.2.2.1; omega⟩) 1048576 (by omega) (by omega)
  refine Ev.bind hr ?_
  rcases hr' with h | ⟨h0, _, hx', hok⟩
  · exact Ev.pos h (Ev.now _)
  have hl : (x.map cvBox).length ≤ 1048576 := by simpa using hx'
  have hto := ev_toStore v x hx' hok
  have hs : Ev (fun k => spec_StoreFault.f k v (x.map cvBox)) (storeFault v (x.map cvBox)) := Ev.bind (ev_l7Fault ⟨v, x.map cvBox⟩ (okI_cv hok) hl) (Ev.now _)
  refine Ev.neg (by omega) (Ev.bind hto (Ev.bind hs (Ev.bind hto (Ev.bind (ev_implStoreFault v _ (okI_cv hok) hl) (Ev.pos rfl (Ev.bind hto ?_))))))
  exact Ev.bind (ev_eqStore v _ hl (okI_cv hok)) (Ev.pos rfl (Ev.now _))

end Go.Proofs.Ytfbgfakdflifdaa.Pure

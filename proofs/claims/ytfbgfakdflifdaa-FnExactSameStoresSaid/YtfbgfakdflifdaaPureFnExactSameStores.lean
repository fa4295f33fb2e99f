/- The law of SameStores, told of the printed functions. -/
import Derived.Test.YtfbgfakdflifdaaPFnExactSameStoresx8
import Derived.Test.YtfbgfakdflifdaaU
import Derived.Lib.Bytes
namespace Go.Proofs.Ytfbgfakdflifdaa.Pure
open Go.RowKit Go.Proofs.Ytfbgfakdflifdaa.PFnExactSameStores Go.Proofs.YtfbgfakdflifdaaW.PrintWords Go.Proofs.YtfbgfakdflifdaaW.PrintLast Go.Proofs.Ytfbgfakdflifdaa.U
set_option linter.unusedSimpArgs false
set_option linter.unusedVariables false

def cvMessage (x : S166) : S133 := ⟨x.f0, x.f1, x.f2, x.f3⟩
def okMessage (x : S166) : Prop := x.f3.length ≤ 1048576
theorem rd_Message_get (x : List S133) (i : Nat) (h : i < x.length) : rd_T133 x (i : Int) = x[i] := by simp [rd_T133, List.getD_eq_getElem?_getD, h]
theorem rd_lMessage_get (x : List S166) (i : Nat) (h : i < x.length) : rd_T166 x (i : Int) = x[i] := by simp [rd_T166, List.getD_eq_getElem?_getD, h]
def cvBox (x : S46) : S51 := ⟨x.f0, x.f1, x.f2, x.f3.map cvMessage⟩
def okBox (x : S46) : Prop := x.f0.size ≤ 1048576 ∧ x.f3.length ≤ 1048576 ∧ ∀ y ∈ x.f3, okMessage y
def okIBox (x : S51) : Prop := x.f0.size ≤ 1048576 ∧ x.f3.length ≤ 1048576 ∧ ∀ y ∈ x.f3, y.f3.length ≤ 1048576
theorem rd_Box_get (x : List S51) (i : Nat) (h : i < x.length) : rd_T51 x (i : Int) = x[i] := by simp [rd_T51, List.getD_eq_getElem?_getD, h]
theorem rd_lBox_get (x : List S46) (i : Nat) (h : i < x.length) : rd_T46 x (i : Int) = x[i] := by simp [rd_T46, List.getD_eq_getElem?_getD, h]
theorem okI_cv {x : List S46} (hin : ∀ y ∈ x, okBox y) : ∀ y ∈ x.map cvBox, okIBox y := by
  intro y hy
  obtain ⟨z, hz, rfl⟩ := List.mem_map.1 hy
  obtain ⟨h1, h2, h3⟩ := hin z hz
  refine ⟨h1, by simpa [cvBox] using h2, ?_⟩
  intro u hu
  obtain ⟨t, ht, rfl⟩ := List.mem_map.1 hu
  exact h3 t ht
theorem szByteS_eq (x : List Int) (m : Int) (hx : x.length ≤ 140737488351232) (h0 : 0 ≤ m) (h1 : m ≤ 1048576) : laws_szByteS.f x m = some (if m - x.length < 0 then -1 else m - x.length) := by
  unfold laws_szByteS.f
  rw [wid (by omega) (by omega)]
  split <;> rfl
theorem szMessage_eq (a b c : Int) (x : List Int) (m : Int) (hx : x.length ≤ 140737488351232) (h0 : 0 ≤ m) (h1 : m ≤ 1048576) : laws_szMessage.f a b c x m = some (if m - x.length < 0 then -1 else m - x.length) := by
  unfold laws_szMessage.f
  rw [szByteS_eq x m hx h0 h1]
  simp only [Option.bind_some]
  split
  · rfl
  · rfl
theorem ev_szMessageS (x : List S166) (hx : x.length ≤ 140737488351232) (hin : ∀ y ∈ x, y.f3.length ≤ 140737488351232) (m : Int) (h0 : 0 ≤ m) (h1 : m ≤ 1048576) :
    ∃ r, Ev (fun k => laws_szMessageS.f k x m) r ∧ (r < 0 ∨ (0 ≤ r ∧ r ≤ m ∧ x.length ≤ 1048576 ∧ ∀ y ∈ x, okMessage y)) := by
  unfold laws_szMessageS.f
  simp only [wid (x := m - x.length) (by omega) (by omega)]
  by_cases hn : m - (x.length : Int) < 0
  · exact ⟨-1, Ev.pos hn (Ev.now _), .inl (by omega)⟩
  suffices H : ∃ r, Ev (fun k => laws_szMessageS.l0 k x (m - x.length) 0) r ∧ (r < 0 ∨ (0 ≤ r ∧ r ≤ m - x.length ∧ ∀ a ∈ x, okMessage a)) by
    obtain ⟨r, hr, hr'⟩ := H
    refine ⟨r, Ev.neg hn hr, ?_⟩
    rcases hr' with h | ⟨a, b, c⟩
    · exact .inl h
    · exact .inr ⟨a, by omega, by omega, c⟩
  refine ev_szL (fun k m i => laws_szMessageS.l0 k x m i) x okMessage ?_ ?_ (m - x.length) (by omega) (by omega)
  · intro m hm
    refine Ev.succ ?_
    simp only [laws_szMessageS.l0, Int.lt_irrefl, if_false]
    exact Ev.now _
  · intro i hi m hm0 hm1
    have hb := hin x[i] (List.getElem_mem hi)
    refine ⟨if m - x[i].f3.length < 0 then -1 else m - x[i].f3.length, ?_, ?_, ?_⟩
    · split
      · exact .inl (by omega)
      · exact .inr ⟨by omega, by omega, by unfold okMessage; omega⟩
    · intro hneg
      refine Ev.succ ?_
      simp only [laws_szMessageS.l0, rd_lMessage_get x i hi, szMessage_eq _ _ _ _ m hb hm0 hm1, Option.bind_some]
      exact Ev.pos (by omega) (Ev.pos (by omega) (Ev.pos hneg (Ev.now _)))
    · intro hpos q hq
      refine Ev.succ ?_
      simp only [laws_szMessageS.l0, rd_lMessage_get x i hi, szMessage_eq _ _ _ _ m hb hm0 hm1, Option.bind_some, wsucc hi (show x.length ≤ 281474976710656 by omega)]
      exact Ev.pos (by omega) (Ev.pos (by omega) (Ev.neg (by omega) hq))
theorem ev_toByteS (x : List Int) (hx : x.length ≤ 1048576) : Ev (fun k => laws_toByteS.f k x) x := by
  unfold laws_toByteS.f
  have h := ev_copy (fun k y i => laws_toByteS.l0 k x y i) x (fun a => a) (fun y => y) ?_ ?_ (List.replicate x.length 0) (by simp)
  · simp only [List.map_id'] at h
    refine Ev.pos (by omega) (Ev.pos (by omega) ?_)
    simp only [Int.toNat_natCast]
    exact h
  · refine Ev.succ ?_
    simp only [laws_toByteS.l0, Int.lt_irrefl, if_false]
    exact Ev.now _
  · intro i hi y hy r h
    refine Ev.succ ?_
    simp only [laws_toByteS.l0]
    refine Ev.pos (by omega) (Ev.pos (by omega) (Ev.pos (by omega) ?_))
    simp only [Int.toNat_natCast, rd_get x i hi, wsucc hi (show x.length ≤ 281474976710656 by omega)]
    exact h
theorem ev_toMessage (u fl d : Int) (x : List Int) (hx : x.length ≤ 1048576) : Ev (fun k => laws_toMessage.f k u fl d x) (u, fl, d, x) := by
  unfold laws_toMessage.f
  exact Ev.bind (ev_toByteS x hx) (Ev.now _)
theorem ev_toMessageS (x : List S166) (hx : x.length ≤ 1048576) (hin : ∀ y ∈ x, okMessage y) : Ev (fun k => laws_toMessageS.f k x) (x.map cvMessage) := by
  unfold laws_toMessageS.f
  have h := ev_copy (fun k y i => laws_toMessageS.l0 k x y i) x cvMessage (fun y => y) ?_ ?_ (List.replicate x.length z133) (by simp)
  · refine Ev.pos (by omega) (Ev.pos (by omega) ?_)
    simp only [Int.toNat_natCast]
    exact h
  · refine Ev.succ ?_
    simp only [laws_toMessageS.l0, Int.lt_irrefl, if_false]
    exact Ev.now _
  · intro i hi y hy r h
    refine Ev.succ ?_
    simp only [laws_toMessageS.l0, rd_lMessage_get x i hi]
    refine Ev.pos (by omega) (Ev.pos (by omega) (Ev.bind (ev_toMessage _ _ _ _ (hin _ (List.getElem_mem hi))) (Ev.pos (by omega) ?_)))
    simp only [Int.toNat_natCast, wsucc hi (show x.length ≤ 281474976710656 by omega)]
    exact h
theorem ev_eqByteS (x : List Int) (hx : x.length ≤ 1048576) : Ev (fun k => laws_eqByteS.f k x x) true := by
  unfold laws_eqByteS.f
  refine Ev.pos rfl ?_
  refine ev_iter (fun k (_ : Unit) i => laws_eqByteS.l0 k x x i) x.length (fun _ => ()) true ?_ ?_
  · refine Ev.succ ?_
    simp only [laws_eqByteS.l0, Int.lt_irrefl, if_false]
    exact Ev.now _
  · intro i hi r h
    refine Ev.succ ?_
    simp only [laws_eqByteS.l0]
    refine Ev.pos (by omega) (Ev.pos (by omega) (Ev.pos (by omega) (Ev.pos trivial ?_)))
    simp only [wsucc hi (show x.length ≤ 281474976710656 by omega)]
    exact h
theorem ev_eqMessage (u fl d : Int) (x : List Int) (hx : x.length ≤ 1048576) : Ev (fun k => laws_eqMessage.f k u fl d x u fl d x) true := by
  unfold laws_eqMessage.f
  refine Ev.pos rfl (Ev.pos rfl (Ev.pos rfl ?_))
  exact Ev.bind (ev_eqByteS x hx) (Ev.pos rfl (Ev.now _))
theorem ev_eqMessageS (x : List S133) (hx : x.length ≤ 1048576) (hin : ∀ y ∈ x, y.f3.length ≤ 1048576) : Ev (fun k => laws_eqMessageS.f k x x) true := by
  unfold laws_eqMessageS.f
  refine Ev.pos rfl ?_
  refine ev_iter (fun k (_ : Unit) i => laws_eqMessageS.l0 k x x i) x.length (fun _ => ()) true ?_ ?_
  · refine Ev.succ ?_
    simp only [laws_eqMessageS.l0, Int.lt_irrefl, if_false]
    exact Ev.now _
  · intro i hi r h
    refine Ev.succ ?_
    simp only [laws_eqMessageS.l0, rd_Message_get x i hi]
    refine Ev.pos (by omega) (Ev.pos (by omega) (Ev.pos (by omega) (Ev.bind (ev_eqMessage _ _ _ _ (hin _ (List.getElem_mem hi))) (Ev.pos rfl ?_))))
    simp only [wsucc hi (show x.length ≤ 281474976710656 by omega)]
    exact h
theorem ev_szBox (nm : ByteArray) (v nx : Int) (x : List S166) (hn : nm.size ≤ 140737488351232) (hx : x.length ≤ 140737488351232) (hin : ∀ y ∈ x, y.f3.length ≤ 140737488351232) (m : Int) (h0 : 0 ≤ m) (h1 : m ≤ 1048576) :
    ∃ r, Ev (fun k => laws_szBox.f k nm v nx x m) r ∧ (r < 0 ∨ (0 ≤ r ∧ r ≤ m ∧ nm.size ≤ 1048576 ∧ x.length ≤ 1048576 ∧ ∀ y ∈ x, okMessage y)) := by
  unfold laws_szBox.f
  simp only [wid (x := m - nm.size) (by omega) (by omega)]
  by_cases hneg : m - (nm.size : Int) < 0
  · exact ⟨-1, Ev.pos hneg (Ev.now _), .inl (by omega)⟩
  obtain ⟨r, hr, hr'⟩ := ev_szMessageS x hx hin (m - nm.size) (by omega) (by omega)
  rcases hr' with h | ⟨a, b, c, d⟩
  · exact ⟨-1, Ev.neg hneg (Ev.bind hr (Ev.pos h (Ev.now _))), .inl (by omega)⟩
  · exact ⟨r, Ev.neg hneg (Ev.bind hr (Ev.neg (by omega) (Ev.now _))), .inr ⟨a, by omega, by omega, c, d⟩⟩
theorem ev_toBox (nm : ByteArray) (v nx : Int) (x : List S166) (hx : x.length ≤ 1048576) (hin : ∀ y ∈ x, okMessage y) : Ev (fun k => laws_toBox.f k nm v nx x) (nm, v, nx, x.map cvMessage) := by
  unfold laws_toBox.f
  exact Ev.bind (ev_toMessageS x hx hin) (Ev.now _)
theorem ev_eqBox (nm : ByteArray) (v nx : Int) (x : List S133) (hx : x.length ≤ 1048576) (hin : ∀ y ∈ x, y.f3.length ≤ 1048576) : Ev (fun k => laws_eqBox.f k nm v nx x nm v nx x) true := by
  unfold laws_eqBox.f
  refine Ev.pos rfl (Ev.pos rfl (Ev.pos rfl ?_))
  exact Ev.bind (ev_eqMessageS x hx hin) (Ev.pos rfl (Ev.now _))
theorem ok_cv {x : List S166} (hin : ∀ y ∈ x, okMessage y) : ∀ y ∈ x.map cvMessage, y.f3.length ≤ 1048576 := by
  intro y hy
  obtain ⟨z, hz, rfl⟩ := List.mem_map.1 hy
  exact hin z hz
theorem ev_szBoxS (x : List S46) (hx : x.length ≤ 140737488351232) (hin : ∀ b ∈ x, b.f0.size ≤ 140737488351232 ∧ b.f3.length ≤ 140737488351232 ∧ ∀ y ∈ b.f3, y.f3.length ≤ 140737488351232) (m : Int) (h0 : 0 ≤ m) (h1 : m ≤ 1048576) :
    ∃ r, Ev (fun k => laws_szBoxS.f k x m) r ∧ (r < 0 ∨ (0 ≤ r ∧ r ≤ m ∧ x.length ≤ 1048576 ∧ ∀ y ∈ x, okBox y)) := by
  unfold laws_szBoxS.f
  simp only [wid (x := m - x.length) (by omega) (by omega)]
  by_cases hn : m - (x.length : Int) < 0
  · exact ⟨-1, Ev.pos hn (Ev.now _), .inl (by omega)⟩
  suffices H : ∃ r, Ev (fun k => laws_szBoxS.l0 k x (m - x.length) 0) r ∧ (r < 0 ∨ (0 ≤ r ∧ r ≤ m - x.length ∧ ∀ a ∈ x, okBox a)) by
    obtain ⟨r, hr, hr'⟩ := H
    refine ⟨r, Ev.neg hn hr, ?_⟩
    rcases hr' with h | ⟨a, b, c⟩
    · exact .inl h
    · exact .inr ⟨a, by omega, by omega, c⟩
  refine ev_szL (fun k m i => laws_szBoxS.l0 k x m i) x okBox ?_ ?_ (m - x.length) (by omega) (by omega)
  · intro m hm
    refine Ev.succ ?_
    simp only [laws_szBoxS.l0, Int.lt_irrefl, if_false]
    exact Ev.now _
  · intro i hi m hm0 hm1
    have hb := hin x[i] (List.getElem_mem hi)
    obtain ⟨r, hr, hr'⟩ := ev_szBox x[i].f0 x[i].f1 x[i].f2 x[i].f3 hb.1 hb.2.1 hb.2.2 m hm0 hm1
    refine ⟨r, ?_, ?_, ?_⟩
    · rcases hr' with h | ⟨a, b, c, d, e⟩
      · exact .inl h
      · exact .inr ⟨a, b, c, d, e⟩
    · intro hneg
      refine Ev.succ ?_
      simp only [laws_szBoxS.l0, rd_lBox_get x i hi]
      exact Ev.pos (by omega) (Ev.pos (by omega) (Ev.bind hr (Ev.pos hneg (Ev.now _))))
    · intro hpos q hq
      refine Ev.succ ?_
      simp only [laws_szBoxS.l0, rd_lBox_get x i hi, wsucc hi (show x.length ≤ 281474976710656 by omega)]
      exact Ev.pos (by omega) (Ev.pos (by omega) (Ev.bind hr (Ev.neg (by omega) hq)))
theorem ev_szStore (v : Int) (x : List S46) (hx : x.length ≤ 140737488351232) (hin : ∀ b ∈ x, b.f0.size ≤ 140737488351232 ∧ b.f3.length ≤ 140737488351232 ∧ ∀ y ∈ b.f3, y.f3.length ≤ 140737488351232) (m : Int) (h0 : 0 ≤ m) (h1 : m ≤ 1048576) :
    ∃ r, Ev (fun k => laws_szStore.f k v x m) r ∧ (r < 0 ∨ (0 ≤ r ∧ r ≤ m ∧ x.length ≤ 1048576 ∧ ∀ y ∈ x, okBox y)) := by
  obtain ⟨r, hr, hr'⟩ := ev_szBoxS x hx hin m h0 h1
  unfold laws_szStore.f
  by_cases h : r < 0
  · exact ⟨-1, Ev.bind hr (Ev.pos h (Ev.now _)), .inl (by omega)⟩
  · exact ⟨r, Ev.bind hr (Ev.neg h (Ev.now _)), hr'⟩
theorem ev_toBoxS (x : List S46) (hx : x.length ≤ 1048576) (hin : ∀ y ∈ x, okBox y) : Ev (fun k => laws_toBoxS.f k x) (x.map cvBox) := by
  unfold laws_toBoxS.f
  have h := ev_copy (fun k y i => laws_toBoxS.l0 k x y i) x cvBox (fun y => y) ?_ ?_ (List.replicate x.length z51) (by simp)
  · refine Ev.pos (by omega) (Ev.pos (by omega) ?_)
    simp only [Int.toNat_natCast]
    exact h
  · refine Ev.succ ?_
    simp only [laws_toBoxS.l0, Int.lt_irrefl, if_false]
    exact Ev.now _
  · intro i hi y hy r h
    have hb := hin _ (List.getElem_mem hi)
    refine Ev.succ ?_
    simp only [laws_toBoxS.l0, rd_lBox_get x i hi]
    refine Ev.pos (by omega) (Ev.pos (by omega) (Ev.bind (ev_toBox _ _ _ _ hb.2.1 hb.2.2) (Ev.pos (by omega) ?_)))
    simp only [Int.toNat_natCast, wsucc hi (show x.length ≤ 281474976710656 by omega)]
    exact h
theorem ev_toStore (v : Int) (x : List S46) (hx : x.length ≤ 1048576) (hin : ∀ y ∈ x, okBox y) : Ev (fun k => laws_toStore.f k v x) (v, x.map cvBox) := by
  unfold laws_toStore.f
  exact Ev.bind (ev_toBoxS x hx hin) (Ev.now _)
theorem ev_eqBoxS (x : List S51) (hx : x.length ≤ 1048576) (hin : ∀ y ∈ x, okIBox y) : Ev (fun k => laws_eqBoxS.f k x x) true := by
  unfold laws_eqBoxS.f
  refine Ev.pos rfl ?_
  refine ev_iter (fun k (_ : Unit) i => laws_eqBoxS.l0 k x x i) x.length (fun _ => ()) true ?_ ?_
  · refine Ev.succ ?_
    simp only [laws_eqBoxS.l0, Int.lt_irrefl, if_false]
    exact Ev.now _
  · intro i hi r h
    have hb := hin _ (List.getElem_mem hi)
    refine Ev.succ ?_
    simp only [laws_eqBoxS.l0, rd_Box_get x i hi]
    refine Ev.pos (by omega) (Ev.pos (by omega) (Ev.pos (by omega) (Ev.bind (ev_eqBox _ _ _ _ hb.2.1 hb.2.2) (Ev.pos rfl ?_))))
    simp only [wsucc hi (show x.length ≤ 281474976710656 by omega)]
    exact h
theorem ev_eqStore (v : Int) (x : List S51) (hx : x.length ≤ 1048576) (hin : ∀ y ∈ x, okIBox y) : Ev (fun k => laws_eqStore.f k v x v x) true := by
  unfold laws_eqStore.f
  exact Ev.pos rfl (Ev.bind (ev_eqBoxS x hx hin) (Ev.pos rfl (Ev.now _)))
def sameL {α : Type} (p : α → α → Bool) (x y : List α) : Bool := decide (x.length = y.length) && (x.zip y).all (fun q => p q.1 q.2)
theorem ev_sameL {α : Type} (l : Nat → Int → Option Bool) (x y : List α) (p : α → α → Bool) (hxy : x.length = y.length) (stop : Ev (fun k => l k (x.length : Int)) true)
    (no : ∀ (i : Nat) (hi : i < x.length) (hj : i < y.length), p x[i] y[i] = false → Ev (fun k => l k (i : Int)) false)
    (on : ∀ (i : Nat) (hi : i < x.length) (hj : i < y.length), p x[i] y[i] = true → ∀ r, Ev (fun k => l k ((i + 1 : Nat) : Int)) r → Ev (fun k => l k (i : Int)) r) : Ev (fun k => l k 0) (sameL p x y) := by
  have hlen : (x.zip y).length = x.length := by rw [List.length_zip]; omega
  have h := ev_find l (x.zip y) (fun q => if p q.1 q.2 = true then none else some false) true (by rw [hlen]; exact stop) ?_ ?_
  · rw [find_guard] at h
    unfold sameL
    rw [decide_eq_true hxy, Bool.true_and]
    cases ha : (x.zip y).all (fun q => p q.1 q.2) <;> simp only [ha] at h <;> exact h
  · intro i hi r hr
    rw [hlen] at hi
    simp only [List.getElem_zip] at hr
    cases hp : p x[i] (y[i]'(by omega))
    · simp only [hp] at hr; cases hr; exact no i hi (by omega) hp
    · simp only [hp] at hr; cases hr
  · intro i hi hr r h
    rw [hlen] at hi
    simp only [List.getElem_zip] at hr
    cases hp : p x[i] (y[i]'(by omega))
    · simp only [hp] at hr; cases hr
    · exact on i hi (by omega) hp r h
theorem sameL_ne {α : Type} (p : α → α → Bool) (x y : List α) (h : x.length ≠ y.length) : sameL p x y = false := by unfold sameL; rw [decide_eq_false h]; rfl
theorem sameL_eq (x y : List Int) : sameL (fun a b => decide (a = b)) x y = decide (x = y) := by
  induction x generalizing y with
  | nil => cases y <;> simp [sameL]
  | cons a x ih =>
    cases y with
    | nil => simp [sameL]
    | cons b y =>
      have := ih y
      simp only [sameL] at this
      rw [Bool.eq_iff_iff] at this ⊢
      simp only [sameL, List.length_cons, List.zip_cons_cons, List.all_cons, Bool.and_eq_true, decide_eq_true_eq, List.cons.injEq, Nat.add_right_cancel_iff] at this ⊢
      constructor
      · rintro ⟨h1, h2, h3⟩; exact ⟨h2, this.1 ⟨h1, h3⟩⟩
      · rintro ⟨h1, h2⟩; exact ⟨(this.2 h2).1, h1, (this.2 h2).2⟩
def Bytes (x : List Int) : Prop := ∀ b ∈ x, 0 ≤ b ∧ b ≤ 255
theorem str_inj (x y : List Int) (hx : Bytes x) (hy : Bytes y) : (strOfNums x).toList = (strOfNums y).toList ↔ x = y := by
  constructor
  · rw [Go.Lib.strOfNums_toList, Go.Lib.strOfNums_toList]
    intro h
    have h : x.map (fun n => UInt8.ofNat n.toNat) = y.map (fun n => UInt8.ofNat n.toNat) := h
    induction x generalizing y with
    | nil => cases y with
      | nil => rfl
      | cons b y => simp at h
    | cons a x ih =>
      cases y with
      | nil => simp at h
      | cons b y =>
        simp only [List.map_cons, List.cons.injEq] at h
        have h1 := congrArg UInt8.toNat h.1
        have ha := hx a (List.mem_cons_self ..)
        have hb := hy b (List.mem_cons_self ..)
        simp only [UInt8.toNat_ofNat'] at h1
        rw [ih y (fun z hz => hx z (List.mem_cons_of_mem _ hz)) (fun z hz => hy z (List.mem_cons_of_mem _ hz)) h.2 h.2]
        have : a = b := by omega
        rw [this]
  · intro h; rw [h]
theorem ev_slicesEqual_byte (x y : List Int) (hx : x.length ≤ 1048576) : Ev (fun k => slices_Equal_byte_byte.f k x y) (decide (x = y)) := by
  unfold slices_Equal_byte_byte.f
  by_cases hl : x.length = y.length
  case neg =>
    have : decide (x = y) = false := decide_eq_false (fun h => hl (by rw [h]))
    rw [this]
    exact Ev.neg (by omega) (Ev.now _)
  refine Ev.pos (by omega) ?_
  rw [← sameL_eq]
  refine ev_sameL (fun k i => slices_Equal_byte_byte.l0 k x y (x.length : Int) i) x y _ hl ?_ ?_ ?_
  · refine Ev.succ ?_
    simp only [slices_Equal_byte_byte.l0, Int.lt_irrefl, if_false]
    exact Ev.now _
  · intro i hi hj hp
    refine Ev.succ ?_
    simp only [slices_Equal_byte_byte.l0, rd_get x i hi, rd_get y i hj]
    exact Ev.pos (by omega) (Ev.pos (by omega) (Ev.pos (by omega) (Ev.pos (by omega) (Ev.neg (of_decide_eq_false hp) (Ev.now _)))))
  · intro i hi hj hp r h
    refine Ev.succ ?_
    simp only [slices_Equal_byte_byte.l0, rd_get x i hi, rd_get y i hj, wsucc hi (show x.length ≤ 281474976710656 by omega)]
    exact Ev.pos (by omega) (Ev.pos (by omega) (Ev.pos (by omega) (Ev.pos (by omega) (Ev.pos (of_decide_eq_true hp) h))))
def sameMsg (a b : S133) : Bool := decide (a.f0 = b.f0) && (decide (a.f1 = b.f1) && (decide (a.f2 = b.f2) && decide (a.f3 = b.f3)))
def sameBx (a b : S51) : Bool := decide (a.f0.toList = b.f0.toList) && (decide (a.f1 = b.f1) && (decide (a.f2 = b.f2) && sameL sameMsg a.f3 b.f3))
def sameStore (v : Int) (x : List S51) (v' : Int) (y : List S51) : Bool := decide (v = v') && sameL sameBx x y
def byIBox (x : S51) : Prop := ∀ y ∈ x.f3, Bytes y.f3
theorem l7SameMessage_eq (a b : S133) (l l' : List S133) (ba : Bytes a.f3) (bb : Bytes b.f3) : spec_l7SameMessage.f (a :: l) (b :: l') = some (sameMsg a b) := by
  have e : rd_T133 (a :: l) 0 = a := rfl
  have e' : rd_T133 (b :: l') 0 = b := rfl
  unfold spec_l7SameMessage.f
  rw [if_pos (by simp only [List.length_cons]; omega), if_pos (by simp only [List.length_cons]; omega)]
  simp only [e, e']
  by_cases h0 : a.f0 = b.f0
  case neg => rw [if_neg h0]; simp [sameMsg, h0]
  by_cases h1 : a.f1 = b.f1
  case neg => rw [if_pos h0, if_neg h1]; simp [sameMsg, h1]
  by_cases h2 : a.f2 = b.f2
  case neg => rw [if_pos h0, if_pos h1, if_neg h2]; simp [sameMsg, h2]
  rw [if_pos h0, if_pos h1, if_pos h2]
  congr 1
  rw [Bool.eq_iff_iff, beq_iff_eq, str_inj _ _ ba bb]
  simp [sameMsg, h0, h1, h2]
theorem ev_implsameMessages (a b : S133) (ha : a.f3.length ≤ 1048576) : Ev (fun k => impl_sameMessages.f k a.f0 a.f1 a.f2 a.f3 b.f0 b.f1 b.f2 b.f3) (sameMsg a b) := by
  unfold impl_sameMessages.f sameMsg
  by_cases h0 : a.f0 = b.f0
  case neg => rw [decide_eq_false h0]; exact Ev.neg h0 (Ev.now _)
  by_cases h1 : a.f1 = b.f1
  case neg => rw [decide_eq_true h0, decide_eq_false h1]; exact Ev.pos h0 (Ev.neg h1 (Ev.now _))
  by_cases h2 : a.f2 = b.f2
  case neg => rw [decide_eq_true h0, decide_eq_true h1, decide_eq_false h2]; exact Ev.pos h0 (Ev.pos h1 (Ev.neg h2 (Ev.now _)))
  rw [decide_eq_true h0, decide_eq_true h1, decide_eq_true h2]
  simp only [Bool.true_and]
  exact Ev.pos h0 (Ev.pos h1 (Ev.pos h2 (Ev.bind (ev_slicesEqual_byte a.f3 b.f3 ha) (Ev.now _))))
theorem ev_implMessageS (x y : List S133) (hx : ∀ a ∈ x, a.f3.length ≤ 1048576) (hl : x.length ≤ 1048576) : Ev (fun k => impl_Message_v0.f k x y) (sameL sameMsg x y) := by
  unfold impl_Message_v0.f
  by_cases hxy : x.length = y.length
  case neg => rw [sameL_ne _ _ _ hxy]; exact Ev.neg (by omega) (Ev.now _)
  refine Ev.pos (by omega) ?_
  refine ev_sameL (fun k i => impl_Message_v0.l0 k y x (x.length : Int) i) x y sameMsg hxy ?_ ?_ ?_
  · refine Ev.succ ?_
    simp only [impl_Message_v0.l0, Int.lt_irrefl, if_false]
    exact Ev.now _
  · intro i hi hj hq
    refine Ev.succ ?_
    simp only [impl_Message_v0.l0, rd_Message_get x i hi, rd_Message_get y i hj]
    exact Ev.pos (by omega) (Ev.pos (by omega) (Ev.pos (by omega) (Ev.pos (by omega) (Ev.bind (ev_implsameMessages _ _ (hx _ (List.getElem_mem hi))) (Ev.neg (by simp [hq]) (Ev.now _))))))
  · intro i hi hj hq r h
    refine Ev.succ ?_
    simp only [impl_Message_v0.l0, rd_Message_get x i hi, rd_Message_get y i hj, wsucc hi (show x.length ≤ 281474976710656 by omega)]
    exact Ev.pos (by omega) (Ev.pos (by omega) (Ev.pos (by omega) (Ev.pos (by omega) (Ev.bind (ev_implsameMessages _ _ (hx _ (List.getElem_mem hi))) (Ev.pos hq h)))))
theorem ev_implsameBox (a b : S51) (ha : okIBox a) : Ev (fun k => impl_SameStores_1.f k a.f0 a.f1 a.f2 a.f3 b.f0 b.f1 b.f2 b.f3) (sameBx a b) := by
  unfold impl_SameStores_1.f sameBx
  by_cases h0 : a.f0.toList = b.f0.toList
  case neg => rw [decide_eq_false h0]; exact Ev.neg h0 (Ev.now _)
  by_cases h1 : a.f1 = b.f1
  case neg => rw [decide_eq_true h0, decide_eq_false h1]; exact Ev.pos h0 (Ev.neg h1 (Ev.now _))
  by_cases h2 : a.f2 = b.f2
  case neg => rw [decide_eq_true h0, decide_eq_true h1, decide_eq_false h2]; exact Ev.pos h0 (Ev.pos h1 (Ev.neg h2 (Ev.now _)))
  rw [decide_eq_true h0, decide_eq_true h1, decide_eq_true h2]
  simp only [Bool.true_and]
  exact Ev.pos h0 (Ev.pos h1 (Ev.pos h2 (Ev.bind (ev_implMessageS a.f3 b.f3 ha.2.2 ha.2.1) (Ev.now _))))
theorem ev_implSameStores (v v' : Int) (x y : List S51) (hx : ∀ a ∈ x, okIBox a) (hl : x.length ≤ 1048576) : Ev (fun k => impl_SameStores.f k v x v' y) (sameStore v x v' y) := by
  unfold impl_SameStores.f sameStore
  by_cases hv : v = v'
  case neg => rw [decide_eq_false hv]; exact Ev.neg hv (Ev.now _)
  rw [decide_eq_true hv, Bool.true_and]
  refine Ev.pos hv (Ev.bind ?_ (Ev.now _))
  unfold impl_Box_v1.f
  by_cases hxy : x.length = y.length
  case neg => rw [sameL_ne _ _ _ hxy]; exact Ev.neg (by omega) (Ev.now _)
  refine Ev.pos (by omega) ?_
  refine ev_sameL (fun k i => impl_Box_v1.l0 k y x (x.length : Int) i) x y sameBx hxy ?_ ?_ ?_
  · refine Ev.succ ?_
    simp only [impl_Box_v1.l0, Int.lt_irrefl, if_false]
    exact Ev.now _
  · intro i hi hj hq
    refine Ev.succ ?_
    simp only [impl_Box_v1.l0, rd_Box_get x i hi, rd_Box_get y i hj]
    exact Ev.pos (by omega) (Ev.pos (by omega) (Ev.pos (by omega) (Ev.pos (by omega) (Ev.bind (ev_implsameBox _ _ (hx _ (List.getElem_mem hi))) (Ev.neg (by simp [hq]) (Ev.now _))))))
  · intro i hi hj hq r h
    refine Ev.succ ?_
    simp only [impl_Box_v1.l0, rd_Box_get x i hi, rd_Box_get y i hj, wsucc hi (show x.length ≤ 281474976710656 by omega)]
    exact Ev.pos (by omega) (Ev.pos (by omega) (Ev.pos (by omega) (Ev.pos (by omega) (Ev.bind (ev_implsameBox _ _ (hx _ (List.getElem_mem hi))) (Ev.pos hq h)))))
theorem ev_l7SameBox (a b : S51) (l l' : List S51) (ha : okIBox a) (ba : byIBox a) (bb : byIBox b) : Ev (fun k => spec_l7SameBox.f k (a :: l) (b :: l')) (sameBx a b) := by
  have e : rd_T51 (a :: l) 0 = a := rfl
  have e' : rd_T51 (b :: l') 0 = b := rfl
  have hp : (0 : Int) < ((a :: l).length : Int) := by simp only [List.length_cons]; omega
  have hp' : (0 : Int) < ((b :: l').length : Int) := by simp only [List.length_cons]; omega
  have hbig := ha.2.1
  have no : Ev (fun k => spec_l7SameBox.j0 k (a :: l) (b :: l') true) false := by
    refine Ev.succ ?_
    simp only [spec_l7SameBox.j0, if_true]
    exact Ev.now _
  unfold spec_l7SameBox.f
  simp only [e, e']
  refine Ev.pos hp (Ev.pos hp' ?_)
  by_cases h0 : a.f0.toList = b.f0.toList
  case neg => rw [show sameBx a b = false by simp [sameBx, h0]]; exact Ev.neg h0 no
  by_cases h1 : a.f1 = b.f1
  case neg => rw [show sameBx a b = false by simp [sameBx, h1]]; exact Ev.pos h0 (Ev.neg h1 no)
  by_cases h2 : a.f2 = b.f2
  case neg => rw [show sameBx a b = false by simp [sameBx, h2]]; exact Ev.pos h0 (Ev.pos h1 (Ev.neg h2 no))
  refine Ev.pos h0 (Ev.pos h1 (Ev.pos h2 ?_))
  have es : sameBx a b = sameL sameMsg a.f3 b.f3 := by simp [sameBx, h0, h1, h2]
  rw [es]
  by_cases hl : a.f3.length = b.f3.length
  case neg =>
    rw [sameL_ne _ _ _ hl, show ((a.f3.length : Int) != (b.f3.length : Int)) = true by simp; omega]
    exact no
  rw [show ((a.f3.length : Int) != (b.f3.length : Int)) = false by simp; omega]
  refine Ev.succ ?_
  simp only [spec_l7SameBox.j0]
  refine Ev.neg (by simp) ?_
  have one : ∀ (i : Nat) (hi : i < a.f3.length) (hj : i < b.f3.length), spec_l7SameMessage.f (a.f3.drop i) (b.f3.drop i) = some (sameMsg a.f3[i] b.f3[i]) := by
    intro i hi hj
    rw [List.drop_eq_getElem_cons hi, List.drop_eq_getElem_cons hj]
    exact l7SameMessage_eq _ _ _ _ (ba _ (List.getElem_mem hi)) (bb _ (List.getElem_mem hj))
  refine ev_sameL (fun k i => spec_l7SameBox.l0 k (a :: l) (b :: l') i) a.f3 b.f3 _ hl ?_ ?_ ?_
  · refine Ev.succ ?_
    simp only [spec_l7SameBox.l0, e, Int.lt_irrefl, if_false]
    exact Ev.pos hp (Ev.now _)
  · intro i hi hj hq
    refine Ev.succ ?_
    simp only [spec_l7SameBox.l0, e, e', Int.toNat_natCast]
    refine Ev.pos hp (Ev.pos (by omega) (Ev.pos (by omega) (Ev.pos hp' (Ev.pos (by omega) (Ev.bindc (one i hi hj) (Ev.neg (by simp [hq]) (Ev.now _)))))))
  · intro i hi hj hq r h
    refine Ev.succ ?_
    simp only [spec_l7SameBox.l0, e, e', Int.toNat_natCast, wsucc hi (show a.f3.length ≤ 281474976710656 by omega)]
    exact Ev.pos hp (Ev.pos (by omega) (Ev.pos (by omega) (Ev.pos hp' (Ev.pos (by omega) (Ev.bindc (one i hi hj) (Ev.pos hq h))))))
theorem ev_specSameStores (v v' : Int) (x y : List S51) (hx : ∀ a ∈ x, okIBox a) (bx : ∀ a ∈ x, byIBox a) (by_ : ∀ a ∈ y, byIBox a) (hl : x.length ≤ 1048576) : Ev (fun k => spec_SameStores.f k v x v' y) (sameStore v x v' y) := by
  unfold spec_SameStores.f
  refine Ev.bind ?_ (Ev.now _)
  have e : rd_T62 [⟨v, x⟩] 0 = ⟨v, x⟩ := rfl
  have e' : rd_T62 [⟨v', y⟩] 0 = ⟨v', y⟩ := rfl
  have hp : (0 : Int) < (([⟨v, x⟩] : List S62).length : Int) := by simp
  have hp' : (0 : Int) < (([⟨v', y⟩] : List S62).length : Int) := by simp
  have no : Ev (fun k => spec_l7Same.j0 k [⟨v, x⟩] [⟨v', y⟩] true) false := by
    refine Ev.succ ?_
    simp only [spec_l7Same.j0, if_true]
    exact Ev.now _
  unfold spec_l7Same.f
  simp only [e, e']
  refine Ev.pos hp (Ev.pos hp' ?_)
  by_cases hv : v = v'
  case neg => rw [show sameStore v x v' y = false by simp [sameStore, hv]]; exact Ev.neg hv no
  refine Ev.pos hv ?_
  have es : sameStore v x v' y = sameL sameBx x y := by simp [sameStore, hv]
  rw [es]
  by_cases hxy : x.length = y.length
  case neg =>
    rw [sameL_ne _ _ _ hxy, show ((x.length : Int) != (y.length : Int)) = true by simp; omega]
    exact no
  rw [show ((x.length : Int) != (y.length : Int)) = false by simp; omega]
  refine Ev.succ ?_
  simp only [spec_l7Same.j0]
  refine Ev.neg (by simp) ?_
  have one : ∀ (i : Nat) (hi : i < x.length) (hj : i < y.length), Ev (fun k => spec_l7SameBox.f k (x.drop i) (y.drop i)) (sameBx x[i] y[i]) := by
    intro i hi hj
    rw [List.drop_eq_getElem_cons hi, List.drop_eq_getElem_cons hj]
    exact ev_l7SameBox _ _ _ _ (hx _ (List.getElem_mem hi)) (bx _ (List.getElem_mem hi)) (by_ _ (List.getElem_mem hj))
  refine ev_sameL (fun k i => spec_l7Same.l0 k [⟨v, x⟩] [⟨v', y⟩] i) x y sameBx hxy ?_ ?_ ?_
  · refine Ev.succ ?_
    simp only [spec_l7Same.l0, e, Int.lt_irrefl, if_false]
    exact Ev.pos hp (Ev.now _)
  · intro i hi hj hq
    refine Ev.succ ?_
    simp only [spec_l7Same.l0, e, e', Int.toNat_natCast]
    refine Ev.pos hp (Ev.pos (by omega) (Ev.pos (by omega) (Ev.pos hp' (Ev.pos (by omega) (Ev.bind (one i hi hj) (Ev.neg (by simp [hq]) (Ev.now _)))))))
  · intro i hi hj hq r h
    refine Ev.succ ?_
    simp only [spec_l7Same.l0, e, e', Int.toNat_natCast, wsucc hi (show x.length ≤ 281474976710656 by omega)]
    exact Ev.pos hp (Ev.pos (by omega) (Ev.pos (by omega) (Ev.pos hp' (Ev.pos (by omega) (Ev.bind (one i hi hj) (Ev.pos hq h))))))
theorem FnExactSameStores : ∀ (a0_0 : Int) (l0_1 : List (S46)) (a1_0 : Int) (l1_1 : List (S46)), (Lit.int .i64 a0_0).wf = true → (l0_1.length * 56 ≤ 140737488351232 ∧ ∀ x1_ ∈ l0_1, (x1_.f0.size ≤ 140737488351232 ∧ (Lit.int .i64 x1_.f1).wf = true ∧ (Lit.int .i64 x1_.f2).wf = true ∧ (x1_.f3.length * 48 ≤ 140737488351232 ∧ ∀ x2_ ∈ x1_.f3, ((Lit.int .i64 x2_.f0).wf = true ∧ (Lit.int .i64 x2_.f1).wf = true ∧ (Lit.int .i64 x2_.f2).wf = true ∧ (x2_.f3.length * 1 ≤ 140737488351232 ∧ ∀ x3_ ∈ x2_.f3, (Lit.int .u8 x3_).wf = true))))) → (Lit.int .i64 a1_0).wf = true → (l1_1.length * 56 ≤ 140737488351232 ∧ ∀ x1_ ∈ l1_1, (x1_.f0.size ≤ 140737488351232 ∧ (Lit.int .i64 x1_.f1).wf = true ∧ (Lit.int .i64 x1_.f2).wf = true ∧ (x1_.f3.length * 48 ≤ 140737488351232 ∧ ∀ x2_ ∈ x1_.f3, ((Lit.int .i64 x2_.f0).wf = true ∧ (Lit.int .i64 x2_.f1).wf = true ∧ (Lit.int .i64 x2_.f2).wf = true ∧ (x2_.f3.length * 1 ≤ 140737488351232 ∧ ∀ x3_ ∈ x2_.f3, (Lit.int .u8 x3_).wf = true))))) → ∃ k, laws_FnExactSameStores.f k a0_0 l0_1 a1_0 l1_1 = some true := by
  rintro v x v' y _ ⟨hx, hinx⟩ _ ⟨hy, hiny⟩
  apply Ev.get
  unfold laws_FnExactSameStores.f
  obtain ⟨r, hr, hr'⟩ := ev_szStore v x (by omega) (fun b hb => by
    have h := hinx b hb
    exact ⟨h.1, by omega, fun y hy => by have := (h.2.2.2.2 y hy).2.2.2.1; omega⟩) 1048576 (by omega) (by omega)
  refine Ev.bind hr ?_
  rcases hr' with h | ⟨h0, h1, hxl, hxo⟩
  · exact Ev.pos h (Ev.now _)
  obtain ⟨r', hs, hs'⟩ := ev_szStore v' y (by omega) (fun b hb => by
    have h := hiny b hb
    exact ⟨h.1, by omega, fun y hy => by have := (h.2.2.2.2 y hy).2.2.2.1; omega⟩) r (by omega) (by omega)
  refine Ev.neg (by omega) (Ev.bind hs ?_)
  rcases hs' with h | ⟨h2, h3, hyl, hyo⟩
  · exact Ev.pos h (Ev.now _)
  have hlx : (x.map cvBox).length ≤ 1048576 := by simpa using hxl
  have hly : (y.map cvBox).length ≤ 1048576 := by simpa using hyl
  have tx := ev_toStore v x hxl hxo
  have ty := ev_toStore v' y hyl hyo
  have bx : ∀ a ∈ x.map cvBox, byIBox a := by
    intro a ha
    obtain ⟨z, hz, rfl⟩ := List.mem_map.1 ha
    intro m hm b hb
    obtain ⟨t, ht, rfl⟩ := List.mem_map.1 hm
    have := ((hinx z hz).2.2.2.2 t ht).2.2.2.2 b hb
    simp only [Lit.wf, Bool.and_eq_true, decide_eq_true_eq] at this
    exact this
  have by_ : ∀ a ∈ y.map cvBox, byIBox a := by
    intro a ha
    obtain ⟨z, hz, rfl⟩ := List.mem_map.1 ha
    intro m hm b hb
    obtain ⟨t, ht, rfl⟩ := List.mem_map.1 hm
    have := ((hiny z hz).2.2.2.2 t ht).2.2.2.2 b hb
    simp only [Lit.wf, Bool.and_eq_true, decide_eq_true_eq] at this
    exact this
  refine Ev.neg (by omega) (Ev.bind tx (Ev.bind ty (Ev.bind (ev_specSameStores v v' _ _ (okI_cv hxo) bx by_ hlx) (Ev.bind tx (Ev.bind ty (Ev.bind (ev_implSameStores v v' _ _ (okI_cv hxo) hlx) (Ev.neg (by simp) ?_)))))))
  exact Ev.bind tx (Ev.bind (ev_eqStore v _ hlx (okI_cv hxo)) (Ev.pos rfl (Ev.bind ty (Ev.bind (ev_eqStore v' _ hly (okI_cv hyo)) (Ev.pos rfl (Ev.now _))))))

end Go.Proofs.Ytfbgfakdflifdaa.Pure

/- The program's MessageFault returns what the reference's MessageFault returns, for every message. Conditions: none. -/
import Derived.Test.YtcliocbkoijblaaPFnExactMessageFaultx2
import Derived.Test.YtcliocbkoijblaaU
namespace Go.Proofs.Ytcliocbkoijblaa.Pure
open Go.RowKit Go.Proofs.Ytcliocbkoijblaa.PFnExactMessageFault Go.Proofs.YtcliocbkoijblaaW.PrintWords Go.Proofs.YtcliocbkoijblaaW.PrintLast Go.Proofs.Ytcliocbkoijblaa.U
set_option linter.unusedSimpArgs false
set_option linter.unusedVariables false

theorem szByteS_eq (x : List Int) (m : Int) (hx : x.length ≤ 140737488351232) (h0 : 0 ≤ m) (h1 : m ≤ 1048576) : laws_szByteS.f x m = some (if m - x.length < 0 then -1 else m - x.length) := by
  unfold laws_szByteS.f
  rw [wid (by omega) (by omega)]
  split <;> rfl
theorem ev_toByteS (x : List Int) (hx : x.length ≤ 1048576) : Ev (fun k => laws_toByteS.f k x) x := by
  unfold laws_toByteS.f
  have h := ev_copy (fun k y i => laws_toByteS.l0 k x y i) x (fun a => a) (fun y => y) ?_ ?_ (List.replicate x.length 0) (by simp)
  · simp only [List.map_id'] at h
    refine Ev.pos (by omega) (Ev.pos (by omega) ?_)
    simp only [Int.toNat_natCast]
    exact h
  · refine Ev.succ ?_
    simp only [laws_toByteS.l0, Int.lt_irrefl, if_false]
    exact Ev.now _
  · intro i hi y hy r h
    refine Ev.succ ?_
    simp only [laws_toByteS.l0]
    refine Ev.pos (by omega) (Ev.pos (by omega) (Ev.pos (by omega) ?_))
    simp only [Int.toNat_natCast, rd_get x i hi, wsucc hi (show x.length ≤ 281474976710656 by omega)]
    exact h
theorem ev_eqByteS (x : List Int) (hx : x.length ≤ 1048576) : Ev (fun k => laws_eqByteS.f k x x) true := by
  unfold laws_eqByteS.f
  refine Ev.pos rfl ?_
  refine ev_iter (fun k (_ : Unit) i => laws_eqByteS.l0 k x x i) x.length (fun _ => ()) true ?_ ?_
  · refine Ev.succ ?_
    simp only [laws_eqByteS.l0, Int.lt_irrefl, if_false]
    exact Ev.now _
  · intro i hi r h
    refine Ev.succ ?_
    simp only [laws_eqByteS.l0]
    refine Ev.pos (by omega) (Ev.pos (by omega) (Ev.pos (by omega) (Ev.pos trivial ?_)))
    simp only [wsucc hi (show x.length ≤ 281474976710656 by omega)]
    exact h
theorem l1In_eq (a b c : Int) : spec_l1In.f a b c = some (decide (b ≤ a ∧ a ≤ c)) := by
  unfold spec_l1In.f
  by_cases h : b ≤ a <;> simp [h]
def msgFault (u fl d : Int) (n : Nat) : Int := if (1 ≤ u ∧ u ≤ 999) ∧ (0 ≤ fl ∧ fl ≤ 15) ∧ (0 ≤ d ∧ d ≤ 9999) then (if 400 < n then 2 else 0) else 3
theorem ev_l7Message (m : S39) (l : List S39) : Ev (fun k => spec_l7Message.f k (m :: l)) (msgFault m.f0 m.f1 m.f2 m.f3.length) := by
  have e : rd_T39 (m :: l) 0 = m := rfl
  refine Ev.at 1 fun k => ?_
  have hl : (0 : Int) < ((m :: l).length : Int) := by simp only [List.length_cons]; omega
  simp only [spec_l7Message.f, spec_l7Message.j0, e, l1In_eq, Option.bind_some, hl, if_true, decide_eq_true_eq, msgFault]
  by_cases h0 : 1 ≤ m.f0 ∧ m.f0 ≤ 999 <;> by_cases h1 : 0 ≤ m.f1 ∧ m.f1 ≤ 15 <;> by_cases h2 : 0 ≤ m.f2 ∧ m.f2 ≤ 9999 <;> by_cases h3 : 400 < m.f3.length <;> simp [h0, h1, h2, h3] <;> first | done | omega
theorem within_eq (a b c : Int) : impl_within.f a b c = some (decide (b ≤ a ∧ a ≤ c)) := by
  unfold impl_within.f
  by_cases h : b ≤ a <;> simp [h]
theorem ev_implMessageFault (u fl d : Int) (x : List Int) : Ev (fun k => impl_MessageFault.f k u fl d x) (msgFault u fl d x.length) := by
  refine Ev.at 1 fun k => ?_
  simp only [impl_MessageFault.f, impl_MessageFault.j0, impl_isUid.f, impl_areFlags.f, impl_isDate.f, within_eq, Option.bind_some, decide_eq_true_eq, msgFault]
  by_cases h0 : 1 ≤ u ∧ u ≤ 999 <;> by_cases h1 : 0 ≤ fl ∧ fl ≤ 15 <;> by_cases h2 : 0 ≤ d ∧ d ≤ 9999 <;> by_cases h3 : 400 < x.length <;> simp [h0, h1, h2, h3] <;> first | done | omega
theorem FnExactMessageFault : ∀ (a0_0 : Int) (a0_1 : Int) (a0_2 : Int) (l0_3 : List Int), (Lit.int .i64 a0_0).wf = true → (Lit.int .i64 a0_1).wf = true → (Lit.int .i64 a0_2).wf = true → (l0_3.length * 1 ≤ 140737488351232 ∧ ∀ x1_ ∈ l0_3, (Lit.int .u8 x1_).wf = true) → ∃ k, laws_FnExactMessageFault.f k a0_0 a0_1 a0_2 l0_3 = some true := by
  rintro u fl d x _ _ _ ⟨hx, _⟩
  apply Ev.get
  unfold laws_FnExactMessageFault.f
  simp only [laws_szMessage.f]
  rw [szByteS_eq x 1048576 (by omega) (by omega) (by omega)]
  by_cases hbig : (1048576 : Int) - x.length < 0
  · rw [if_pos hbig]
    simp only [Option.bind_some]
    exact Ev.const (by simp)
  rw [if_neg hbig]
  simp only [Option.bind_some]
  rw [if_neg hbig]
  simp only [Option.bind_some]
  have hl : x.length ≤ 1048576 := by omega
  have ht : Ev (fun k => laws_toMessage.f k u fl d x) (u, fl, d, x) := by
    unfold laws_toMessage.f
    exact Ev.bind (ev_toByteS x hl) (Ev.now _)
  have hs : Ev (fun k => spec_MessageFault.f k u fl d x) (msgFault u fl d x.length) := Ev.bind (ev_l7Message ⟨u, fl, d, x⟩ []) (Ev.now _)
  refine Ev.neg (by omega) (Ev.bind ht (Ev.bind hs (Ev.bind ht (Ev.bind (ev_implMessageFault u fl d x) (Ev.pos rfl (Ev.bind ht ?_))))))
  refine Ev.bind (a := true) ?_ (Ev.pos rfl (Ev.now _))
  unfold laws_eqMessage.f
  refine Ev.pos rfl (Ev.pos rfl (Ev.pos rfl ?_))
  exact Ev.bind (ev_eqByteS x hl) (Ev.pos rfl (Ev.now _))

end Go.Proofs.Ytcliocbkoijblaa.Pure

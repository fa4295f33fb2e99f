/- Functions of the program as Lean functions, each with the proof that its call comes to what that function says (texts written by a program of this session). Conditions: those that stand in each theorem. -/
import Derived.Test.YtfbgfakdflifdaaPFnExactStoreFaultx0
import Derived.Test.YtfbgfakdflifdaaPFnExactStoreFaultx3
import Derived.Test.YtfbgfakdflifdaaPFnExactStoreFaultx4
namespace Go.Proofs.Ytfbgfakdflifdaa.PFnExactStoreFault
open Go.RowKit Go.Proofs.YtfbgfakdflifdaaW.PrintWords Go.Proofs.YtfbgfakdflifdaaW.PrintLast Go.Proofs.YtfbgfakdflifdaaW.PrintMore
attribute [local go_sem] max2_int min2_int max_two min_two max_three min_three max_four min_four   -- for this text's walks alone
set_option linter.unusedVariables false
set_option linter.unusedSimpArgs false

/-! ### spec_l7Fault: function 117 -/
mutual
def spec_l7Fault.l0 : Nat → List (S62) → Int → Option (Int)
  | 0, _, _ => none
  | k + 1, x0, x3 => if 0 < (x0.length : Int) then (if x3 < (((rd_T62 x0 0).f1).length : Int) then (if 0 ≤ x3 then ((spec_l7Box.f k (((rd_T62 x0 0).f1).drop (x3 : Int).toNat)).bind fun t210 => (if t210 = 0 then (if ((rd_T51 ((rd_T62 x0 0).f1) x3).f1) ≥ ((rd_T62 x0 0).f0) then (some 9) else (spec_l7Fault.l1 k x0 x3 0)) else (some t210))) else (none)) else (some 0)) else (none)
def spec_l7Fault.l1 : Nat → List (S62) → Int → Int → Option (Int)
  | 0, _, _, _ => none
  | k + 1, x0, x3, x5 => if x5 < x3 then (if 0 < (x0.length : Int) then (if 0 ≤ x5 then (if x5 < (((rd_T62 x0 0).f1).length : Int) then (if 0 ≤ x3 then (if x3 < (((rd_T62 x0 0).f1).length : Int) then (if ((rd_T51 ((rd_T62 x0 0).f1) x5).f0).toList = ((rd_T51 ((rd_T62 x0 0).f1) x3).f0).toList then (some 6) else (if ((rd_T51 ((rd_T62 x0 0).f1) x5).f1) = ((rd_T51 ((rd_T62 x0 0).f1) x3).f1) then (some 6) else (spec_l7Fault.l1 k x0 x3 (wrap64 (x5 + 1))))) else (none)) else (none)) else (none)) else (none)) else (none)) else (spec_l7Fault.l0 k x0 (wrap64 (x3 + 1)))
end
def spec_l7Fault.f (k : Nat) (l0 : List (S62)) : Option (Int) := if 0 < (l0.length : Int) then ((spec_l1In.f ((rd_T62 l0 0).f0) 1 1000).bind fun t204 => (if t204 = true then (if (((rd_T62 l0 0).f1).length : Int) > 3 then (some 2) else (spec_l7Fault.l0 k l0 0)) else (some 3))) else (none)
theorem spec_l7Fault.mono_l : ∀ k, (∀ y0 y1, LeO (spec_l7Fault.l0 k y0 y1) (spec_l7Fault.l0 (k + 1) y0 y1)) ∧ (∀ y0 y1 y2, LeO (spec_l7Fault.l1 k y0 y1 y2) (spec_l7Fault.l1 (k + 1) y0 y1 y2))
  | 0 => ⟨fun _ _ r h => by simp [spec_l7Fault.l0] at h, fun _ _ _ r h => by simp [spec_l7Fault.l1] at h⟩
  | k + 1 => by
    obtain ⟨ih0, ih1⟩ := spec_l7Fault.mono_l k
    refine ⟨?_, ?_⟩
    · intro y0 y1
      unfold spec_l7Fault.l0
      repeat' first
      | (with_reducible exact ih0 _ _)
      | (with_reducible exact ih1 _ _ _)
      | (with_reducible exact spec_l7Box.mono _ _)
      | (with_reducible exact LeO.refl _)
      | (with_reducible exact LeO.none _)
      | (with_reducible refine LeO.ite ?_ ?_)
      | (with_reducible refine LeO.bind ?_ (fun _ => ?_))
      | exact ih0 _ _
      | exact ih1 _ _ _
      | exact spec_l7Box.mono _ _
      | exact LeO.none _
      | refine LeO.ite ?_ ?_
      | refine LeO.bind ?_ (fun _ => ?_)
    · intro y0 y1 y2
      unfold spec_l7Fault.l1
      repeat' first
      | (with_reducible exact ih0 _ _)
      | (with_reducible exact ih1 _ _ _)
      | (with_reducible exact spec_l7Box.mono _ _)
      | (with_reducible exact LeO.refl _)
      | (with_reducible exact LeO.none _)
      | (with_reducible refine LeO.ite ?_ ?_)
      | (with_reducible refine LeO.bind ?_ (fun _ => ?_))
      | exact ih0 _ _
      | exact ih1 _ _ _
      | exact spec_l7Box.mono _ _
      | exact LeO.none _
      | refine LeO.ite ?_ ?_
      | refine LeO.bind ?_ (fun _ => ?_)
theorem spec_l7Fault.mono : ∀ a0 k, LeO (spec_l7Fault.f k a0) (spec_l7Fault.f (k + 1) a0) := by
  intro a0 k
  obtain ⟨ih0, ih1⟩ := spec_l7Fault.mono_l k
  unfold spec_l7Fault.f
  repeat' first
      | (with_reducible exact ih0 _ _)
      | (with_reducible exact ih1 _ _ _)
      | (with_reducible exact spec_l7Box.mono _ _)
      | (with_reducible exact LeO.refl _)
      | (with_reducible exact LeO.none _)
      | (with_reducible refine LeO.ite ?_ ?_)
      | (with_reducible refine LeO.bind ?_ (fun _ => ?_))
      | exact ih0 _ _
      | exact ih1 _ _ _
      | exact spec_l7Box.mono _ _
      | exact LeO.none _
      | refine LeO.ite ?_ ?_
      | refine LeO.bind ?_ (fun _ => ?_)
set_option maxHeartbeats 8000000 in
set_option maxRecDepth 100000 in
theorem spec_l7Fault.calls (k : Nat) (A0 : Option Addr) (c0 : Nat) (l0 : List (S62)) (r : Int) (w : World) (hr0 : Kd.C k62 w A0 l0.length l0) (hc0 : l0.length ≤ c0) (h : spec_l7Fault.f k l0 = some r) :
    Calls Try.prog 117 #[.pointer A0] w fun e w' => e = .returned (.int .i64 r) ∧ Drawn0 w w' := by
  have HR0 := Aside0.mk hr0
  have HC0 := Aside0.mk hc0
  clear hr0 hc0
  have H : (if 0 < (l0.length : Int) then ((spec_l1In.f ((rd_T62 l0 0).f0) 1 1000).bind fun t204 => (if t204 = true then (if (((rd_T62 l0 0).f1).length : Int) > 3 then (some 2) else (spec_l7Fault.l0 k l0 0)) else (some 3))) else (none)) = some r := h
  clear h
  by_cases c2 : 0 < (l0.length : Int)
  · rw [if_pos c2] at H
    have c2b0 : decide (0 < (l0.length : Int)) = true := decide_eq_true c2
    have c2b1 : decide (0 < l0.length) = true := decide_eq_true (by omega)
    clear c2
    replace H := Option.bind_eq_some_iff.mp H
    obtain ⟨t204, A30, H⟩ := H
    replace H : (if t204 = true then (if (((rd_T62 l0 0).f1).length : Int) > 3 then (some 2) else (spec_l7Fault.l0 k l0 0)) else (some 3)) = some r := H
    have A3 := Aside0.mk A30
    clear A30
    by_cases c4 : t204 = true
    · subst c4
      have H1 : (if (((rd_T62 l0 0).f1).length : Int) > 3 then (some 2) else (spec_l7Fault.l0 k l0 0)) = some r := by rw [if_pos rfl] at H; exact H
      clear H
      have H := H1
      clear H1
      by_cases c5 : (((rd_T62 l0 0).f1).length : Int) > 3
      · rw [if_pos c5] at H
        have c5b0 : decide (3 < (((rd_T62 l0 0).f1).length : Int)) = true := decide_eq_true c5
        have c5b1 : decide (3 < ((rd_T62 l0 0).f1).length) = true := decide_eq_true (by omega)
        clear c5
        obtain rfl := Option.some.inj H
        have p203 : 0 ≤ (0 : Int) := (by omega)
        have q203 : 0 < (l0.length : Int) := of_decide_eq_true (by first | (with_reducible assumption) | assumption)
        obtain ⟨ad203, A203_1, c203_1, e203, hx203_0, hx203_1, hl203_1, hi203_1⟩ := at_T62 HR0.out 0 p203 q203
        cases e203
        have qi203 : (0 < l0.length) = True := eq_true (by omega)
        (try rw [show ((0 : Int)).toNat = 0 from rfl] at hx203_0)
        (try rw [show 0 * 2 = 0 from rfl] at hx203_0)
        (try rw [Addr.add_zero'] at hx203_0)
        (try rw [show ((0 : Int)).toNat = 0 from rfl] at hx203_1)
        (try rw [show 0 * 2 = 0 from rfl] at hx203_1)
        (try rw [Addr.add_zero'] at hx203_1)
        have HR203_1 := Aside0.mk hi203_1
        have HC203_1 := Aside0.mk hl203_1
        clear hi203_1 hl203_1
        replace p203 := eq_true p203
        replace q203 := eq_true q203
        go_enter Try.func117, Try.ntmps117
        go_wp2_with (first | (go_at_call 141; (with_reducible refine (spec_l1In.calls ((rd_T62 l0 0).f0) 1 1000 true _ A3.out).mono ?_); rintro e w' ⟨rfl, ⟨nd, rfl⟩⟩; (try first | exact ⟨rfl, _, World.drewN_drewN _ _ _⟩ | exact ⟨rfl, _, Eq.trans (World.drewN_drewN _ _ _) (congrArg (World.drewN _) (Nat.add_assoc _ _ _))⟩); have p205 : 0 ≤ (0 : Int) := (by omega); have q205 : 0 < (l0.length : Int) := of_decide_eq_true (by first | (with_reducible assumption) | assumption); obtain ⟨ad205, A205_1, c205_1, e205, hx205_0, hx205_1, hl205_1, hi205_1⟩ := at_T62 HR0.out 0 p205 q205; obtain rfl : ad203 = ad205 := (by injection e205); have qi205 : (0 < l0.length) = True := eq_true (by omega); (try rw [show ((0 : Int)).toNat = 0 from rfl] at hx205_0); (try rw [show 0 * 2 = 0 from rfl] at hx205_0); (try rw [Addr.add_zero'] at hx205_0); (try rw [show ((0 : Int)).toNat = 0 from rfl] at hx205_1); (try rw [show 0 * 2 = 0 from rfl] at hx205_1); (try rw [Addr.add_zero'] at hx205_1); have HR205_1 := Aside0.mk hi205_1; have HC205_1 := Aside0.mk hl205_1; clear hi205_1 hl205_1; replace p205 := eq_true p205; replace q205 := eq_true q205; have ea_ := Option.some.inj (hx203_1.symm.trans hx205_1); injection ea_ with ea_ en_ ec_; subst ea_; subst ec_; clear en_))
        repeat (go_quiet (first | (go_at_call 141; (with_reducible refine (spec_l1In.calls ((rd_T62 l0 0).f0) 1 1000 true _ A3.out).mono ?_); rintro e w' ⟨rfl, ⟨nd, rfl⟩⟩; (try first | exact ⟨rfl, _, World.drewN_drewN _ _ _⟩ | exact ⟨rfl, _, Eq.trans (World.drewN_drewN _ _ _) (congrArg (World.drewN _) (Nat.add_assoc _ _ _))⟩); have p205 : 0 ≤ (0 : Int) := (by omega); have q205 : 0 < (l0.length : Int) := of_decide_eq_true (by first | (with_reducible assumption) | assumption); obtain ⟨ad205, A205_1, c205_1, e205, hx205_0, hx205_1, hl205_1, hi205_1⟩ := at_T62 HR0.out 0 p205 q205; obtain rfl : ad203 = ad205 := (by injection e205); have qi205 : (0 < l0.length) = True := eq_true (by omega); (try rw [show ((0 : Int)).toNat = 0 from rfl] at hx205_0); (try rw [show 0 * 2 = 0 from rfl] at hx205_0); (try rw [Addr.add_zero'] at hx205_0); (try rw [show ((0 : Int)).toNat = 0 from rfl] at hx205_1); (try rw [show 0 * 2 = 0 from rfl] at hx205_1); (try rw [Addr.add_zero'] at hx205_1); have HR205_1 := Aside0.mk hi205_1; have HC205_1 := Aside0.mk hl205_1; clear hi205_1 hl205_1; replace p205 := eq_true p205; replace q205 := eq_true q205; have ea_ := Option.some.inj (hx203_1.symm.trans hx205_1); injection ea_ with ea_ en_ ec_; subst ea_; subst ec_; clear en_)); try go_wp2_with (first | (go_at_call 141; (with_reducible refine (spec_l1In.calls ((rd_T62 l0 0).f0) 1 1000 true _ A3.out).mono ?_); rintro e w' ⟨rfl, ⟨nd, rfl⟩⟩; (try first | exact ⟨rfl, _, World.drewN_drewN _ _ _⟩ | exact ⟨rfl, _, Eq.trans (World.drewN_drewN _ _ _) (congrArg (World.drewN _) (Nat.add_assoc _ _ _))⟩); have p205 : 0 ≤ (0 : Int) := (by omega); have q205 : 0 < (l0.length : Int) := of_decide_eq_true (by first | (with_reducible assumption) | assumption); obtain ⟨ad205, A205_1, c205_1, e205, hx205_0, hx205_1, hl205_1, hi205_1⟩ := at_T62 HR0.out 0 p205 q205; obtain rfl : ad203 = ad205 := (by injection e205); have qi205 : (0 < l0.length) = True := eq_true (by omega); (try rw [show ((0 : Int)).toNat = 0 from rfl] at hx205_0); (try rw [show 0 * 2 = 0 from rfl] at hx205_0); (try rw [Addr.add_zero'] at hx205_0); (try rw [show ((0 : Int)).toNat = 0 from rfl] at hx205_1); (try rw [show 0 * 2 = 0 from rfl] at hx205_1); (try rw [Addr.add_zero'] at hx205_1); have HR205_1 := Aside0.mk hi205_1; have HC205_1 := Aside0.mk hl205_1; clear hi205_1 hl205_1; replace p205 := eq_true p205; replace q205 := eq_true q205; have ea_ := Option.some.inj (hx203_1.symm.trans hx205_1); injection ea_ with ea_ en_ ec_; subst ea_; subst ec_; clear en_)))
        go_ret
        exact ⟨by first | rfl | (simp; done) | (simp [*]; done), by repeat (first | exact Drawn0.refl _ | apply Drawn0.step)⟩
      · rw [if_neg c5] at H
        have c5b0 : decide (3 < (((rd_T62 l0 0).f1).length : Int)) = false := decide_eq_false c5
        have c5b1 : decide (3 < ((rd_T62 l0 0).f1).length) = false := decide_eq_false (by omega)
        clear c5
        have H' := Aside0.mk H
        clear H
        have p203 : 0 ≤ (0 : Int) := (by omega)
        have q203 : 0 < (l0.length : Int) := of_decide_eq_true (by first | (with_reducible assumption) | assumption)
        obtain ⟨ad203, A203_1, c203_1, e203, hx203_0, hx203_1, hl203_1, hi203_1⟩ := at_T62 HR0.out 0 p203 q203
        cases e203
        have qi203 : (0 < l0.length) = True := eq_true (by omega)
        (try rw [show ((0 : Int)).toNat = 0 from rfl] at hx203_0)
        (try rw [show 0 * 2 = 0 from rfl] at hx203_0)
        (try rw [Addr.add_zero'] at hx203_0)
        (try rw [show ((0 : Int)).toNat = 0 from rfl] at hx203_1)
        (try rw [show 0 * 2 = 0 from rfl] at hx203_1)
        (try rw [Addr.add_zero'] at hx203_1)
        have HR203_1 := Aside0.mk hi203_1
        have HC203_1 := Aside0.mk hl203_1
        clear hi203_1 hl203_1
        replace p203 := eq_true p203
        replace q203 := eq_true q203
        go_enter Try.func117, Try.ntmps117
        go_wp2_with (first | (go_at_call 141; (with_reducible refine (spec_l1In.calls ((rd_T62 l0 0).f0) 1 1000 true _ A3.out).mono ?_); rintro e w' ⟨rfl, ⟨nd, rfl⟩⟩; (try first | exact ⟨rfl, _, World.drewN_drewN _ _ _⟩ | exact ⟨rfl, _, Eq.trans (World.drewN_drewN _ _ _) (congrArg (World.drewN _) (Nat.add_assoc _ _ _))⟩); have p205 : 0 ≤ (0 : Int) := (by omega); have q205 : 0 < (l0.length : Int) := of_decide_eq_true (by first | (with_reducible assumption) | assumption); obtain ⟨ad205, A205_1, c205_1, e205, hx205_0, hx205_1, hl205_1, hi205_1⟩ := at_T62 HR0.out 0 p205 q205; obtain rfl : ad203 = ad205 := (by injection e205); have qi205 : (0 < l0.length) = True := eq_true (by omega); (try rw [show ((0 : Int)).toNat = 0 from rfl] at hx205_0); (try rw [show 0 * 2 = 0 from rfl] at hx205_0); (try rw [Addr.add_zero'] at hx205_0); (try rw [show ((0 : Int)).toNat = 0 from rfl] at hx205_1); (try rw [show 0 * 2 = 0 from rfl] at hx205_1); (try rw [Addr.add_zero'] at hx205_1); have HR205_1 := Aside0.mk hi205_1; have HC205_1 := Aside0.mk hl205_1; clear hi205_1 hl205_1; replace p205 := eq_true p205; replace q205 := eq_true q205; have ea_ := Option.some.inj (hx203_1.symm.trans hx205_1); injection ea_ with ea_ en_ ec_; subst ea_; subst ec_; clear en_))
        repeat (go_quiet (first | (go_at_call 141; (with_reducible refine (spec_l1In.calls ((rd_T62 l0 0).f0) 1 1000 true _ A3.out).mono ?_); rintro e w' ⟨rfl, ⟨nd, rfl⟩⟩; (try first | exact ⟨rfl, _, World.drewN_drewN _ _ _⟩ | exact ⟨rfl, _, Eq.trans (World.drewN_drewN _ _ _) (congrArg (World.drewN _) (Nat.add_assoc _ _ _))⟩); have p205 : 0 ≤ (0 : Int) := (by omega); have q205 : 0 < (l0.length : Int) := of_decide_eq_true (by first | (with_reducible assumption) | assumption); obtain ⟨ad205, A205_1, c205_1, e205, hx205_0, hx205_1, hl205_1, hi205_1⟩ := at_T62 HR0.out 0 p205 q205; obtain rfl : ad203 = ad205 := (by injection e205); have qi205 : (0 < l0.length) = True := eq_true (by omega); (try rw [show ((0 : Int)).toNat = 0 from rfl] at hx205_0); (try rw [show 0 * 2 = 0 from rfl] at hx205_0); (try rw [Addr.add_zero'] at hx205_0); (try rw [show ((0 : Int)).toNat = 0 from rfl] at hx205_1); (try rw [show 0 * 2 = 0 from rfl] at hx205_1); (try rw [Addr.add_zero'] at hx205_1); have HR205_1 := Aside0.mk hi205_1; have HC205_1 := Aside0.mk hl205_1; clear hi205_1 hl205_1; replace p205 := eq_true p205; replace q205 := eq_true q205; have ea_ := Option.some.inj (hx203_1.symm.trans hx205_1); injection ea_ with ea_ en_ ec_; subst ea_; subst ec_; clear en_)); try go_wp2_with (first | (go_at_call 141; (with_reducible refine (spec_l1In.calls ((rd_T62 l0 0).f0) 1 1000 true _ A3.out).mono ?_); rintro e w' ⟨rfl, ⟨nd, rfl⟩⟩; (try first | exact ⟨rfl, _, World.drewN_drewN _ _ _⟩ | exact ⟨rfl, _, Eq.trans (World.drewN_drewN _ _ _) (congrArg (World.drewN _) (Nat.add_assoc _ _ _))⟩); have p205 : 0 ≤ (0 : Int) := (by omega); have q205 : 0 < (l0.length : Int) := of_decide_eq_true (by first | (with_reducible assumption) | assumption); obtain ⟨ad205, A205_1, c205_1, e205, hx205_0, hx205_1, hl205_1, hi205_1⟩ := at_T62 HR0.out 0 p205 q205; obtain rfl : ad203 = ad205 := (by injection e205); have qi205 : (0 < l0.length) = True := eq_true (by omega); (try rw [show ((0 : Int)).toNat = 0 from rfl] at hx205_0); (try rw [show 0 * 2 = 0 from rfl] at hx205_0); (try rw [Addr.add_zero'] at hx205_0); (try rw [show ((0 : Int)).toNat = 0 from rfl] at hx205_1); (try rw [show 0 * 2 = 0 from rfl] at hx205_1); (try rw [Addr.add_zero'] at hx205_1); have HR205_1 := Aside0.mk hi205_1; have HC205_1 := Aside0.mk hl205_1; clear hi205_1 hl205_1; replace p205 := eq_true p205; replace q205 := eq_true q205; have ea_ := Option.some.inj (hx203_1.symm.trans hx205_1); injection ea_ with ea_ en_ ec_; subst ea_; subst ec_; clear en_)))
        go_loopg [3] k (fun kq v3 w' => ∃ (x3_1 : Int), v3 = .int .i64 x3_1 ∧ Aside0 (spec_l7Fault.l0 kq l0 x3_1 = some r) ∧ Aside0 (kq ≤ k) ∧ Drawn0 w w')
        case atStart => exact ⟨(0), (by first | rfl | (simp; done) | (simp [*]; done)), H', ⟨Nat.le_refl _⟩, by repeat (first | exact Drawn0.refl _ | apply Drawn0.step)⟩
        case round =>
          clear H'
          try clear c1
          try clear c2
          try clear c2b0
          try clear c2b1
          try clear p2
          try clear q2
          try clear hx2
          try clear qi2
          try clear c4
          try clear c5
          try clear c5b0
          try clear c5b1
          try clear hx203_0
          try clear hx203_1
          try clear hx205_0
          try clear hx205_1
          try clear p203
          try clear p205
          try clear q203
          try clear q205
          obtain ⟨x3_1, rfl, HA, HK1, ⟨m1, rfl⟩⟩ := hrel
          cases gk with
          | zero => exact absurd HA.out (by simp [spec_l7Fault.l0])
          | succ k1 =>
            have H := HA.out
            clear HA
            simp only [spec_l7Fault.l0] at H
            by_cases c6 : 0 < (l0.length : Int)
            · rw [if_pos c6] at H
              have c6b0 : decide (0 < (l0.length : Int)) = true := decide_eq_true c6
              have c6b1 : decide (0 < l0.length) = true := decide_eq_true (by omega)
              clear c6
              by_cases c7 : x3_1 < (((rd_T62 l0 0).f1).length : Int)
              · rw [if_pos c7] at H
                have c7b0 : decide (x3_1 < (((rd_T62 l0 0).f1).length : Int)) = true := decide_eq_true c7
                clear c7
                by_cases c8 : 0 ≤ x3_1
                · rw [if_pos c8] at H
                  have c8b0 : decide (0 ≤ x3_1) = true := decide_eq_true c8
                  clear c8
                  replace H := Option.bind_eq_some_iff.mp H
                  obtain ⟨t210, A90, H⟩ := H
                  replace H : (if t210 = 0 then (if ((rd_T51 ((rd_T62 l0 0).f1) x3_1).f1) ≥ ((rd_T62 l0 0).f0) then (some 9) else (spec_l7Fault.l1 k1 l0 x3_1 0)) else (some t210)) = some r := H
                  have A9 := Aside0.mk A90
                  clear A90
                  by_cases c10 : t210 = 0
                  · rw [if_pos c10] at H
                    have c10b0 : (t210 == 0) = true := beq_iff_eq.mpr c10
                    have c10b1 : (t210 != 0) = false := bne_eq_false_iff_eq.mpr c10
                    clear c10
                    by_cases c11 : ((rd_T51 ((rd_T62 l0 0).f1) x3_1).f1) ≥ ((rd_T62 l0 0).f0)
                    · rw [if_pos c11] at H
                      have c11b0 : decide (((rd_T62 l0 0).f0) ≤ ((rd_T51 ((rd_T62 l0 0).f1) x3_1).f1)) = true := decide_eq_true c11
                      clear c11
                      obtain rfl := Option.some.inj H
                      have p206 : 0 ≤ (0 : Int) := (by omega)
                      have q206 : 0 < (l0.length : Int) := of_decide_eq_true (by first | (with_reducible assumption) | assumption)
                      obtain ⟨ad206, A206_1, c206_1, e206, hx206_0, hx206_1, hl206_1, hi206_1⟩ := at_T62 HR0.out 0 p206 q206
                      obtain rfl : ad203 = ad206 := (by injection e206)
                      have qi206 : (0 < l0.length) = True := eq_true (by omega)
                      (try rw [show ((0 : Int)).toNat = 0 from rfl] at hx206_0)
                      (try rw [show 0 * 2 = 0 from rfl] at hx206_0)
                      (try rw [Addr.add_zero'] at hx206_0)
                      (try rw [show ((0 : Int)).toNat = 0 from rfl] at hx206_1)
                      (try rw [show 0 * 2 = 0 from rfl] at hx206_1)
                      (try rw [Addr.add_zero'] at hx206_1)
                      have HR206_1 := Aside0.mk hi206_1
                      have HC206_1 := Aside0.mk hl206_1
                      clear hi206_1 hl206_1
                      replace p206 := eq_true p206
                      replace q206 := eq_true q206
                      have p207 : 0 ≤ (0 : Int) := (by omega)
                      have q207 : 0 < (l0.length : Int) := of_decide_eq_true (by first | (with_reducible assumption) | assumption)
                      obtain ⟨ad207, A207_1, c207_1, e207, hx207_0, hx207_1, hl207_1, hi207_1⟩ := at_T62 HR0.out 0 p207 q207
                      obtain rfl : ad203 = ad207 := (by injection e207)
                      have qi207 : (0 < l0.length) = True := eq_true (by omega)
                      (try rw [show ((0 : Int)).toNat = 0 from rfl] at hx207_0)
                      (try rw [show 0 * 2 = 0 from rfl] at hx207_0)
                      (try rw [Addr.add_zero'] at hx207_0)
                      (try rw [show ((0 : Int)).toNat = 0 from rfl] at hx207_1)
                      (try rw [show 0 * 2 = 0 from rfl] at hx207_1)
                      (try rw [Addr.add_zero'] at hx207_1)
                      have HR207_1 := Aside0.mk hi207_1
                      have HC207_1 := Aside0.mk hl207_1
                      clear hi207_1 hl207_1
                      replace p207 := eq_true p207
                      replace q207 := eq_true q207
                      have ea_ := Option.some.inj (hx206_1.symm.trans hx207_1)
                      injection ea_ with ea_ en_ ec_
                      subst ea_
                      subst ec_
                      clear en_
                      have p208 : 0 ≤ (x3_1 : Int) := of_decide_eq_true (by first | (with_reducible assumption) | assumption)
                      have q208 : x3_1 < (((rd_T62 l0 0).f1).length : Int) := of_decide_eq_true (by first | (with_reducible assumption) | assumption)
                      obtain ⟨ad208, A208_3, c208_3, e208, hx208_0, hx208_1, hx208_2, hx208_3, hl208_3, hi208_3⟩ := at_T51 HR207_1.out x3_1 p208 q208
                      cases e208
                      have HR208_3 := Aside0.mk hi208_3
                      have HC208_3 := Aside0.mk hl208_3
                      clear hi208_3 hl208_3
                      replace p208 := eq_true p208
                      replace q208 := eq_true q208
                      have HRa209 := Aside0.mk (Kd.C_elem HR207_1.out (x3_1 : Int) (of_decide_eq_true (by first | (with_reducible assumption) | assumption)) (of_decide_eq_true (by first | (with_reducible assumption) | assumption)))
                      go_wp2_with (first | (go_at_call 93; (with_reducible refine (spec_l7Box.calls k1 _ (((rd_T62 l0 0).f1).drop (x3_1 : Int).toNat).length (((rd_T62 l0 0).f1).drop (x3_1 : Int).toNat) t210 _ ?side1 ?side2 A9.out).mono ?_); (case side1 => repeat (first | exact HRa209.out | (with_reducible refine Kd.C_alloc ?_ _) | (with_reducible refine Kd.C_drewN ?_ _) | (with_reducible refine Kd.C_drew ?_))); (case side2 => exact Nat.le_refl _); rintro e w' ⟨rfl, ⟨nd, rfl⟩⟩; (try first | exact ⟨rfl, _, World.drewN_drewN _ _ _⟩ | exact ⟨rfl, _, Eq.trans (World.drewN_drewN _ _ _) (congrArg (World.drewN _) (Nat.add_assoc _ _ _))⟩); have p211 : 0 ≤ (0 : Int) := (by omega); have q211 : 0 < (l0.length : Int) := of_decide_eq_true (by first | (with_reducible assumption) | assumption); obtain ⟨ad211, A211_1, c211_1, e211, hx211_0, hx211_1, hl211_1, hi211_1⟩ := at_T62 HR0.out 0 p211 q211; obtain rfl : ad203 = ad211 := (by injection e211); have qi211 : (0 < l0.length) = True := eq_true (by omega); (try rw [show ((0 : Int)).toNat = 0 from rfl] at hx211_0); (try rw [show 0 * 2 = 0 from rfl] at hx211_0); (try rw [Addr.add_zero'] at hx211_0); (try rw [show ((0 : Int)).toNat = 0 from rfl] at hx211_1); (try rw [show 0 * 2 = 0 from rfl] at hx211_1); (try rw [Addr.add_zero'] at hx211_1); have HR211_1 := Aside0.mk hi211_1; have HC211_1 := Aside0.mk hl211_1; clear hi211_1 hl211_1; replace p211 := eq_true p211; replace q211 := eq_true q211; have ea_ := Option.some.inj (hx206_1.symm.trans hx211_1); injection ea_ with ea_ en_ ec_; subst ea_; subst ec_; clear en_; have p212 : 0 ≤ (x3_1 : Int) := of_decide_eq_true (by first | (with_reducible assumption) | assumption); have q212 : x3_1 < (((rd_T62 l0 0).f1).length : Int) := of_decide_eq_true (by first | (with_reducible assumption) | assumption); obtain ⟨ad212, A212_3, c212_3, e212, hx212_0, hx212_1, hx212_2, hx212_3, hl212_3, hi212_3⟩ := at_T51 HR211_1.out x3_1 p212 q212; cases e212; have HR212_3 := Aside0.mk hi212_3; have HC212_3 := Aside0.mk hl212_3; clear hi212_3 hl212_3; replace p212 := eq_true p212; replace q212 := eq_true q212; have p213 : 0 ≤ (0 : Int) := (by omega); have q213 : 0 < (l0.length : Int) := of_decide_eq_true (by first | (with_reducible assumption) | assumption); obtain ⟨ad213, A213_1, c213_1, e213, hx213_0, hx213_1, hl213_1, hi213_1⟩ := at_T62 HR0.out 0 p213 q213; obtain rfl : ad203 = ad213 := (by injection e213); have qi213 : (0 < l0.length) = True := eq_true (by omega); (try rw [show ((0 : Int)).toNat = 0 from rfl] at hx213_0); (try rw [show 0 * 2 = 0 from rfl] at hx213_0); (try rw [Addr.add_zero'] at hx213_0); (try rw [show ((0 : Int)).toNat = 0 from rfl] at hx213_1); (try rw [show 0 * 2 = 0 from rfl] at hx213_1); (try rw [Addr.add_zero'] at hx213_1); have HR213_1 := Aside0.mk hi213_1; have HC213_1 := Aside0.mk hl213_1; clear hi213_1 hl213_1; replace p213 := eq_true p213; replace q213 := eq_true q213; have ea_ := Option.some.inj (hx206_1.symm.trans hx213_1); injection ea_ with ea_ en_ ec_; subst ea_; subst ec_; clear en_))
                      repeat (go_quiet (first | (go_at_call 93; (with_reducible refine (spec_l7Box.calls k1 _ (((rd_T62 l0 0).f1).drop (x3_1 : Int).toNat).length (((rd_T62 l0 0).f1).drop (x3_1 : Int).toNat) t210 _ ?side1 ?side2 A9.out).mono ?_); (case side1 => repeat (first | exact HRa209.out | (with_reducible refine Kd.C_alloc ?_ _) | (with_reducible refine Kd.C_drewN ?_ _) | (with_reducible refine Kd.C_drew ?_))); (case side2 => exact Nat.le_refl _); rintro e w' ⟨rfl, ⟨nd, rfl⟩⟩; (try first | exact ⟨rfl, _, World.drewN_drewN _ _ _⟩ | exact ⟨rfl, _, Eq.trans (World.drewN_drewN _ _ _) (congrArg (World.drewN _) (Nat.add_assoc _ _ _))⟩); have p211 : 0 ≤ (0 : Int) := (by omega); have q211 : 0 < (l0.length : Int) := of_decide_eq_true (by first | (with_reducible assumption) | assumption); obtain ⟨ad211, A211_1, c211_1, e211, hx211_0, hx211_1, hl211_1, hi211_1⟩ := at_T62 HR0.out 0 p211 q211; obtain rfl : ad203 = ad211 := (by injection e211); have qi211 : (0 < l0.length) = True := eq_true (by omega); (try rw [show ((0 : Int)).toNat = 0 from rfl] at hx211_0); (try rw [show 0 * 2 = 0 from rfl] at hx211_0); (try rw [Addr.add_zero'] at hx211_0); (try rw [show ((0 : Int)).toNat = 0 from rfl] at hx211_1); (try rw [show 0 * 2 = 0 from rfl] at hx211_1); (try rw [Addr.add_zero'] at hx211_1); have HR211_1 := Aside0.mk hi211_1; have HC211_1 := Aside0.mk hl211_1; clear hi211_1 hl211_1; replace p211 := eq_true p211; replace q211 := eq_true q211; have ea_ := Option.some.inj (hx206_1.symm.trans hx211_1); injection ea_ with ea_ en_ ec_; subst ea_; subst ec_; clear en_; have p212 : 0 ≤ (x3_1 : Int) := of_decide_eq_true (by first | (with_reducible assumption) | assumption); have q212 : x3_1 < (((rd_T62 l0 0).f1).length : Int) := of_decide_eq_true (by first | (with_reducible assumption) | assumption); obtain ⟨ad212, A212_3, c212_3, e212, hx212_0, hx212_1, hx212_2, hx212_3, hl212_3, hi212_3⟩ := at_T51 HR211_1.out x3_1 p212 q212; cases e212; have HR212_3 := Aside0.mk hi212_3; have HC212_3 := Aside0.mk hl212_3; clear hi212_3 hl212_3; replace p212 := eq_true p212; replace q212 := eq_true q212; have p213 : 0 ≤ (0 : Int) := (by omega); have q213 : 0 < (l0.length : Int) := of_decide_eq_true (by first | (with_reducible assumption) | assumption); obtain ⟨ad213, A213_1, c213_1, e213, hx213_0, hx213_1, hl213_1, hi213_1⟩ := at_T62 HR0.out 0 p213 q213; obtain rfl : ad203 = ad213 := (by injection e213); have qi213 : (0 < l0.length) = True := eq_true (by omega); (try rw [show ((0 : Int)).toNat = 0 from rfl] at hx213_0); (try rw [show 0 * 2 = 0 from rfl] at hx213_0); (try rw [Addr.add_zero'] at hx213_0); (try rw [show ((0 : Int)).toNat = 0 from rfl] at hx213_1); (try rw [show 0 * 2 = 0 from rfl] at hx213_1); (try rw [Addr.add_zero'] at hx213_1); have HR213_1 := Aside0.mk hi213_1; have HC213_1 := Aside0.mk hl213_1; clear hi213_1 hl213_1; replace p213 := eq_true p213; replace q213 := eq_true q213; have ea_ := Option.some.inj (hx206_1.symm.trans hx213_1); injection ea_ with ea_ en_ ec_; subst ea_; subst ec_; clear en_)); try go_wp2_with (first | (go_at_call 93; (with_reducible refine (spec_l7Box.calls k1 _ (((rd_T62 l0 0).f1).drop (x3_1 : Int).toNat).length (((rd_T62 l0 0).f1).drop (x3_1 : Int).toNat) t210 _ ?side1 ?side2 A9.out).mono ?_); (case side1 => repeat (first | exact HRa209.out | (with_reducible refine Kd.C_alloc ?_ _) | (with_reducible refine Kd.C_drewN ?_ _) | (with_reducible refine Kd.C_drew ?_))); (case side2 => exact Nat.le_refl _); rintro e w' ⟨rfl, ⟨nd, rfl⟩⟩; (try first | exact ⟨rfl, _, World.drewN_drewN _ _ _⟩ | exact ⟨rfl, _, Eq.trans (World.drewN_drewN _ _ _) (congrArg (World.drewN _) (Nat.add_assoc _ _ _))⟩); have p211 : 0 ≤ (0 : Int) := (by omega); have q211 : 0 < (l0.length : Int) := of_decide_eq_true (by first | (with_reducible assumption) | assumption); obtain ⟨ad211, A211_1, c211_1, e211, hx211_0, hx211_1, hl211_1, hi211_1⟩ := at_T62 HR0.out 0 p211 q211; obtain rfl : ad203 = ad211 := (by injection e211); have qi211 : (0 < l0.length) = True := eq_true (by omega); (try rw [show ((0 : Int)).toNat = 0 from rfl] at hx211_0); (try rw [show 0 * 2 = 0 from rfl] at hx211_0); (try rw [Addr.add_zero'] at hx211_0); (try rw [show ((0 : Int)).toNat = 0 from rfl] at hx211_1); (try rw [show 0 * 2 = 0 from rfl] at hx211_1); (try rw [Addr.add_zero'] at hx211_1); have HR211_1 := Aside0.mk hi211_1; have HC211_1 := Aside0.mk hl211_1; clear hi211_1 hl211_1; replace p211 := eq_true p211; replace q211 := eq_true q211; have ea_ := Option.some.inj (hx206_1.symm.trans hx211_1); injection ea_ with ea_ en_ ec_; subst ea_; subst ec_; clear en_; have p212 : 0 ≤ (x3_1 : Int) := of_decide_eq_true (by first | (with_reducible assumption) | assumption); have q212 : x3_1 < (((rd_T62 l0 0).f1).length : Int) := of_decide_eq_true (by first | (with_reducible assumption) | assumption); obtain ⟨ad212, A212_3, c212_3, e212, hx212_0, hx212_1, hx212_2, hx212_3, hl212_3, hi212_3⟩ := at_T51 HR211_1.out x3_1 p212 q212; cases e212; have HR212_3 := Aside0.mk hi212_3; have HC212_3 := Aside0.mk hl212_3; clear hi212_3 hl212_3; replace p212 := eq_true p212; replace q212 := eq_true q212; have p213 : 0 ≤ (0 : Int) := (by omega); have q213 : 0 < (l0.length : Int) := of_decide_eq_true (by first | (with_reducible assumption) | assumption); obtain ⟨ad213, A213_1, c213_1, e213, hx213_0, hx213_1, hl213_1, hi213_1⟩ := at_T62 HR0.out 0 p213 q213; obtain rfl : ad203 = ad213 := (by injection e213); have qi213 : (0 < l0.length) = True := eq_true (by omega); (try rw [show ((0 : Int)).toNat = 0 from rfl] at hx213_0); (try rw [show 0 * 2 = 0 from rfl] at hx213_0); (try rw [Addr.add_zero'] at hx213_0); (try rw [show ((0 : Int)).toNat = 0 from rfl] at hx213_1); (try rw [show 0 * 2 = 0 from rfl] at hx213_1); (try rw [Addr.add_zero'] at hx213_1); have HR213_1 := Aside0.mk hi213_1; have HC213_1 := Aside0.mk hl213_1; clear hi213_1 hl213_1; replace p213 := eq_true p213; replace q213 := eq_true q213; have ea_ := Option.some.inj (hx206_1.symm.trans hx213_1); injection ea_ with ea_ en_ ec_; subst ea_; subst ec_; clear en_)))
                      go_ret
                      exact ⟨by first | rfl | (simp; done) | (simp [*]; done), by repeat (first | exact Drawn0.refl _ | apply Drawn0.step)⟩
                    · rw [if_neg c11] at H
                      have c11b0 : decide (((rd_T62 l0 0).f0) ≤ ((rd_T51 ((rd_T62 l0 0).f1) x3_1).f1)) = false := decide_eq_false c11
                      clear c11
                      have H' := Aside0.mk H
                      clear H
                      have p206 : 0 ≤ (0 : Int) := (by omega)
                      have q206 : 0 < (l0.length : Int) := of_decide_eq_true (by first | (with_reducible assumption) | assumption)
                      obtain ⟨ad206, A206_1, c206_1, e206, hx206_0, hx206_1, hl206_1, hi206_1⟩ := at_T62 HR0.out 0 p206 q206
                      obtain rfl : ad203 = ad206 := (by injection e206)
                      have qi206 : (0 < l0.length) = True := eq_true (by omega)
                      (try rw [show ((0 : Int)).toNat = 0 from rfl] at hx206_0)
                      (try rw [show 0 * 2 = 0 from rfl] at hx206_0)
                      (try rw [Addr.add_zero'] at hx206_0)
                      (try rw [show ((0 : Int)).toNat = 0 from rfl] at hx206_1)
                      (try rw [show 0 * 2 = 0 from rfl] at hx206_1)
                      (try rw [Addr.add_zero'] at hx206_1)
                      have HR206_1 := Aside0.mk hi206_1
                      have HC206_1 := Aside0.mk hl206_1
                      clear hi206_1 hl206_1
                      replace p206 := eq_true p206
                      replace q206 := eq_true q206
                      have p207 : 0 ≤ (0 : Int) := (by omega)
                      have q207 : 0 < (l0.length : Int) := of_decide_eq_true (by first | (with_reducible assumption) | assumption)
                      obtain ⟨ad207, A207_1, c207_1, e207, hx207_0, hx207_1, hl207_1, hi207_1⟩ := at_T62 HR0.out 0 p207 q207
                      obtain rfl : ad203 = ad207 := (by injection e207)
                      have qi207 : (0 < l0.length) = True := eq_true (by omega)
                      (try rw [show ((0 : Int)).toNat = 0 from rfl] at hx207_0)
                      (try rw [show 0 * 2 = 0 from rfl] at hx207_0)
                      (try rw [Addr.add_zero'] at hx207_0)
                      (try rw [show ((0 : Int)).toNat = 0 from rfl] at hx207_1)
                      (try rw [show 0 * 2 = 0 from rfl] at hx207_1)
                      (try rw [Addr.add_zero'] at hx207_1)
                      have HR207_1 := Aside0.mk hi207_1
                      have HC207_1 := Aside0.mk hl207_1
                      clear hi207_1 hl207_1
                      replace p207 := eq_true p207
                      replace q207 := eq_true q207
                      have ea_ := Option.some.inj (hx206_1.symm.trans hx207_1)
                      injection ea_ with ea_ en_ ec_
                      subst ea_
                      subst ec_
                      clear en_
                      have p208 : 0 ≤ (x3_1 : Int) := of_decide_eq_true (by first | (with_reducible assumption) | assumption)
                      have q208 : x3_1 < (((rd_T62 l0 0).f1).length : Int) := of_decide_eq_true (by first | (with_reducible assumption) | assumption)
                      obtain ⟨ad208, A208_3, c208_3, e208, hx208_0, hx208_1, hx208_2, hx208_3, hl208_3, hi208_3⟩ := at_T51 HR207_1.out x3_1 p208 q208
                      cases e208
                      have HR208_3 := Aside0.mk hi208_3
                      have HC208_3 := Aside0.mk hl208_3
                      clear hi208_3 hl208_3
                      replace p208 := eq_true p208
                      replace q208 := eq_true q208
                      have HRa209 := Aside0.mk (Kd.C_elem HR207_1.out (x3_1 : Int) (of_decide_eq_true (by first | (with_reducible assumption) | assumption)) (of_decide_eq_true (by first | (with_reducible assumption) | assumption)))
                      go_wp2_with (first | (go_at_call 93; (with_reducible refine (spec_l7Box.calls k1 _ (((rd_T62 l0 0).f1).drop (x3_1 : Int).toNat).length (((rd_T62 l0 0).f1).drop (x3_1 : Int).toNat) t210 _ ?side1 ?side2 A9.out).mono ?_); (case side1 => repeat (first | exact HRa209.out | (with_reducible refine Kd.C_alloc ?_ _) | (with_reducible refine Kd.C_drewN ?_ _) | (with_reducible refine Kd.C_drew ?_))); (case side2 => exact Nat.le_refl _); rintro e w' ⟨rfl, ⟨nd, rfl⟩⟩; (try first | exact ⟨rfl, _, World.drewN_drewN _ _ _⟩ | exact ⟨rfl, _, Eq.trans (World.drewN_drewN _ _ _) (congrArg (World.drewN _) (Nat.add_assoc _ _ _))⟩); have p211 : 0 ≤ (0 : Int) := (by omega); have q211 : 0 < (l0.length : Int) := of_decide_eq_true (by first | (with_reducible assumption) | assumption); obtain ⟨ad211, A211_1, c211_1, e211, hx211_0, hx211_1, hl211_1, hi211_1⟩ := at_T62 HR0.out 0 p211 q211; obtain rfl : ad203 = ad211 := (by injection e211); have qi211 : (0 < l0.length) = True := eq_true (by omega); (try rw [show ((0 : Int)).toNat = 0 from rfl] at hx211_0); (try rw [show 0 * 2 = 0 from rfl] at hx211_0); (try rw [Addr.add_zero'] at hx211_0); (try rw [show ((0 : Int)).toNat = 0 from rfl] at hx211_1); (try rw [show 0 * 2 = 0 from rfl] at hx211_1); (try rw [Addr.add_zero'] at hx211_1); have HR211_1 := Aside0.mk hi211_1; have HC211_1 := Aside0.mk hl211_1; clear hi211_1 hl211_1; replace p211 := eq_true p211; replace q211 := eq_true q211; have ea_ := Option.some.inj (hx206_1.symm.trans hx211_1); injection ea_ with ea_ en_ ec_; subst ea_; subst ec_; clear en_; have p212 : 0 ≤ (x3_1 : Int) := of_decide_eq_true (by first | (with_reducible assumption) | assumption); have q212 : x3_1 < (((rd_T62 l0 0).f1).length : Int) := of_decide_eq_true (by first | (with_reducible assumption) | assumption); obtain ⟨ad212, A212_3, c212_3, e212, hx212_0, hx212_1, hx212_2, hx212_3, hl212_3, hi212_3⟩ := at_T51 HR211_1.out x3_1 p212 q212; cases e212; have HR212_3 := Aside0.mk hi212_3; have HC212_3 := Aside0.mk hl212_3; clear hi212_3 hl212_3; replace p212 := eq_true p212; replace q212 := eq_true q212; have p213 : 0 ≤ (0 : Int) := (by omega); have q213 : 0 < (l0.length : Int) := of_decide_eq_true (by first | (with_reducible assumption) | assumption); obtain ⟨ad213, A213_1, c213_1, e213, hx213_0, hx213_1, hl213_1, hi213_1⟩ := at_T62 HR0.out 0 p213 q213; obtain rfl : ad203 = ad213 := (by injection e213); have qi213 : (0 < l0.length) = True := eq_true (by omega); (try rw [show ((0 : Int)).toNat = 0 from rfl] at hx213_0); (try rw [show 0 * 2 = 0 from rfl] at hx213_0); (try rw [Addr.add_zero'] at hx213_0); (try rw [show ((0 : Int)).toNat = 0 from rfl] at hx213_1); (try rw [show 0 * 2 = 0 from rfl] at hx213_1); (try rw [Addr.add_zero'] at hx213_1); have HR213_1 := Aside0.mk hi213_1; have HC213_1 := Aside0.mk hl213_1; clear hi213_1 hl213_1; replace p213 := eq_true p213; replace q213 := eq_true q213; have ea_ := Option.some.inj (hx206_1.symm.trans hx213_1); injection ea_ with ea_ en_ ec_; subst ea_; subst ec_; clear en_))
                      repeat (go_quiet (first | (go_at_call 93; (with_reducible refine (spec_l7Box.calls k1 _ (((rd_T62 l0 0).f1).drop (x3_1 : Int).toNat).length (((rd_T62 l0 0).f1).drop (x3_1 : Int).toNat) t210 _ ?side1 ?side2 A9.out).mono ?_); (case side1 => repeat (first | exact HRa209.out | (with_reducible refine Kd.C_alloc ?_ _) | (with_reducible refine Kd.C_drewN ?_ _) | (with_reducible refine Kd.C_drew ?_))); (case side2 => exact Nat.le_refl _); rintro e w' ⟨rfl, ⟨nd, rfl⟩⟩; (try first | exact ⟨rfl, _, World.drewN_drewN _ _ _⟩ | exact ⟨rfl, _, Eq.trans (World.drewN_drewN _ _ _) (congrArg (World.drewN _) (Nat.add_assoc _ _ _))⟩); have p211 : 0 ≤ (0 : Int) := (by omega); have q211 : 0 < (l0.length : Int) := of_decide_eq_true (by first | (with_reducible assumption) | assumption); obtain ⟨ad211, A211_1, c211_1, e211, hx211_0, hx211_1, hl211_1, hi211_1⟩ := at_T62 HR0.out 0 p211 q211; obtain rfl : ad203 = ad211 := (by injection e211); have qi211 : (0 < l0.length) = True := eq_true (by omega); (try rw [show ((0 : Int)).toNat = 0 from rfl] at hx211_0); (try rw [show 0 * 2 = 0 from rfl] at hx211_0); (try rw [Addr.add_zero'] at hx211_0); (try rw [show ((0 : Int)).toNat = 0 from rfl] at hx211_1); (try rw [show 0 * 2 = 0 from rfl] at hx211_1); (try rw [Addr.add_zero'] at hx211_1); have HR211_1 := Aside0.mk hi211_1; have HC211_1 := Aside0.mk hl211_1; clear hi211_1 hl211_1; replace p211 := eq_true p211; replace q211 := eq_true q211; have ea_ := Option.some.inj (hx206_1.symm.trans hx211_1); injection ea_ with ea_ en_ ec_; subst ea_; subst ec_; clear en_; have p212 : 0 ≤ (x3_1 : Int) := of_decide_eq_true (by first | (with_reducible assumption) | assumption); have q212 : x3_1 < (((rd_T62 l0 0).f1).length : Int) := of_decide_eq_true (by first | (with_reducible assumption) | assumption); obtain ⟨ad212, A212_3, c212_3, e212, hx212_0, hx212_1, hx212_2, hx212_3, hl212_3, hi212_3⟩ := at_T51 HR211_1.out x3_1 p212 q212; cases e212; have HR212_3 := Aside0.mk hi212_3; have HC212_3 := Aside0.mk hl212_3; clear hi212_3 hl212_3; replace p212 := eq_true p212; replace q212 := eq_true q212; have p213 : 0 ≤ (0 : Int) := (by omega); have q213 : 0 < (l0.length : Int) := of_decide_eq_true (by first | (with_reducible assumption) | assumption); obtain ⟨ad213, A213_1, c213_1, e213, hx213_0, hx213_1, hl213_1, hi213_1⟩ := at_T62 HR0.out 0 p213 q213; obtain rfl : ad203 = ad213 := (by injection e213); have qi213 : (0 < l0.length) = True := eq_true (by omega); (try rw [show ((0 : Int)).toNat = 0 from rfl] at hx213_0); (try rw [show 0 * 2 = 0 from rfl] at hx213_0); (try rw [Addr.add_zero'] at hx213_0); (try rw [show ((0 : Int)).toNat = 0 from rfl] at hx213_1); (try rw [show 0 * 2 = 0 from rfl] at hx213_1); (try rw [Addr.add_zero'] at hx213_1); have HR213_1 := Aside0.mk hi213_1; have HC213_1 := Aside0.mk hl213_1; clear hi213_1 hl213_1; replace p213 := eq_true p213; replace q213 := eq_true q213; have ea_ := Option.some.inj (hx206_1.symm.trans hx213_1); injection ea_ with ea_ en_ ec_; subst ea_; subst ec_; clear en_)); try go_wp2_with (first | (go_at_call 93; (with_reducible refine (spec_l7Box.calls k1 _ (((rd_T62 l0 0).f1).drop (x3_1 : Int).toNat).length (((rd_T62 l0 0).f1).drop (x3_1 : Int).toNat) t210 _ ?side1 ?side2 A9.out).mono ?_); (case side1 => repeat (first | exact HRa209.out | (with_reducible refine Kd.C_alloc ?_ _) | (with_reducible refine Kd.C_drewN ?_ _) | (with_reducible refine Kd.C_drew ?_))); (case side2 => exact Nat.le_refl _); rintro e w' ⟨rfl, ⟨nd, rfl⟩⟩; (try first | exact ⟨rfl, _, World.drewN_drewN _ _ _⟩ | exact ⟨rfl, _, Eq.trans (World.drewN_drewN _ _ _) (congrArg (World.drewN _) (Nat.add_assoc _ _ _))⟩); have p211 : 0 ≤ (0 : Int) := (by omega); have q211 : 0 < (l0.length : Int) := of_decide_eq_true (by first | (with_reducible assumption) | assumption); obtain ⟨ad211, A211_1, c211_1, e211, hx211_0, hx211_1, hl211_1, hi211_1⟩ := at_T62 HR0.out 0 p211 q211; obtain rfl : ad203 = ad211 := (by injection e211); have qi211 : (0 < l0.length) = True := eq_true (by omega); (try rw [show ((0 : Int)).toNat = 0 from rfl] at hx211_0); (try rw [show 0 * 2 = 0 from rfl] at hx211_0); (try rw [Addr.add_zero'] at hx211_0); (try rw [show ((0 : Int)).toNat = 0 from rfl] at hx211_1); (try rw [show 0 * 2 = 0 from rfl] at hx211_1); (try rw [Addr.add_zero'] at hx211_1); have HR211_1 := Aside0.mk hi211_1; have HC211_1 := Aside0.mk hl211_1; clear hi211_1 hl211_1; replace p211 := eq_true p211; replace q211 := eq_true q211; have ea_ := Option.some.inj (hx206_1.symm.trans hx211_1); injection ea_ with ea_ en_ ec_; subst ea_; subst ec_; clear en_; have p212 : 0 ≤ (x3_1 : Int) := of_decide_eq_true (by first | (with_reducible assumption) | assumption); have q212 : x3_1 < (((rd_T62 l0 0).f1).length : Int) := of_decide_eq_true (by first | (with_reducible assumption) | assumption); obtain ⟨ad212, A212_3, c212_3, e212, hx212_0, hx212_1, hx212_2, hx212_3, hl212_3, hi212_3⟩ := at_T51 HR211_1.out x3_1 p212 q212; cases e212; have HR212_3 := Aside0.mk hi212_3; have HC212_3 := Aside0.mk hl212_3; clear hi212_3 hl212_3; replace p212 := eq_true p212; replace q212 := eq_true q212; have p213 : 0 ≤ (0 : Int) := (by omega); have q213 : 0 < (l0.length : Int) := of_decide_eq_true (by first | (with_reducible assumption) | assumption); obtain ⟨ad213, A213_1, c213_1, e213, hx213_0, hx213_1, hl213_1, hi213_1⟩ := at_T62 HR0.out 0 p213 q213; obtain rfl : ad203 = ad213 := (by injection e213); have qi213 : (0 < l0.length) = True := eq_true (by omega); (try rw [show ((0 : Int)).toNat = 0 from rfl] at hx213_0); (try rw [show 0 * 2 = 0 from rfl] at hx213_0); (try rw [Addr.add_zero'] at hx213_0); (try rw [show ((0 : Int)).toNat = 0 from rfl] at hx213_1); (try rw [show 0 * 2 = 0 from rfl] at hx213_1); (try rw [Addr.add_zero'] at hx213_1); have HR213_1 := Aside0.mk hi213_1; have HC213_1 := Aside0.mk hl213_1; clear hi213_1 hl213_1; replace p213 := eq_true p213; replace q213 := eq_true q213; have ea_ := Option.some.inj (hx206_1.symm.trans hx213_1); injection ea_ with ea_ en_ ec_; subst ea_; subst ec_; clear en_)))
                      go_loopg [5] k1 (fun kq v5 w' => ∃ (x5_2 : Int), v5 = .int .i64 x5_2 ∧ Aside0 (spec_l7Fault.l1 kq l0 x3_1 x5_2 = some r) ∧ Aside0 (kq ≤ k1) ∧ Drawn0 w w')
                      case atStart => exact ⟨(0), (by first | rfl | (simp; done) | (simp [*]; done)), H', ⟨Nat.le_refl _⟩, by repeat (first | exact Drawn0.refl _ | apply Drawn0.step)⟩
                      case round =>
                        clear H'
                        try clear c1
                        try clear c2
                        try clear c2b0
                        try clear c2b1
                        try clear p2
                        try clear q2
                        try clear hx2
                        try clear qi2
                        try clear c4
                        try clear c5
                        try clear c5b0
                        try clear c5b1
                        try clear c6
                        try clear c6b0
                        try clear c6b1
                        try clear c7
                        try clear c7b0
                        try clear c8
                        try clear c8b0
                        try clear c10
                        try clear c10b0
                        try clear c10b1
                        try clear c11
                        try clear c11b0
                        try clear hx203_0
                        try clear hx203_1
                        try clear hx205_0
                        try clear hx205_1
                        try clear hx206_0
                        try clear hx206_1
                        try clear hx207_0
                        try clear hx207_1
                        try clear hx208_0
                        try clear hx208_1
                        try clear hx208_2
                        try clear hx208_3
                        try clear hx211_0
                        try clear hx211_1
                        try clear hx212_0
                        try clear hx212_1
                        try clear hx212_2
                        try clear hx212_3
                        try clear hx213_0
                        try clear hx213_1
                        try clear p2
                        try clear p203
                        try clear p205
                        try clear p206
                        try clear p207
                        try clear p208
                        try clear p211
                        try clear p212
                        try clear p213
                        try clear q2
                        try clear q203
                        try clear q205
                        try clear q206
                        try clear q207
                        try clear q208
                        try clear q211
                        try clear q212
                        try clear q213
                        obtain ⟨x5_2, rfl, HA, HK2, ⟨m2, rfl⟩⟩ := hrel
                        cases gk with
                        | zero => exact absurd HA.out (by simp [spec_l7Fault.l1])
                        | succ k2 =>
                          have H := HA.out
                          clear HA
                          simp only [spec_l7Fault.l1] at H
                          by_cases c12 : x5_2 < x3_1
                          · rw [if_pos c12] at H
                            have c12b0 : decide (x5_2 < x3_1) = true := decide_eq_true c12
                            clear c12
                            by_cases c13 : 0 < (l0.length : Int)
                            · rw [if_pos c13] at H
                              have c13b0 : decide (0 < (l0.length : Int)) = true := decide_eq_true c13
                              have c13b1 : decide (0 < l0.length) = true := decide_eq_true (by omega)
                              clear c13
                              by_cases c14 : 0 ≤ x5_2
                              · rw [if_pos c14] at H
                                have c14b0 : decide (0 ≤ x5_2) = true := decide_eq_true c14
                                clear c14
                                by_cases c15 : x5_2 < (((rd_T62 l0 0).f1).length : Int)
                                · rw [if_pos c15] at H
                                  have c15b0 : decide (x5_2 < (((rd_T62 l0 0).f1).length : Int)) = true := decide_eq_true c15
                                  clear c15
                                  by_cases c16 : 0 ≤ x3_1
                                  · rw [if_pos c16] at H
                                    have c16b0 : decide (0 ≤ x3_1) = true := decide_eq_true c16
                                    clear c16
                                    by_cases c17 : x3_1 < (((rd_T62 l0 0).f1).length : Int)
                                    · rw [if_pos c17] at H
                                      have c17b0 : decide (x3_1 < (((rd_T62 l0 0).f1).length : Int)) = true := decide_eq_true c17
                                      clear c17
                                      by_cases c18 : ((rd_T51 ((rd_T62 l0 0).f1) x5_2).f0).toList = ((rd_T51 ((rd_T62 l0 0).f1) x3_1).f0).toList
                                      · rw [if_pos c18] at H
                                        have c18b0 : (((rd_T51 ((rd_T62 l0 0).f1) x5_2).f0).toList == ((rd_T51 ((rd_T62 l0 0).f1) x3_1).f0).toList) = true := beq_iff_eq.mpr c18
                                        have c18b1 : (((rd_T51 ((rd_T62 l0 0).f1) x5_2).f0).toList != ((rd_T51 ((rd_T62 l0 0).f1) x3_1).f0).toList) = false := bne_eq_false_iff_eq.mpr c18
                                        clear c18
                                        obtain rfl := Option.some.inj H
                                        have p214 : 0 ≤ (0 : Int) := (by omega)
                                        have q214 : 0 < (l0.length : Int) := of_decide_eq_true (by first | (with_reducible assumption) | assumption)
                                        obtain ⟨ad214, A214_1, c214_1, e214, hx214_0, hx214_1, hl214_1, hi214_1⟩ := at_T62 HR0.out 0 p214 q214
                                        obtain rfl : ad203 = ad214 := (by injection e214)
                                        have qi214 : (0 < l0.length) = True := eq_true (by omega)
                                        (try rw [show ((0 : Int)).toNat = 0 from rfl] at hx214_0)
                                        (try rw [show 0 * 2 = 0 from rfl] at hx214_0)
                                        (try rw [Addr.add_zero'] at hx214_0)
                                        (try rw [show ((0 : Int)).toNat = 0 from rfl] at hx214_1)
                                        (try rw [show 0 * 2 = 0 from rfl] at hx214_1)
                                        (try rw [Addr.add_zero'] at hx214_1)
                                        have HR214_1 := Aside0.mk hi214_1
                                        have HC214_1 := Aside0.mk hl214_1
                                        clear hi214_1 hl214_1
                                        replace p214 := eq_true p214
                                        replace q214 := eq_true q214
                                        have p215 : 0 ≤ (x5_2 : Int) := of_decide_eq_true (by first | (with_reducible assumption) | assumption)
                                        have q215 : x5_2 < (((rd_T62 l0 0).f1).length : Int) := of_decide_eq_true (by first | (with_reducible assumption) | assumption)
                                        obtain ⟨ad215, A215_3, c215_3, e215, hx215_0, hx215_1, hx215_2, hx215_3, hl215_3, hi215_3⟩ := at_T51 HR214_1.out x5_2 p215 q215
                                        cases e215
                                        have HR215_3 := Aside0.mk hi215_3
                                        have HC215_3 := Aside0.mk hl215_3
                                        clear hi215_3 hl215_3
                                        replace p215 := eq_true p215
                                        replace q215 := eq_true q215
                                        have p216 : 0 ≤ (0 : Int) := (by omega)
                                        have q216 : 0 < (l0.length : Int) := of_decide_eq_true (by first | (with_reducible assumption) | assumption)
                                        obtain ⟨ad216, A216_1, c216_1, e216, hx216_0, hx216_1, hl216_1, hi216_1⟩ := at_T62 HR0.out 0 p216 q216
                                        obtain rfl : ad203 = ad216 := (by injection e216)
                                        have qi216 : (0 < l0.length) = True := eq_true (by omega)
                                        (try rw [show ((0 : Int)).toNat = 0 from rfl] at hx216_0)
                                        (try rw [show 0 * 2 = 0 from rfl] at hx216_0)
                                        (try rw [Addr.add_zero'] at hx216_0)
                                        (try rw [show ((0 : Int)).toNat = 0 from rfl] at hx216_1)
                                        (try rw [show 0 * 2 = 0 from rfl] at hx216_1)
                                        (try rw [Addr.add_zero'] at hx216_1)
                                        have HR216_1 := Aside0.mk hi216_1
                                        have HC216_1 := Aside0.mk hl216_1
                                        clear hi216_1 hl216_1
                                        replace p216 := eq_true p216
                                        replace q216 := eq_true q216
                                        have ea_ := Option.some.inj (hx214_1.symm.trans hx216_1)
                                        injection ea_ with ea_ en_ ec_
                                        subst ea_
                                        subst ec_
                                        clear en_
                                        have p217 : 0 ≤ (x3_1 : Int) := of_decide_eq_true (by first | (with_reducible assumption) | assumption)
                                        have q217 : x3_1 < (((rd_T62 l0 0).f1).length : Int) := of_decide_eq_true (by first | (with_reducible assumption) | assumption)
                                        obtain ⟨ad217, A217_3, c217_3, e217, hx217_0, hx217_1, hx217_2, hx217_3, hl217_3, hi217_3⟩ := at_T51 HR216_1.out x3_1 p217 q217
                                        cases e217
                                        have HR217_3 := Aside0.mk hi217_3
                                        have HC217_3 := Aside0.mk hl217_3
                                        clear hi217_3 hl217_3
                                        replace p217 := eq_true p217
                                        replace q217 := eq_true q217
                                        go_wp2
                                        repeat (go_quiet (fail); try go_wp2)
                                        go_ret
                                        exact ⟨by first | rfl | (simp; done) | (simp [*]; done), by repeat (first | exact Drawn0.refl _ | apply Drawn0.step)⟩
                                      · rw [if_neg c18] at H
                                        have c18b0 : (((rd_T51 ((rd_T62 l0 0).f1) x5_2).f0).toList == ((rd_T51 ((rd_T62 l0 0).f1) x3_1).f0).toList) = false := beq_eq_false_iff_ne.mpr c18
                                        have c18b1 : (((rd_T51 ((rd_T62 l0 0).f1) x5_2).f0).toList != ((rd_T51 ((rd_T62 l0 0).f1) x3_1).f0).toList) = true := bne_iff_ne.mpr c18
                                        by_cases c19 : ((rd_T51 ((rd_T62 l0 0).f1) x5_2).f1) = ((rd_T51 ((rd_T62 l0 0).f1) x3_1).f1)
                                        · rw [if_pos c19] at H
                                          have c19b0 : (((rd_T51 ((rd_T62 l0 0).f1) x5_2).f1) == ((rd_T51 ((rd_T62 l0 0).f1) x3_1).f1)) = true := beq_iff_eq.mpr c19
                                          have c19b1 : (((rd_T51 ((rd_T62 l0 0).f1) x5_2).f1) != ((rd_T51 ((rd_T62 l0 0).f1) x3_1).f1)) = false := bne_eq_false_iff_eq.mpr c19
                                          clear c19
                                          obtain rfl := Option.some.inj H
                                          have p214 : 0 ≤ (0 : Int) := (by omega)
                                          have q214 : 0 < (l0.length : Int) := of_decide_eq_true (by first | (with_reducible assumption) | assumption)
                                          obtain ⟨ad214, A214_1, c214_1, e214, hx214_0, hx214_1, hl214_1, hi214_1⟩ := at_T62 HR0.out 0 p214 q214
                                          obtain rfl : ad203 = ad214 := (by injection e214)
                                          have qi214 : (0 < l0.length) = True := eq_true (by omega)
                                          (try rw [show ((0 : Int)).toNat = 0 from rfl] at hx214_0)
                                          (try rw [show 0 * 2 = 0 from rfl] at hx214_0)
                                          (try rw [Addr.add_zero'] at hx214_0)
                                          (try rw [show ((0 : Int)).toNat = 0 from rfl] at hx214_1)
                                          (try rw [show 0 * 2 = 0 from rfl] at hx214_1)
                                          (try rw [Addr.add_zero'] at hx214_1)
                                          have HR214_1 := Aside0.mk hi214_1
                                          have HC214_1 := Aside0.mk hl214_1
                                          clear hi214_1 hl214_1
                                          replace p214 := eq_true p214
                                          replace q214 := eq_true q214
                                          have p215 : 0 ≤ (x5_2 : Int) := of_decide_eq_true (by first | (with_reducible assumption) | assumption)
                                          have q215 : x5_2 < (((rd_T62 l0 0).f1).length : Int) := of_decide_eq_true (by first | (with_reducible assumption) | assumption)
                                          obtain ⟨ad215, A215_3, c215_3, e215, hx215_0, hx215_1, hx215_2, hx215_3, hl215_3, hi215_3⟩ := at_T51 HR214_1.out x5_2 p215 q215
                                          cases e215
                                          have HR215_3 := Aside0.mk hi215_3
                                          have HC215_3 := Aside0.mk hl215_3
                                          clear hi215_3 hl215_3
                                          replace p215 := eq_true p215
                                          replace q215 := eq_true q215
                                          have p216 : 0 ≤ (0 : Int) := (by omega)
                                          have q216 : 0 < (l0.length : Int) := of_decide_eq_true (by first | (with_reducible assumption) | assumption)
                                          obtain ⟨ad216, A216_1, c216_1, e216, hx216_0, hx216_1, hl216_1, hi216_1⟩ := at_T62 HR0.out 0 p216 q216
                                          obtain rfl : ad203 = ad216 := (by injection e216)
                                          have qi216 : (0 < l0.length) = True := eq_true (by omega)
                                          (try rw [show ((0 : Int)).toNat = 0 from rfl] at hx216_0)
                                          (try rw [show 0 * 2 = 0 from rfl] at hx216_0)
                                          (try rw [Addr.add_zero'] at hx216_0)
                                          (try rw [show ((0 : Int)).toNat = 0 from rfl] at hx216_1)
                                          (try rw [show 0 * 2 = 0 from rfl] at hx216_1)
                                          (try rw [Addr.add_zero'] at hx216_1)
                                          have HR216_1 := Aside0.mk hi216_1
                                          have HC216_1 := Aside0.mk hl216_1
                                          clear hi216_1 hl216_1
                                          replace p216 := eq_true p216
                                          replace q216 := eq_true q216
                                          have ea_ := Option.some.inj (hx214_1.symm.trans hx216_1)
                                          injection ea_ with ea_ en_ ec_
                                          subst ea_
                                          subst ec_
                                          clear en_
                                          have p217 : 0 ≤ (x3_1 : Int) := of_decide_eq_true (by first | (with_reducible assumption) | assumption)
                                          have q217 : x3_1 < (((rd_T62 l0 0).f1).length : Int) := of_decide_eq_true (by first | (with_reducible assumption) | assumption)
                                          obtain ⟨ad217, A217_3, c217_3, e217, hx217_0, hx217_1, hx217_2, hx217_3, hl217_3, hi217_3⟩ := at_T51 HR216_1.out x3_1 p217 q217
                                          cases e217
                                          have HR217_3 := Aside0.mk hi217_3
                                          have HC217_3 := Aside0.mk hl217_3
                                          clear hi217_3 hl217_3
                                          replace p217 := eq_true p217
                                          replace q217 := eq_true q217
                                          have p218 : 0 ≤ (0 : Int) := (by omega)
                                          have q218 : 0 < (l0.length : Int) := of_decide_eq_true (by first | (with_reducible assumption) | assumption)
                                          obtain ⟨ad218, A218_1, c218_1, e218, hx218_0, hx218_1, hl218_1, hi218_1⟩ := at_T62 HR0.out 0 p218 q218
                                          obtain rfl : ad203 = ad218 := (by injection e218)
                                          have qi218 : (0 < l0.length) = True := eq_true (by omega)
                                          (try rw [show ((0 : Int)).toNat = 0 from rfl] at hx218_0)
                                          (try rw [show 0 * 2 = 0 from rfl] at hx218_0)
                                          (try rw [Addr.add_zero'] at hx218_0)
                                          (try rw [show ((0 : Int)).toNat = 0 from rfl] at hx218_1)
                                          (try rw [show 0 * 2 = 0 from rfl] at hx218_1)
                                          (try rw [Addr.add_zero'] at hx218_1)
                                          have HR218_1 := Aside0.mk hi218_1
                                          have HC218_1 := Aside0.mk hl218_1
                                          clear hi218_1 hl218_1
                                          replace p218 := eq_true p218
                                          replace q218 := eq_true q218
                                          have ea_ := Option.some.inj (hx214_1.symm.trans hx218_1)
                                          injection ea_ with ea_ en_ ec_
                                          subst ea_
                                          subst ec_
                                          clear en_
                                          have p219 : 0 ≤ (x5_2 : Int) := of_decide_eq_true (by first | (with_reducible assumption) | assumption)
                                          have q219 : x5_2 < (((rd_T62 l0 0).f1).length : Int) := of_decide_eq_true (by first | (with_reducible assumption) | assumption)
                                          obtain ⟨ad219, A219_3, c219_3, e219, hx219_0, hx219_1, hx219_2, hx219_3, hl219_3, hi219_3⟩ := at_T51 HR218_1.out x5_2 p219 q219
                                          cases e219
                                          have HR219_3 := Aside0.mk hi219_3
                                          have HC219_3 := Aside0.mk hl219_3
                                          clear hi219_3 hl219_3
                                          replace p219 := eq_true p219
                                          replace q219 := eq_true q219
                                          have p220 : 0 ≤ (0 : Int) := (by omega)
                                          have q220 : 0 < (l0.length : Int) := of_decide_eq_true (by first | (with_reducible assumption) | assumption)
                                          obtain ⟨ad220, A220_1, c220_1, e220, hx220_0, hx220_1, hl220_1, hi220_1⟩ := at_T62 HR0.out 0 p220 q220
                                          obtain rfl : ad203 = ad220 := (by injection e220)
                                          have qi220 : (0 < l0.length) = True := eq_true (by omega)
                                          (try rw [show ((0 : Int)).toNat = 0 from rfl] at hx220_0)
                                          (try rw [show 0 * 2 = 0 from rfl] at hx220_0)
                                          (try rw [Addr.add_zero'] at hx220_0)
                                          (try rw [show ((0 : Int)).toNat = 0 from rfl] at hx220_1)
                                          (try rw [show 0 * 2 = 0 from rfl] at hx220_1)
                                          (try rw [Addr.add_zero'] at hx220_1)
                                          have HR220_1 := Aside0.mk hi220_1
                                          have HC220_1 := Aside0.mk hl220_1
                                          clear hi220_1 hl220_1
                                          replace p220 := eq_true p220
                                          replace q220 := eq_true q220
                                          have ea_ := Option.some.inj (hx214_1.symm.trans hx220_1)
                                          injection ea_ with ea_ en_ ec_
                                          subst ea_
                                          subst ec_
                                          clear en_
                                          have p221 : 0 ≤ (x3_1 : Int) := of_decide_eq_true (by first | (with_reducible assumption) | assumption)
                                          have q221 : x3_1 < (((rd_T62 l0 0).f1).length : Int) := of_decide_eq_true (by first | (with_reducible assumption) | assumption)
                                          obtain ⟨ad221, A221_3, c221_3, e221, hx221_0, hx221_1, hx221_2, hx221_3, hl221_3, hi221_3⟩ := at_T51 HR220_1.out x3_1 p221 q221
                                          cases e221
                                          have HR221_3 := Aside0.mk hi221_3
                                          have HC221_3 := Aside0.mk hl221_3
                                          clear hi221_3 hl221_3
                                          replace p221 := eq_true p221
                                          replace q221 := eq_true q221
                                          go_wp2
                                          repeat (go_quiet (fail); try go_wp2)
                                          go_ret
                                          exact ⟨by first | rfl | (simp; done) | (simp [*]; done), by repeat (first | exact Drawn0.refl _ | apply Drawn0.step)⟩
                                        · rw [if_neg c19] at H
                                          have c19b0 : (((rd_T51 ((rd_T62 l0 0).f1) x5_2).f1) == ((rd_T51 ((rd_T62 l0 0).f1) x3_1).f1)) = false := beq_eq_false_iff_ne.mpr c19
                                          have c19b1 : (((rd_T51 ((rd_T62 l0 0).f1) x5_2).f1) != ((rd_T51 ((rd_T62 l0 0).f1) x3_1).f1)) = true := bne_iff_ne.mpr c19
                                          have H' := Aside0.mk H
                                          clear H
                                          have p214 : 0 ≤ (0 : Int) := (by omega)
                                          have q214 : 0 < (l0.length : Int) := of_decide_eq_true (by first | (with_reducible assumption) | assumption)
                                          obtain ⟨ad214, A214_1, c214_1, e214, hx214_0, hx214_1, hl214_1, hi214_1⟩ := at_T62 HR0.out 0 p214 q214
                                          obtain rfl : ad203 = ad214 := (by injection e214)
                                          have qi214 : (0 < l0.length) = True := eq_true (by omega)
                                          (try rw [show ((0 : Int)).toNat = 0 from rfl] at hx214_0)
                                          (try rw [show 0 * 2 = 0 from rfl] at hx214_0)
                                          (try rw [Addr.add_zero'] at hx214_0)
                                          (try rw [show ((0 : Int)).toNat = 0 from rfl] at hx214_1)
                                          (try rw [show 0 * 2 = 0 from rfl] at hx214_1)
                                          (try rw [Addr.add_zero'] at hx214_1)
                                          have HR214_1 := Aside0.mk hi214_1
                                          have HC214_1 := Aside0.mk hl214_1
                                          clear hi214_1 hl214_1
                                          replace p214 := eq_true p214
                                          replace q214 := eq_true q214
                                          have p215 : 0 ≤ (x5_2 : Int) := of_decide_eq_true (by first | (with_reducible assumption) | assumption)
                                          have q215 : x5_2 < (((rd_T62 l0 0).f1).length : Int) := of_decide_eq_true (by first | (with_reducible assumption) | assumption)
                                          obtain ⟨ad215, A215_3, c215_3, e215, hx215_0, hx215_1, hx215_2, hx215_3, hl215_3, hi215_3⟩ := at_T51 HR214_1.out x5_2 p215 q215
                                          cases e215
                                          have HR215_3 := Aside0.mk hi215_3
                                          have HC215_3 := Aside0.mk hl215_3
                                          clear hi215_3 hl215_3
                                          replace p215 := eq_true p215
                                          replace q215 := eq_true q215
                                          have p216 : 0 ≤ (0 : Int) := (by omega)
                                          have q216 : 0 < (l0.length : Int) := of_decide_eq_true (by first | (with_reducible assumption) | assumption)
                                          obtain ⟨ad216, A216_1, c216_1, e216, hx216_0, hx216_1, hl216_1, hi216_1⟩ := at_T62 HR0.out 0 p216 q216
                                          obtain rfl : ad203 = ad216 := (by injection e216)
                                          have qi216 : (0 < l0.length) = True := eq_true (by omega)
                                          (try rw [show ((0 : Int)).toNat = 0 from rfl] at hx216_0)
                                          (try rw [show 0 * 2 = 0 from rfl] at hx216_0)
                                          (try rw [Addr.add_zero'] at hx216_0)
                                          (try rw [show ((0 : Int)).toNat = 0 from rfl] at hx216_1)
                                          (try rw [show 0 * 2 = 0 from rfl] at hx216_1)
                                          (try rw [Addr.add_zero'] at hx216_1)
                                          have HR216_1 := Aside0.mk hi216_1
                                          have HC216_1 := Aside0.mk hl216_1
                                          clear hi216_1 hl216_1
                                          replace p216 := eq_true p216
                                          replace q216 := eq_true q216
                                          have ea_ := Option.some.inj (hx214_1.symm.trans hx216_1)
                                          injection ea_ with ea_ en_ ec_
                                          subst ea_
                                          subst ec_
                                          clear en_
                                          have p217 : 0 ≤ (x3_1 : Int) := of_decide_eq_true (by first | (with_reducible assumption) | assumption)
                                          have q217 : x3_1 < (((rd_T62 l0 0).f1).length : Int) := of_decide_eq_true (by first | (with_reducible assumption) | assumption)
                                          obtain ⟨ad217, A217_3, c217_3, e217, hx217_0, hx217_1, hx217_2, hx217_3, hl217_3, hi217_3⟩ := at_T51 HR216_1.out x3_1 p217 q217
                                          cases e217
                                          have HR217_3 := Aside0.mk hi217_3
                                          have HC217_3 := Aside0.mk hl217_3
                                          clear hi217_3 hl217_3
                                          replace p217 := eq_true p217
                                          replace q217 := eq_true q217
                                          have p218 : 0 ≤ (0 : Int) := (by omega)
                                          have q218 : 0 < (l0.length : Int) := of_decide_eq_true (by first | (with_reducible assumption) | assumption)
                                          obtain ⟨ad218, A218_1, c218_1, e218, hx218_0, hx218_1, hl218_1, hi218_1⟩ := at_T62 HR0.out 0 p218 q218
                                          obtain rfl : ad203 = ad218 := (by injection e218)
                                          have qi218 : (0 < l0.length) = True := eq_true (by omega)
                                          (try rw [show ((0 : Int)).toNat = 0 from rfl] at hx218_0)
                                          (try rw [show 0 * 2 = 0 from rfl] at hx218_0)
                                          (try rw [Addr.add_zero'] at hx218_0)
                                          (try rw [show ((0 : Int)).toNat = 0 from rfl] at hx218_1)
                                          (try rw [show 0 * 2 = 0 from rfl] at hx218_1)
                                          (try rw [Addr.add_zero'] at hx218_1)
                                          have HR218_1 := Aside0.mk hi218_1
                                          have HC218_1 := Aside0.mk hl218_1
                                          clear hi218_1 hl218_1
                                          replace p218 := eq_true p218
                                          replace q218 := eq_true q218
                                          have ea_ := Option.some.inj (hx214_1.symm.trans hx218_1)
                                          injection ea_ with ea_ en_ ec_
                                          subst ea_
                                          subst ec_
                                          clear en_
                                          have p219 : 0 ≤ (x5_2 : Int) := of_decide_eq_true (by first | (with_reducible assumption) | assumption)
                                          have q219 : x5_2 < (((rd_T62 l0 0).f1).length : Int) := of_decide_eq_true (by first | (with_reducible assumption) | assumption)
                                          obtain ⟨ad219, A219_3, c219_3, e219, hx219_0, hx219_1, hx219_2, hx219_3, hl219_3, hi219_3⟩ := at_T51 HR218_1.out x5_2 p219 q219
                                          cases e219
                                          have HR219_3 := Aside0.mk hi219_3
                                          have HC219_3 := Aside0.mk hl219_3
                                          clear hi219_3 hl219_3
                                          replace p219 := eq_true p219
                                          replace q219 := eq_true q219
                                          have p220 : 0 ≤ (0 : Int) := (by omega)
                                          have q220 : 0 < (l0.length : Int) := of_decide_eq_true (by first | (with_reducible assumption) | assumption)
                                          obtain ⟨ad220, A220_1, c220_1, e220, hx220_0, hx220_1, hl220_1, hi220_1⟩ := at_T62 HR0.out 0 p220 q220
                                          obtain rfl : ad203 = ad220 := (by injection e220)
                                          have qi220 : (0 < l0.length) = True := eq_true (by omega)
                                          (try rw [show ((0 : Int)).toNat = 0 from rfl] at hx220_0)
                                          (try rw [show 0 * 2 = 0 from rfl] at hx220_0)
                                          (try rw [Addr.add_zero'] at hx220_0)
                                          (try rw [show ((0 : Int)).toNat = 0 from rfl] at hx220_1)
                                          (try rw [show 0 * 2 = 0 from rfl] at hx220_1)
                                          (try rw [Addr.add_zero'] at hx220_1)
                                          have HR220_1 := Aside0.mk hi220_1
                                          have HC220_1 := Aside0.mk hl220_1
                                          clear hi220_1 hl220_1
                                          replace p220 := eq_true p220
                                          replace q220 := eq_true q220
                                          have ea_ := Option.some.inj (hx214_1.symm.trans hx220_1)
                                          injection ea_ with ea_ en_ ec_
                                          subst ea_
                                          subst ec_
                                          clear en_
                                          have p221 : 0 ≤ (x3_1 : Int) := of_decide_eq_true (by first | (with_reducible assumption) | assumption)
                                          have q221 : x3_1 < (((rd_T62 l0 0).f1).length : Int) := of_decide_eq_true (by first | (with_reducible assumption) | assumption)
                                          obtain ⟨ad221, A221_3, c221_3, e221, hx221_0, hx221_1, hx221_2, hx221_3, hl221_3, hi221_3⟩ := at_T51 HR220_1.out x3_1 p221 q221
                                          cases e221
                                          have HR221_3 := Aside0.mk hi221_3
                                          have HC221_3 := Aside0.mk hl221_3
                                          clear hi221_3 hl221_3
                                          replace p221 := eq_true p221
                                          replace q221 := eq_true q221
                                          go_wp2
                                          repeat (go_quiet (fail); try go_wp2)
                                          go_roundg k2
                                          case measure => have := HK1.out; have := HK2.out; omega
                                          case rel => exact ⟨(wrap64 (x5_2 + 1)), (by first | rfl | (simp; done) | (simp [*]; done)), H', ⟨by have := HK1.out; have := HK2.out; omega⟩, by repeat (first | exact Drawn0.refl _ | apply Drawn0.step)⟩
                                    · rw [if_neg c17] at H
                                      exact absurd H (by simp)
                                  · rw [if_neg c16] at H
                                    exact absurd H (by simp)
                                · rw [if_neg c15] at H
                                  exact absurd H (by simp)
                              · rw [if_neg c14] at H
                                exact absurd H (by simp)
                            · rw [if_neg c13] at H
                              exact absurd H (by simp)
                          · rw [if_neg c12] at H
                            have c12b0 : decide (x5_2 < x3_1) = false := decide_eq_false c12
                            clear c12
                            have H' := Aside0.mk H
                            clear H
                            go_wp2
                            repeat (go_quiet (fail); try go_wp2)
                            go_roundg k2
                            case measure => have := HK1.out; have := HK2.out; omega
                            case rel => exact ⟨(wrap64 (x3_1 + 1)), (by first | rfl | (simp; done) | (simp [*]; done)), H', ⟨by have := HK1.out; have := HK2.out; omega⟩, by repeat (first | exact Drawn0.refl _ | apply Drawn0.step)⟩
                  · rw [if_neg c10] at H
                    have c10b0 : (t210 == 0) = false := beq_eq_false_iff_ne.mpr c10
                    have c10b1 : (t210 != 0) = true := bne_iff_ne.mpr c10
                    obtain rfl := Option.some.inj H
                    have p206 : 0 ≤ (0 : Int) := (by omega)
                    have q206 : 0 < (l0.length : Int) := of_decide_eq_true (by first | (with_reducible assumption) | assumption)
                    obtain ⟨ad206, A206_1, c206_1, e206, hx206_0, hx206_1, hl206_1, hi206_1⟩ := at_T62 HR0.out 0 p206 q206
                    obtain rfl : ad203 = ad206 := (by injection e206)
                    have qi206 : (0 < l0.length) = True := eq_true (by omega)
                    (try rw [show ((0 : Int)).toNat = 0 from rfl] at hx206_0)
                    (try rw [show 0 * 2 = 0 from rfl] at hx206_0)
                    (try rw [Addr.add_zero'] at hx206_0)
                    (try rw [show ((0 : Int)).toNat = 0 from rfl] at hx206_1)
                    (try rw [show 0 * 2 = 0 from rfl] at hx206_1)
                    (try rw [Addr.add_zero'] at hx206_1)
                    have HR206_1 := Aside0.mk hi206_1
                    have HC206_1 := Aside0.mk hl206_1
                    clear hi206_1 hl206_1
                    replace p206 := eq_true p206
                    replace q206 := eq_true q206
                    have p207 : 0 ≤ (0 : Int) := (by omega)
                    have q207 : 0 < (l0.length : Int) := of_decide_eq_true (by first | (with_reducible assumption) | assumption)
                    obtain ⟨ad207, A207_1, c207_1, e207, hx207_0, hx207_1, hl207_1, hi207_1⟩ := at_T62 HR0.out 0 p207 q207
                    obtain rfl : ad203 = ad207 := (by injection e207)
                    have qi207 : (0 < l0.length) = True := eq_true (by omega)
                    (try rw [show ((0 : Int)).toNat = 0 from rfl] at hx207_0)
                    (try rw [show 0 * 2 = 0 from rfl] at hx207_0)
                    (try rw [Addr.add_zero'] at hx207_0)
                    (try rw [show ((0 : Int)).toNat = 0 from rfl] at hx207_1)
                    (try rw [show 0 * 2 = 0 from rfl] at hx207_1)
                    (try rw [Addr.add_zero'] at hx207_1)
                    have HR207_1 := Aside0.mk hi207_1
                    have HC207_1 := Aside0.mk hl207_1
                    clear hi207_1 hl207_1
                    replace p207 := eq_true p207
                    replace q207 := eq_true q207
                    have ea_ := Option.some.inj (hx206_1.symm.trans hx207_1)
                    injection ea_ with ea_ en_ ec_
                    subst ea_
                    subst ec_
                    clear en_
                    have p208 : 0 ≤ (x3_1 : Int) := of_decide_eq_true (by first | (with_reducible assumption) | assumption)
                    have q208 : x3_1 < (((rd_T62 l0 0).f1).length : Int) := of_decide_eq_true (by first | (with_reducible assumption) | assumption)
                    obtain ⟨ad208, A208_3, c208_3, e208, hx208_0, hx208_1, hx208_2, hx208_3, hl208_3, hi208_3⟩ := at_T51 HR207_1.out x3_1 p208 q208
                    cases e208
                    have HR208_3 := Aside0.mk hi208_3
                    have HC208_3 := Aside0.mk hl208_3
                    clear hi208_3 hl208_3
                    replace p208 := eq_true p208
                    replace q208 := eq_true q208
                    have HRa209 := Aside0.mk (Kd.C_elem HR207_1.out (x3_1 : Int) (of_decide_eq_true (by first | (with_reducible assumption) | assumption)) (of_decide_eq_true (by first | (with_reducible assumption) | assumption)))
                    go_wp2_with (first | (go_at_call 93; (with_reducible refine (spec_l7Box.calls k1 _ (((rd_T62 l0 0).f1).drop (x3_1 : Int).toNat).length (((rd_T62 l0 0).f1).drop (x3_1 : Int).toNat) t210 _ ?side1 ?side2 A9.out).mono ?_); (case side1 => repeat (first | exact HRa209.out | (with_reducible refine Kd.C_alloc ?_ _) | (with_reducible refine Kd.C_drewN ?_ _) | (with_reducible refine Kd.C_drew ?_))); (case side2 => exact Nat.le_refl _); rintro e w' ⟨rfl, ⟨nd, rfl⟩⟩; (try first | exact ⟨rfl, _, World.drewN_drewN _ _ _⟩ | exact ⟨rfl, _, Eq.trans (World.drewN_drewN _ _ _) (congrArg (World.drewN _) (Nat.add_assoc _ _ _))⟩)))
                    repeat (go_quiet (first | (go_at_call 93; (with_reducible refine (spec_l7Box.calls k1 _ (((rd_T62 l0 0).f1).drop (x3_1 : Int).toNat).length (((rd_T62 l0 0).f1).drop (x3_1 : Int).toNat) t210 _ ?side1 ?side2 A9.out).mono ?_); (case side1 => repeat (first | exact HRa209.out | (with_reducible refine Kd.C_alloc ?_ _) | (with_reducible refine Kd.C_drewN ?_ _) | (with_reducible refine Kd.C_drew ?_))); (case side2 => exact Nat.le_refl _); rintro e w' ⟨rfl, ⟨nd, rfl⟩⟩; (try first | exact ⟨rfl, _, World.drewN_drewN _ _ _⟩ | exact ⟨rfl, _, Eq.trans (World.drewN_drewN _ _ _) (congrArg (World.drewN _) (Nat.add_assoc _ _ _))⟩))); try go_wp2_with (first | (go_at_call 93; (with_reducible refine (spec_l7Box.calls k1 _ (((rd_T62 l0 0).f1).drop (x3_1 : Int).toNat).length (((rd_T62 l0 0).f1).drop (x3_1 : Int).toNat) t210 _ ?side1 ?side2 A9.out).mono ?_); (case side1 => repeat (first | exact HRa209.out | (with_reducible refine Kd.C_alloc ?_ _) | (with_reducible refine Kd.C_drewN ?_ _) | (with_reducible refine Kd.C_drew ?_))); (case side2 => exact Nat.le_refl _); rintro e w' ⟨rfl, ⟨nd, rfl⟩⟩; (try first | exact ⟨rfl, _, World.drewN_drewN _ _ _⟩ | exact ⟨rfl, _, Eq.trans (World.drewN_drewN _ _ _) (congrArg (World.drewN _) (Nat.add_assoc _ _ _))⟩))))
                    go_ret
                    exact ⟨by first | rfl | (simp; done) | (simp [*]; done), by repeat (first | exact Drawn0.refl _ | apply Drawn0.step)⟩
                · rw [if_neg c8] at H
                  exact absurd H (by simp)
              · rw [if_neg c7] at H
                have c7b0 : decide (x3_1 < (((rd_T62 l0 0).f1).length : Int)) = false := decide_eq_false c7
                clear c7
                obtain rfl := Option.some.inj H
                have p206 : 0 ≤ (0 : Int) := (by omega)
                have q206 : 0 < (l0.length : Int) := of_decide_eq_true (by first | (with_reducible assumption) | assumption)
                obtain ⟨ad206, A206_1, c206_1, e206, hx206_0, hx206_1, hl206_1, hi206_1⟩ := at_T62 HR0.out 0 p206 q206
                obtain rfl : ad203 = ad206 := (by injection e206)
                have qi206 : (0 < l0.length) = True := eq_true (by omega)
                (try rw [show ((0 : Int)).toNat = 0 from rfl] at hx206_0)
                (try rw [show 0 * 2 = 0 from rfl] at hx206_0)
                (try rw [Addr.add_zero'] at hx206_0)
                (try rw [show ((0 : Int)).toNat = 0 from rfl] at hx206_1)
                (try rw [show 0 * 2 = 0 from rfl] at hx206_1)
                (try rw [Addr.add_zero'] at hx206_1)
                have HR206_1 := Aside0.mk hi206_1
                have HC206_1 := Aside0.mk hl206_1
                clear hi206_1 hl206_1
                replace p206 := eq_true p206
                replace q206 := eq_true q206
                go_wp2
                repeat (go_quiet (fail); try go_wp2)
                go_ret
                exact ⟨by first | rfl | (simp; done) | (simp [*]; done), by repeat (first | exact Drawn0.refl _ | apply Drawn0.step)⟩
            · rw [if_neg c6] at H
              exact absurd H (by simp)
    · replace c4 := Bool.eq_false_iff.mpr c4
      subst c4
      have H1 : (some 3) = some r := by rw [if_neg (show ¬ (false = true) by decide)] at H; exact H
      clear H
      have H := H1
      clear H1
      obtain rfl := Option.some.inj H
      have p203 : 0 ≤ (0 : Int) := (by omega)
      have q203 : 0 < (l0.length : Int) := of_decide_eq_true (by first | (with_reducible assumption) | assumption)
      obtain ⟨ad203, A203_1, c203_1, e203, hx203_0, hx203_1, hl203_1, hi203_1⟩ := at_T62 HR0.out 0 p203 q203
      cases e203
      have qi203 : (0 < l0.length) = True := eq_true (by omega)
      (try rw [show ((0 : Int)).toNat = 0 from rfl] at hx203_0)
      (try rw [show 0 * 2 = 0 from rfl] at hx203_0)
      (try rw [Addr.add_zero'] at hx203_0)
      (try rw [show ((0 : Int)).toNat = 0 from rfl] at hx203_1)
      (try rw [show 0 * 2 = 0 from rfl] at hx203_1)
      (try rw [Addr.add_zero'] at hx203_1)
      have HR203_1 := Aside0.mk hi203_1
      have HC203_1 := Aside0.mk hl203_1
      clear hi203_1 hl203_1
      replace p203 := eq_true p203
      replace q203 := eq_true q203
      go_enter Try.func117, Try.ntmps117
      go_wp2_with (first | (go_at_call 141; (with_reducible refine (spec_l1In.calls ((rd_T62 l0 0).f0) 1 1000 false _ A3.out).mono ?_); rintro e w' ⟨rfl, ⟨nd, rfl⟩⟩; (try first | exact ⟨rfl, _, World.drewN_drewN _ _ _⟩ | exact ⟨rfl, _, Eq.trans (World.drewN_drewN _ _ _) (congrArg (World.drewN _) (Nat.add_assoc _ _ _))⟩)))
      repeat (go_quiet (first | (go_at_call 141; (with_reducible refine (spec_l1In.calls ((rd_T62 l0 0).f0) 1 1000 false _ A3.out).mono ?_); rintro e w' ⟨rfl, ⟨nd, rfl⟩⟩; (try first | exact ⟨rfl, _, World.drewN_drewN _ _ _⟩ | exact ⟨rfl, _, Eq.trans (World.drewN_drewN _ _ _) (congrArg (World.drewN _) (Nat.add_assoc _ _ _))⟩))); try go_wp2_with (first | (go_at_call 141; (with_reducible refine (spec_l1In.calls ((rd_T62 l0 0).f0) 1 1000 false _ A3.out).mono ?_); rintro e w' ⟨rfl, ⟨nd, rfl⟩⟩; (try first | exact ⟨rfl, _, World.drewN_drewN _ _ _⟩ | exact ⟨rfl, _, Eq.trans (World.drewN_drewN _ _ _) (congrArg (World.drewN _) (Nat.add_assoc _ _ _))⟩))))
      go_ret
      exact ⟨by first | rfl | (simp; done) | (simp [*]; done), by repeat (first | exact Drawn0.refl _ | apply Drawn0.step)⟩
  · rw [if_neg c2] at H
    exact absurd H (by simp)

/-! ### spec_StoreFault: function 54 -/
def spec_StoreFault.f (k : Nat) (a0_0 : Int) (l0_1 : List (S51)) : Option (Int) := (spec_l7Fault.f k [(⟨a0_0, l0_1⟩ : S62)]).bind fun t223 => (some t223)
theorem spec_StoreFault.mono : ∀ a0 a1 k, LeO (spec_StoreFault.f k a0 a1) (spec_StoreFault.f (k + 1) a0 a1) := by
  intro a0 a1 k
  unfold spec_StoreFault.f
  repeat' first
      | (with_reducible exact spec_l7Fault.mono _ _)
      | (with_reducible exact LeO.refl _)
      | (with_reducible exact LeO.none _)
      | (with_reducible refine LeO.ite ?_ ?_)
      | (with_reducible refine LeO.bind ?_ (fun _ => ?_))
      | exact spec_l7Fault.mono _ _
      | exact LeO.none _
      | refine LeO.ite ?_ ?_
      | refine LeO.bind ?_ (fun _ => ?_)
set_option maxHeartbeats 8000000 in
set_option maxRecDepth 100000 in
theorem spec_StoreFault.calls (k : Nat) (a0_0 : Int) (A0_1 : Option Addr) (c0_1 : Nat) (l0_1 : List (S51)) (r : Int) (w : World) (hr0_1 : Kd.C k51 w A0_1 l0_1.length l0_1) (hc0_1 : l0_1.length ≤ c0_1) (h : spec_StoreFault.f k a0_0 l0_1 = some r) :
    Calls Try.prog 54 #[.agg #[.int .i64 a0_0, .slice A0_1 l0_1.length c0_1]] w fun e w' => e = .returned (.int .i64 r) ∧ Below w.heap.size w w' := by
  have hu62 := Try.underlying62
  have HR0_1 := Aside0.mk hr0_1
  have HC0_1 := Aside0.mk hc0_1
  clear hr0_1 hc0_1
  have HB := Aside0.mk (Below.refl w.heap.size w)
  have H : ((spec_l7Fault.f k [(⟨a0_0, l0_1⟩ : S62)]).bind fun t223 => (some t223)) = some r := h
  clear h
  replace H := Option.bind_eq_some_iff.mp H
  obtain ⟨t223, A20, H⟩ := H
  replace H : (some t223) = some r := H
  have A2 := Aside0.mk A20
  clear A20
  obtain rfl := Option.some.inj H
  go_enter Try.func54, Try.ntmps54
  go_wp2_with (first | ((with_reducible refine gate_dst (N := 1) rfl ?_); refine box_event ?hg (N := 1) ?hd (cs := #[.int .i64 a0_0, .slice A0_1 l0_1.length c0_1]) (t := 62) ?hr ?_; (case hd => rfl); (case hg => rfl); (case hr => first | (go_simp; done) | (go_simp; rfl)); intro gb222 hg w3 hbox hb; have n0_ := Aside0.mk (below_step (by repeat (first | (with_reducible first | exact HB.out | apply below_alloc | apply pw_below_drewN | apply below_drew1) | exact HB.out)) hb); have n1_ := Aside0.mk (hbox); have n2_ := Aside0.mk ((by rw [hg]; exact (below_size (by repeat (first | (with_reducible first | exact HB.out | apply below_alloc | apply pw_below_drewN | apply below_drew1) | exact HB.out))) : w.heap.size ≤ gb222)); have n3_ := Aside0.mk ((by rw [hg]; exact (below_size (by repeat (first | (with_reducible first | exact HB.out | apply below_alloc | apply pw_below_drewN | apply below_drew1) | exact HB.out))) : w.heap.size ≤ gb222)); clear HB; have HB := n0_; have BK222 := n1_; have GW222 := n2_; have GE222 := n3_; clear n0_ n1_ n2_ n3_; clear hb hbox hg) | ((with_reducible refine gate_callee (f := 117) rfl ?_); refine goesL_ (some 3) rfl rfl Try.func117 (by kernel_rfl) rfl #[.pointer (some ⟨gb222, 0, none⟩)] rfl (by (try simp only [List.map_toArray, List.map_cons, List.map_nil]); first | done | rfl | (simp only [List.length_drop, List.length_take]; rfl)) ?_; (with_reducible refine (spec_l7Fault.calls k _ ([(⟨a0_0, l0_1⟩ : S62)]).length [(⟨a0_0, l0_1⟩ : S62)] t223 _ ?side1 ?side2 A2.out).mono ?_); (case side1 => exact Kd.C_box (by (with_reducible repeat (first | refine blk_drewN ?_ _ | refine blk_drew ?_ | refine blk_alloc ?_ _)); exact BK222.out) ⟨[.int .i64 a0_0], [.slice A0_1 l0_1.length c0_1], rfl, rfl, ⟨_, _, rfl, (by exact HC0_1.out), (by repeat (first | exact (Kd.C_below HR0_1.out HB.out) | (with_reducible refine Kd.C_alloc ?_ _) | (with_reducible refine Kd.C_drewN ?_ _) | (with_reducible refine Kd.C_drew ?_)))⟩⟩); (case side2 => exact Nat.le_refl _); rintro e w' ⟨rfl, ⟨nd, rfl⟩⟩; refine ⟨_, rfl, ?_⟩))
  go_ret
  exact ⟨by first | rfl | (simp [errW_none, errW_some] <;> rfl) | (simp [*, errW_none, errW_some] <;> rfl), by repeat (first | (with_reducible first | exact HB.out | apply below_alloc | apply pw_below_drewN | apply below_drew1 | refine below_set ?_ GE222.out) | exact HB.out)⟩

end Go.Proofs.Ytfbgfakdflifdaa.PFnExactStoreFault

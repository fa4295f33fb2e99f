/- Functions of the program as Lean functions, each with the proof that its call comes to what that function says (texts written by a program of this session). Conditions: those that stand in each theorem. -/
import Derived.Test.YtlneiofnmbcheaaPFnExactTermsFaultx0
import Derived.Test.YtlneiofnmbcheaaPFnExactTermsFaultx2
namespace Go.Proofs.Ytlneiofnmbcheaa.PFnExactTermsFault
open Go.RowKit Go.Proofs.YtlneiofnmbcheaaW.PrintWords Go.Proofs.YtlneiofnmbcheaaW.PrintLast Go.Proofs.YtlneiofnmbcheaaW.PrintMore
attribute [local go_sem] max2_int min2_int max_two min_two max_three min_three max_four min_four   -- for this text's walks alone
set_option linter.unusedVariables false
set_option linter.unusedSimpArgs false

/-! ### spec_l12Form: function 144 -/
def spec_l12Form.j0 : Nat → List (S115) → Bool → Option (Bool)
  | 0, _, _ => none
  | k + 1, x0, x23 => if x23 = true then (some false) else (if 0 < (x0.length : Int) then ((spec_l12Has.f ((rd_T115 x0 0).f0)).bind fun t163 => (if t163 = true then (if ((rd_T115 x0 0).f0) = 8 then ((spec_l12Two.f ((rd_T115 x0 0).f0)).bind fun t165 => (if t165 = true then (if ((rd_T115 x0 0).f0) ≥ 9 then (some true) else (some (((rd_T115 x0 0).f4) == 0))) else (if ((rd_T115 x0 0).f5) = 0 then (if ((rd_T115 x0 0).f0) ≥ 9 then (some true) else (some (((rd_T115 x0 0).f4) == 0))) else (some false)))) else (if (((rd_T115 x0 0).f3).length : Int) > 0 then (some false) else ((spec_l12Two.f ((rd_T115 x0 0).f0)).bind fun t167 => (if t167 = true then (if ((rd_T115 x0 0).f0) ≥ 9 then (some true) else (some (((rd_T115 x0 0).f4) == 0))) else (if ((rd_T115 x0 0).f5) = 0 then (if ((rd_T115 x0 0).f0) ≥ 9 then (some true) else (some (((rd_T115 x0 0).f4) == 0))) else (some false)))))) else (if (((rd_T115 x0 0).f2).length : Int) > 0 then (some false) else (if ((rd_T115 x0 0).f0) = 8 then ((spec_l12Two.f ((rd_T115 x0 0).f0)).bind fun t169 => (if t169 = true then (if ((rd_T115 x0 0).f0) ≥ 9 then (some true) else (some (((rd_T115 x0 0).f4) == 0))) else (if ((rd_T115 x0 0).f5) = 0 then (if ((rd_T115 x0 0).f0) ≥ 9 then (some true) else (some (((rd_T115 x0 0).f4) == 0))) else (some false)))) else (if (((rd_T115 x0 0).f3).length : Int) > 0 then (some false) else ((spec_l12Two.f ((rd_T115 x0 0).f0)).bind fun t171 => (if t171 = true then (if ((rd_T115 x0 0).f0) ≥ 9 then (some true) else (some (((rd_T115 x0 0).f4) == 0))) else (if ((rd_T115 x0 0).f5) = 0 then (if ((rd_T115 x0 0).f0) ≥ 9 then (some true) else (some (((rd_T115 x0 0).f4) == 0))) else (some false))))))))) else (none))
def spec_l12Form.f (k : Nat) (l0 : List (S115)) : Option (Bool) := if 0 < (l0.length : Int) then ((spec_l1In.f ((rd_T115 l0 0).f0) 1 11).bind fun t160 => (if t160 = true then ((spec_l1In.f ((rd_T115 l0 0).f0) 2 5).bind fun t161 => (if t161 = true then (spec_l12Form.j0 k l0 false) else (spec_l12Form.j0 k l0 (((rd_T115 l0 0).f1) != 0)))) else (spec_l12Form.j0 k l0 true))) else (none)
theorem spec_l12Form.mono_l : ∀ k, (∀ y0 y1, LeO (spec_l12Form.j0 k y0 y1) (spec_l12Form.j0 (k + 1) y0 y1))
  | 0 => fun _ _ r h => by simp [spec_l12Form.j0] at h
  | k + 1 => by
    have ih0 := spec_l12Form.mono_l k
    · intro y0 y1
      unfold spec_l12Form.j0
      repeat' first
      | (with_reducible exact ih0 _ _)
      | (with_reducible exact LeO.refl _)
      | (with_reducible exact LeO.none _)
      | (with_reducible refine LeO.ite ?_ ?_)
      | (with_reducible refine LeO.bind ?_ (fun _ => ?_))
      | exact ih0 _ _
      | exact LeO.none _
      | refine LeO.ite ?_ ?_
      | refine LeO.bind ?_ (fun _ => ?_)
theorem spec_l12Form.mono : ∀ a0 k, LeO (spec_l12Form.f k a0) (spec_l12Form.f (k + 1) a0) := by
  intro a0 k
  have ih0 := spec_l12Form.mono_l k
  unfold spec_l12Form.f
  repeat' first
      | (with_reducible exact ih0 _ _)
      | (with_reducible exact LeO.refl _)
      | (with_reducible exact LeO.none _)
      | (with_reducible refine LeO.ite ?_ ?_)
      | (with_reducible refine LeO.bind ?_ (fun _ => ?_))
      | exact ih0 _ _
      | exact LeO.none _
      | refine LeO.ite ?_ ?_
      | refine LeO.bind ?_ (fun _ => ?_)
set_option maxHeartbeats 8000000 in
set_option maxRecDepth 100000 in
theorem spec_l12Form.calls (k : Nat) (A0 : Option Addr) (c0 : Nat) (l0 : List (S115)) (r : Bool) (w : World) (hr0 : Kd.C k115 w A0 l0.length l0) (hc0 : l0.length ≤ c0) (h : spec_l12Form.f k l0 = some r) :
    Calls Try.prog 144 #[.pointer A0] w fun e w' => e = .returned (.bool r) ∧ Drawn0 w w' := by
  have HR0 := Aside0.mk hr0
  have HC0 := Aside0.mk hc0
  clear hr0 hc0
  have H : (if 0 < (l0.length : Int) then ((spec_l1In.f ((rd_T115 l0 0).f0) 1 11).bind fun t160 => (if t160 = true then ((spec_l1In.f ((rd_T115 l0 0).f0) 2 5).bind fun t161 => (if t161 = true then (spec_l12Form.j0 k l0 false) else (spec_l12Form.j0 k l0 (((rd_T115 l0 0).f1) != 0)))) else (spec_l12Form.j0 k l0 true))) else (none)) = some r := h
  clear h
  have HC2 := Aside0.mk H
  clear H
  go_enter Try.func144, Try.ntmps144
  go_upto_region 1 with (fail)
  go_cut [23] (fun v23 wc => ∃ (kq : Nat) (x23_1 : Bool), v23 = .bool x23_1 ∧ Aside0 (spec_l12Form.j0 kq l0 x23_1 = some r) ∧ Aside0 (kq ≤ k) ∧ Drawn0 w wc)
  case first =>
    have H := HC2.out
    clear HC2
    by_cases c3 : 0 < (l0.length : Int)
    · rw [if_pos c3] at H
      have c3b0 : decide (0 < (l0.length : Int)) = true := decide_eq_true c3
      have c3b1 : decide (0 < l0.length) = true := decide_eq_true (by omega)
      clear c3
      (first | rw [c3b0] | (simp only [i64_w, i32_w]; rw [c3b0]) | skip)
      replace H := Option.bind_eq_some_iff.mp H
      obtain ⟨t160, A40, H⟩ := H
      replace H : (if t160 = true then ((spec_l1In.f ((rd_T115 l0 0).f0) 2 5).bind fun t161 => (if t161 = true then (spec_l12Form.j0 k l0 false) else (spec_l12Form.j0 k l0 (((rd_T115 l0 0).f1) != 0)))) else (spec_l12Form.j0 k l0 true)) = some r := H
      have A4 := Aside0.mk A40
      clear A40
      by_cases c5 : t160 = true
      · subst c5
        have H1 : ((spec_l1In.f ((rd_T115 l0 0).f0) 2 5).bind fun t161 => (if t161 = true then (spec_l12Form.j0 k l0 false) else (spec_l12Form.j0 k l0 (((rd_T115 l0 0).f1) != 0)))) = some r := by rw [if_pos rfl] at H; exact H
        clear H
        have H := H1
        clear H1
        replace H := Option.bind_eq_some_iff.mp H
        obtain ⟨t161, A60, H⟩ := H
        replace H : (if t161 = true then (spec_l12Form.j0 k l0 false) else (spec_l12Form.j0 k l0 (((rd_T115 l0 0).f1) != 0))) = some r := H
        have A6 := Aside0.mk A60
        clear A60
        by_cases c7 : t161 = true
        · subst c7
          have H1 : (spec_l12Form.j0 k l0 false) = some r := by rw [if_pos rfl] at H; exact H
          clear H
          have H := H1
          clear H1
          have H' := Aside0.mk H
          clear H
          have p159 : 0 ≤ (0 : Int) := (by omega)
          have q159 : 0 < (l0.length : Int) := of_decide_eq_true (by first | (with_reducible assumption) | assumption)
          obtain ⟨ad159, A159_2, c159_2, A159_3, c159_3, e159, hx159_0, hx159_1, hx159_2, hx159_3, hx159_4, hx159_5, hl159_2, hi159_2, hl159_3, hi159_3⟩ := at_T115 HR0.out 0 p159 q159
          cases e159
          have qi159 : (0 < l0.length) = True := eq_true (by omega)
          (try rw [show ((0 : Int)).toNat = 0 from rfl] at hx159_0)
          (try rw [show 0 * 6 = 0 from rfl] at hx159_0)
          (try rw [Addr.add_zero'] at hx159_0)
          (try rw [show ((0 : Int)).toNat = 0 from rfl] at hx159_1)
          (try rw [show 0 * 6 = 0 from rfl] at hx159_1)
          (try rw [Addr.add_zero'] at hx159_1)
          (try rw [show ((0 : Int)).toNat = 0 from rfl] at hx159_2)
          (try rw [show 0 * 6 = 0 from rfl] at hx159_2)
          (try rw [Addr.add_zero'] at hx159_2)
          (try rw [show ((0 : Int)).toNat = 0 from rfl] at hx159_3)
          (try rw [show 0 * 6 = 0 from rfl] at hx159_3)
          (try rw [Addr.add_zero'] at hx159_3)
          (try rw [show ((0 : Int)).toNat = 0 from rfl] at hx159_4)
          (try rw [show 0 * 6 = 0 from rfl] at hx159_4)
          (try rw [Addr.add_zero'] at hx159_4)
          (try rw [show ((0 : Int)).toNat = 0 from rfl] at hx159_5)
          (try rw [show 0 * 6 = 0 from rfl] at hx159_5)
          (try rw [Addr.add_zero'] at hx159_5)
          have HR159_2 := Aside0.mk hi159_2
          have HC159_2 := Aside0.mk hl159_2
          clear hi159_2 hl159_2
          have HR159_3 := Aside0.mk hi159_3
          have HC159_3 := Aside0.mk hl159_3
          clear hi159_3 hl159_3
          replace p159 := eq_true p159
          replace q159 := eq_true q159
          go_wp2_with (first | ((with_reducible refine gate_callee (f := 73) rfl ?_); refine goesL_ (some 7) rfl rfl Try.func73 (by kernel_rfl) rfl #[.int .i64 ((rd_T115 l0 0).f0), .int .i64 1, .int .i64 11] rfl (by (try simp only [List.map_toArray, List.map_cons, List.map_nil]); first | done | rfl | (simp only [List.length_drop, List.length_take]; rfl)) ?_; (with_reducible refine (spec_l1In.calls ((rd_T115 l0 0).f0) 1 11 true _ A4.out).mono ?_); rintro e w' ⟨rfl, ⟨nd, rfl⟩⟩; refine ⟨_, rfl, ?_⟩) | (go_at_call 73; (with_reducible refine (spec_l1In.calls ((rd_T115 l0 0).f0) 2 5 true _ A6.out).mono ?_); rintro e w' ⟨rfl, ⟨nd, rfl⟩⟩))
          go_meet
          case rel => exact ⟨_, (false), (by first | rfl | (simp; done) | (simp [*]; done) | (simp; generalize ByteArray.toList _ = zq_; cases zq_ <;> rfl)), H', ⟨by first | omega | exact Nat.le_refl _⟩, by repeat (first | exact Drawn0.refl _ | apply Drawn0.step)⟩
        · replace c7 := Bool.eq_false_iff.mpr c7
          subst c7
          have H1 : (spec_l12Form.j0 k l0 (((rd_T115 l0 0).f1) != 0)) = some r := by rw [if_neg (show ¬ (false = true) by decide)] at H; exact H
          clear H
          have H := H1
          clear H1
          have H' := Aside0.mk H
          clear H
          have p159 : 0 ≤ (0 : Int) := (by omega)
          have q159 : 0 < (l0.length : Int) := of_decide_eq_true (by first | (with_reducible assumption) | assumption)
          obtain ⟨ad159, A159_2, c159_2, A159_3, c159_3, e159, hx159_0, hx159_1, hx159_2, hx159_3, hx159_4, hx159_5, hl159_2, hi159_2, hl159_3, hi159_3⟩ := at_T115 HR0.out 0 p159 q159
          cases e159
          have qi159 : (0 < l0.length) = True := eq_true (by omega)
          (try rw [show ((0 : Int)).toNat = 0 from rfl] at hx159_0)
          (try rw [show 0 * 6 = 0 from rfl] at hx159_0)
          (try rw [Addr.add_zero'] at hx159_0)
          (try rw [show ((0 : Int)).toNat = 0 from rfl] at hx159_1)
          (try rw [show 0 * 6 = 0 from rfl] at hx159_1)
          (try rw [Addr.add_zero'] at hx159_1)
          (try rw [show ((0 : Int)).toNat = 0 from rfl] at hx159_2)
          (try rw [show 0 * 6 = 0 from rfl] at hx159_2)
          (try rw [Addr.add_zero'] at hx159_2)
          (try rw [show ((0 : Int)).toNat = 0 from rfl] at hx159_3)
          (try rw [show 0 * 6 = 0 from rfl] at hx159_3)
          (try rw [Addr.add_zero'] at hx159_3)
          (try rw [show ((0 : Int)).toNat = 0 from rfl] at hx159_4)
          (try rw [show 0 * 6 = 0 from rfl] at hx159_4)
          (try rw [Addr.add_zero'] at hx159_4)
          (try rw [show ((0 : Int)).toNat = 0 from rfl] at hx159_5)
          (try rw [show 0 * 6 = 0 from rfl] at hx159_5)
          (try rw [Addr.add_zero'] at hx159_5)
          have HR159_2 := Aside0.mk hi159_2
          have HC159_2 := Aside0.mk hl159_2
          clear hi159_2 hl159_2
          have HR159_3 := Aside0.mk hi159_3
          have HC159_3 := Aside0.mk hl159_3
          clear hi159_3 hl159_3
          replace p159 := eq_true p159
          replace q159 := eq_true q159
          go_wp2_with (first | ((with_reducible refine gate_callee (f := 73) rfl ?_); refine goesL_ (some 7) rfl rfl Try.func73 (by kernel_rfl) rfl #[.int .i64 ((rd_T115 l0 0).f0), .int .i64 1, .int .i64 11] rfl (by (try simp only [List.map_toArray, List.map_cons, List.map_nil]); first | done | rfl | (simp only [List.length_drop, List.length_take]; rfl)) ?_; (with_reducible refine (spec_l1In.calls ((rd_T115 l0 0).f0) 1 11 true _ A4.out).mono ?_); rintro e w' ⟨rfl, ⟨nd, rfl⟩⟩; refine ⟨_, rfl, ?_⟩) | (go_at_call 73; (with_reducible refine (spec_l1In.calls ((rd_T115 l0 0).f0) 2 5 false _ A6.out).mono ?_); rintro e w' ⟨rfl, ⟨nd, rfl⟩⟩))
          go_meet
          case rel => exact ⟨_, ((((rd_T115 l0 0).f1) != 0)), (by first | rfl | (simp; done) | (simp [*]; done) | (simp; generalize ByteArray.toList _ = zq_; cases zq_ <;> rfl)), H', ⟨by first | omega | exact Nat.le_refl _⟩, by repeat (first | exact Drawn0.refl _ | apply Drawn0.step)⟩
      · replace c5 := Bool.eq_false_iff.mpr c5
        subst c5
        have H1 : (spec_l12Form.j0 k l0 true) = some r := by rw [if_neg (show ¬ (false = true) by decide)] at H; exact H
        clear H
        have H := H1
        clear H1
        have H' := Aside0.mk H
        clear H
        have p159 : 0 ≤ (0 : Int) := (by omega)
        have q159 : 0 < (l0.length : Int) := of_decide_eq_true (by first | (with_reducible assumption) | assumption)
        obtain ⟨ad159, A159_2, c159_2, A159_3, c159_3, e159, hx159_0, hx159_1, hx159_2, hx159_3, hx159_4, hx159_5, hl159_2, hi159_2, hl159_3, hi159_3⟩ := at_T115 HR0.out 0 p159 q159
        cases e159
        have qi159 : (0 < l0.length) = True := eq_true (by omega)
        (try rw [show ((0 : Int)).toNat = 0 from rfl] at hx159_0)
        (try rw [show 0 * 6 = 0 from rfl] at hx159_0)
        (try rw [Addr.add_zero'] at hx159_0)
        (try rw [show ((0 : Int)).toNat = 0 from rfl] at hx159_1)
        (try rw [show 0 * 6 = 0 from rfl] at hx159_1)
        (try rw [Addr.add_zero'] at hx159_1)
        (try rw [show ((0 : Int)).toNat = 0 from rfl] at hx159_2)
        (try rw [show 0 * 6 = 0 from rfl] at hx159_2)
        (try rw [Addr.add_zero'] at hx159_2)
        (try rw [show ((0 : Int)).toNat = 0 from rfl] at hx159_3)
        (try rw [show 0 * 6 = 0 from rfl] at hx159_3)
        (try rw [Addr.add_zero'] at hx159_3)
        (try rw [show ((0 : Int)).toNat = 0 from rfl] at hx159_4)
        (try rw [show 0 * 6 = 0 from rfl] at hx159_4)
        (try rw [Addr.add_zero'] at hx159_4)
        (try rw [show ((0 : Int)).toNat = 0 from rfl] at hx159_5)
        (try rw [show 0 * 6 = 0 from rfl] at hx159_5)
        (try rw [Addr.add_zero'] at hx159_5)
        have HR159_2 := Aside0.mk hi159_2
        have HC159_2 := Aside0.mk hl159_2
        clear hi159_2 hl159_2
        have HR159_3 := Aside0.mk hi159_3
        have HC159_3 := Aside0.mk hl159_3
        clear hi159_3 hl159_3
        replace p159 := eq_true p159
        replace q159 := eq_true q159
        go_wp2_with (first | ((with_reducible refine gate_callee (f := 73) rfl ?_); refine goesL_ (some 7) rfl rfl Try.func73 (by kernel_rfl) rfl #[.int .i64 ((rd_T115 l0 0).f0), .int .i64 1, .int .i64 11] rfl (by (try simp only [List.map_toArray, List.map_cons, List.map_nil]); first | done | rfl | (simp only [List.length_drop, List.length_take]; rfl)) ?_; (with_reducible refine (spec_l1In.calls ((rd_T115 l0 0).f0) 1 11 false _ A4.out).mono ?_); rintro e w' ⟨rfl, ⟨nd, rfl⟩⟩; refine ⟨_, rfl, ?_⟩))
        go_meet
        case rel => exact ⟨_, (true), (by first | rfl | (simp; done) | (simp [*]; done) | (simp; generalize ByteArray.toList _ = zq_; cases zq_ <;> rfl)), H', ⟨by first | omega | exact Nat.le_refl _⟩, by repeat (first | exact Drawn0.refl _ | apply Drawn0.step)⟩
    · rw [if_neg c3] at H
      exact absurd H (by simp)
  case rest =>
    clear HC2
    try clear c1
    try clear p1
    try clear q1
    try clear hx1
    try clear qi1
    try clear p2
    try clear c3
    try clear c3b0
    try clear c3b1
    try clear c5
    try clear c7
    try clear hx159_0
    try clear hx159_1
    try clear hx159_2
    try clear hx159_3
    try clear hx159_4
    try clear hx159_5
    try clear p159
    try clear q159
    obtain ⟨kq, x23_1, rfl, HA, HJ1, ⟨mc1, rfl⟩⟩ := hcut
    cases kq with
    | zero => exact absurd HA.out (by simp [spec_l12Form.j0])
    | succ kj1 =>
      have H := HA.out
      clear HA
      simp only [spec_l12Form.j0] at H
      by_cases c8 : x23_1 = true
      · subst c8
        have H1 : (some false) = some r := by rw [if_pos rfl] at H; exact H
        clear H
        have H := H1
        clear H1
        obtain rfl := Option.some.inj H
        go_wp2
        go_ret
        exact ⟨by first | rfl | (simp; done) | (simp [*]; done) | (simp; generalize ByteArray.toList _ = zq_; cases zq_ <;> rfl), by repeat (first | exact Drawn0.refl _ | apply Drawn0.step)⟩
      · replace c8 := Bool.eq_false_iff.mpr c8
        subst c8
        have H1 : (if 0 < (l0.length : Int) then ((spec_l12Has.f ((rd_T115 l0 0).f0)).bind fun t163 => (if t163 = true then (if ((rd_T115 l0 0).f0) = 8 then ((spec_l12Two.f ((rd_T115 l0 0).f0)).bind fun t165 => (if t165 = true then (if ((rd_T115 l0 0).f0) ≥ 9 then (some true) else (some (((rd_T115 l0 0).f4) == 0))) else (if ((rd_T115 l0 0).f5) = 0 then (if ((rd_T115 l0 0).f0) ≥ 9 then (some true) else (some (((rd_T115 l0 0).f4) == 0))) else (some false)))) else (if (((rd_T115 l0 0).f3).length : Int) > 0 then (some false) else ((spec_l12Two.f ((rd_T115 l0 0).f0)).bind fun t167 => (if t167 = true then (if ((rd_T115 l0 0).f0) ≥ 9 then (some true) else (some (((rd_T115 l0 0).f4) == 0))) else (if ((rd_T115 l0 0).f5) = 0 then (if ((rd_T115 l0 0).f0) ≥ 9 then (some true) else (some (((rd_T115 l0 0).f4) == 0))) else (some false)))))) else (if (((rd_T115 l0 0).f2).length : Int) > 0 then (some false) else (if ((rd_T115 l0 0).f0) = 8 then ((spec_l12Two.f ((rd_T115 l0 0).f0)).bind fun t169 => (if t169 = true then (if ((rd_T115 l0 0).f0) ≥ 9 then (some true) else (some (((rd_T115 l0 0).f4) == 0))) else (if ((rd_T115 l0 0).f5) = 0 then (if ((rd_T115 l0 0).f0) ≥ 9 then (some true) else (some (((rd_T115 l0 0).f4) == 0))) else (some false)))) else (if (((rd_T115 l0 0).f3).length : Int) > 0 then (some false) else ((spec_l12Two.f ((rd_T115 l0 0).f0)).bind fun t171 => (if t171 = true then (if ((rd_T115 l0 0).f0) ≥ 9 then (some true) else (some (((rd_T115 l0 0).f4) == 0))) else (if ((rd_T115 l0 0).f5) = 0 then (if ((rd_T115 l0 0).f0) ≥ 9 then (some true) else (some (((rd_T115 l0 0).f4) == 0))) else (some false))))))))) else (none)) = some r := by rw [if_neg (show ¬ (false = true) by decide)] at H; exact H
        clear H
        have H := H1
        clear H1
        by_cases c9 : 0 < (l0.length : Int)
        · rw [if_pos c9] at H
          have c9b0 : decide (0 < (l0.length : Int)) = true := decide_eq_true c9
          have c9b1 : decide (0 < l0.length) = true := decide_eq_true (by omega)
          clear c9
          replace H := Option.bind_eq_some_iff.mp H
          obtain ⟨t163, A100, H⟩ := H
          replace H : (if t163 = true then (if ((rd_T115 l0 0).f0) = 8 then ((spec_l12Two.f ((rd_T115 l0 0).f0)).bind fun t165 => (if t165 = true then (if ((rd_T115 l0 0).f0) ≥ 9 then (some true) else (some (((rd_T115 l0 0).f4) == 0))) else (if ((rd_T115 l0 0).f5) = 0 then (if ((rd_T115 l0 0).f0) ≥ 9 then (some true) else (some (((rd_T115 l0 0).f4) == 0))) else (some false)))) else (if (((rd_T115 l0 0).f3).length : Int) > 0 then (some false) else ((spec_l12Two.f ((rd_T115 l0 0).f0)).bind fun t167 => (if t167 = true then (if ((rd_T115 l0 0).f0) ≥ 9 then (some true) else (some (((rd_T115 l0 0).f4) == 0))) else (if ((rd_T115 l0 0).f5) = 0 then (if ((rd_T115 l0 0).f0) ≥ 9 then (some true) else (some (((rd_T115 l0 0).f4) == 0))) else (some false)))))) else (if (((rd_T115 l0 0).f2).length : Int) > 0 then (some false) else (if ((rd_T115 l0 0).f0) = 8 then ((spec_l12Two.f ((rd_T115 l0 0).f0)).bind fun t169 => (if t169 = true then (if ((rd_T115 l0 0).f0) ≥ 9 then (some true) else (some (((rd_T115 l0 0).f4) == 0))) else (if ((rd_T115 l0 0).f5) = 0 then (if ((rd_T115 l0 0).f0) ≥ 9 then (some true) else (some (((rd_T115 l0 0).f4) == 0))) else (some false)))) else (if (((rd_T115 l0 0).f3).length : Int) > 0 then (some false) else ((spec_l12Two.f ((rd_T115 l0 0).f0)).bind fun t171 => (if t171 = true then (if ((rd_T115 l0 0).f0) ≥ 9 then (some true) else (some (((rd_T115 l0 0).f4) == 0))) else (if ((rd_T115 l0 0).f5) = 0 then (if ((rd_T115 l0 0).f0) ≥ 9 then (some true) else (some (((rd_T115 l0 0).f4) == 0))) else (some false)))))))) = some r := H
          have A10 := Aside0.mk A100
          clear A100
          by_cases c11 : t163 = true
          · subst c11
            have H1 : (if ((rd_T115 l0 0).f0) = 8 then ((spec_l12Two.f ((rd_T115 l0 0).f0)).bind fun t165 => (if t165 = true then (if ((rd_T115 l0 0).f0) ≥ 9 then (some true) else (some (((rd_T115 l0 0).f4) == 0))) else (if ((rd_T115 l0 0).f5) = 0 then (if ((rd_T115 l0 0).f0) ≥ 9 then (some true) else (some (((rd_T115 l0 0).f4) == 0))) else (some false)))) else (if (((rd_T115 l0 0).f3).length : Int) > 0 then (some false) else ((spec_l12Two.f ((rd_T115 l0 0).f0)).bind fun t167 => (if t167 = true then (if ((rd_T115 l0 0).f0) ≥ 9 then (some true) else (some (((rd_T115 l0 0).f4) == 0))) else (if ((rd_T115 l0 0).f5) = 0 then (if ((rd_T115 l0 0).f0) ≥ 9 then (some true) else (some (((rd_T115 l0 0).f4) == 0))) else (some false)))))) = some r := by rw [if_pos rfl] at H; exact H
            clear H
            have H := H1
            clear H1
            by_cases c12 : ((rd_T115 l0 0).f0) = 8
            · rw [if_pos c12] at H
              have c12b0 : (((rd_T115 l0 0).f0) == 8) = true := beq_iff_eq.mpr c12
              have c12b1 : (((rd_T115 l0 0).f0) != 8) = false := bne_eq_false_iff_eq.mpr c12
              clear c12
              replace H := Option.bind_eq_some_iff.mp H
              obtain ⟨t165, A130, H⟩ := H
              replace H : (if t165 = true then (if ((rd_T115 l0 0).f0) ≥ 9 then (some true) else (some (((rd_T115 l0 0).f4) == 0))) else (if ((rd_T115 l0 0).f5) = 0 then (if ((rd_T115 l0 0).f0) ≥ 9 then (some true) else (some (((rd_T115 l0 0).f4) == 0))) else (some false))) = some r := H
              have A13 := Aside0.mk A130
              clear A130
              by_cases c14 : t165 = true
              · subst c14
                have H1 : (if ((rd_T115 l0 0).f0) ≥ 9 then (some true) else (some (((rd_T115 l0 0).f4) == 0))) = some r := by rw [if_pos rfl] at H; exact H
                clear H
                have H := H1
                clear H1
                by_cases c15 : ((rd_T115 l0 0).f0) ≥ 9
                · rw [if_pos c15] at H
                  have c15b0 : decide (9 ≤ ((rd_T115 l0 0).f0)) = true := decide_eq_true c15
                  clear c15
                  obtain rfl := Option.some.inj H
                  have p162 : 0 ≤ (0 : Int) := (by omega)
                  have q162 : 0 < (l0.length : Int) := of_decide_eq_true (by first | (with_reducible assumption) | assumption)
                  obtain ⟨ad162, A162_2, c162_2, A162_3, c162_3, e162, hx162_0, hx162_1, hx162_2, hx162_3, hx162_4, hx162_5, hl162_2, hi162_2, hl162_3, hi162_3⟩ := at_T115 HR0.out 0 p162 q162
                  cases e162
                  have qi162 : (0 < l0.length) = True := eq_true (by omega)
                  (try rw [show ((0 : Int)).toNat = 0 from rfl] at hx162_0)
                  (try rw [show 0 * 6 = 0 from rfl] at hx162_0)
                  (try rw [Addr.add_zero'] at hx162_0)
                  (try rw [show ((0 : Int)).toNat = 0 from rfl] at hx162_1)
                  (try rw [show 0 * 6 = 0 from rfl] at hx162_1)
                  (try rw [Addr.add_zero'] at hx162_1)
                  (try rw [show ((0 : Int)).toNat = 0 from rfl] at hx162_2)
                  (try rw [show 0 * 6 = 0 from rfl] at hx162_2)
                  (try rw [Addr.add_zero'] at hx162_2)
                  (try rw [show ((0 : Int)).toNat = 0 from rfl] at hx162_3)
                  (try rw [show 0 * 6 = 0 from rfl] at hx162_3)
                  (try rw [Addr.add_zero'] at hx162_3)
                  (try rw [show ((0 : Int)).toNat = 0 from rfl] at hx162_4)
                  (try rw [show 0 * 6 = 0 from rfl] at hx162_4)
                  (try rw [Addr.add_zero'] at hx162_4)
                  (try rw [show ((0 : Int)).toNat = 0 from rfl] at hx162_5)
                  (try rw [show 0 * 6 = 0 from rfl] at hx162_5)
                  (try rw [Addr.add_zero'] at hx162_5)
                  have HR162_2 := Aside0.mk hi162_2
                  have HC162_2 := Aside0.mk hl162_2
                  clear hi162_2 hl162_2
                  have HR162_3 := Aside0.mk hi162_3
                  have HC162_3 := Aside0.mk hl162_3
                  clear hi162_3 hl162_3
                  replace p162 := eq_true p162
                  replace q162 := eq_true q162
                  (try clear hx159_0 hx159_1 hx159_2 hx159_3 hx159_4 hx159_5)
                  (try clear hx159_0 hx159_1 hx159_2 hx159_3 hx159_4 hx159_5)
                  (try clear hx159_0 hx159_1 hx159_2 hx159_3 hx159_4 hx159_5)
                  go_wp2_with (first | ((with_reducible refine gate_callee (f := 170) rfl ?_); refine goesL_ (some 28) rfl rfl Try.func170 (by kernel_rfl) rfl #[.int .i64 ((rd_T115 l0 0).f0)] rfl (by (try simp only [List.map_toArray, List.map_cons, List.map_nil]); first | done | rfl | (simp only [List.length_drop, List.length_take]; rfl)) ?_; (with_reducible refine (spec_l12Has.calls ((rd_T115 l0 0).f0) true _ A10.out).mono ?_); rintro e w' ⟨rfl, ⟨nd, rfl⟩⟩; refine ⟨_, rfl, ?_⟩; have p164 : 0 ≤ (0 : Int) := (by omega); have q164 : 0 < (l0.length : Int) := of_decide_eq_true (by first | (with_reducible assumption) | assumption); obtain ⟨ad164, A164_2, c164_2, A164_3, c164_3, e164, hx164_0, hx164_1, hx164_2, hx164_3, hx164_4, hx164_5, hl164_2, hi164_2, hl164_3, hi164_3⟩ := at_T115 HR0.out 0 p164 q164; obtain rfl : ad162 = ad164 := (by injection e164); have qi164 : (0 < l0.length) = True := eq_true (by omega); (try rw [show ((0 : Int)).toNat = 0 from rfl] at hx164_0); (try rw [show 0 * 6 = 0 from rfl] at hx164_0); (try rw [Addr.add_zero'] at hx164_0); (try rw [show ((0 : Int)).toNat = 0 from rfl] at hx164_1); (try rw [show 0 * 6 = 0 from rfl] at hx164_1); (try rw [Addr.add_zero'] at hx164_1); (try rw [show ((0 : Int)).toNat = 0 from rfl] at hx164_2); (try rw [show 0 * 6 = 0 from rfl] at hx164_2); (try rw [Addr.add_zero'] at hx164_2); (try rw [show ((0 : Int)).toNat = 0 from rfl] at hx164_3); (try rw [show 0 * 6 = 0 from rfl] at hx164_3); (try rw [Addr.add_zero'] at hx164_3); (try rw [show ((0 : Int)).toNat = 0 from rfl] at hx164_4); (try rw [show 0 * 6 = 0 from rfl] at hx164_4); (try rw [Addr.add_zero'] at hx164_4); (try rw [show ((0 : Int)).toNat = 0 from rfl] at hx164_5); (try rw [show 0 * 6 = 0 from rfl] at hx164_5); (try rw [Addr.add_zero'] at hx164_5); have HR164_2 := Aside0.mk hi164_2; have HC164_2 := Aside0.mk hl164_2; clear hi164_2 hl164_2; have HR164_3 := Aside0.mk hi164_3; have HC164_3 := Aside0.mk hl164_3; clear hi164_3 hl164_3; replace p164 := eq_true p164; replace q164 := eq_true q164; have ea_ := Option.some.inj (hx162_2.symm.trans hx164_2); injection ea_ with ea_ en_ ec_; subst ea_; subst ec_; clear en_; have ea_ := Option.some.inj (hx162_3.symm.trans hx164_3); injection ea_ with ea_ en_ ec_; subst ea_; subst ec_; clear en_; (try clear hx164_0); (try clear hx164_1); (try clear hx164_2); (try clear hx164_3); (try clear hx164_4); (try clear hx164_5); (try clear qi164)) | ((with_reducible refine gate_callee (f := 171) rfl ?_); refine goesL_ (some 57) rfl rfl Try.func171 (by kernel_rfl) rfl #[.int .i64 ((rd_T115 l0 0).f0)] rfl (by (try simp only [List.map_toArray, List.map_cons, List.map_nil]); first | done | rfl | (simp only [List.length_drop, List.length_take]; rfl)) ?_; (with_reducible refine (spec_l12Two.calls ((rd_T115 l0 0).f0) true _ A13.out).mono ?_); rintro e w' ⟨rfl, ⟨nd, rfl⟩⟩; refine ⟨_, rfl, ?_⟩))
                  go_ret
                  exact ⟨by first | rfl | (simp; done) | (simp [*]; done) | (simp; generalize ByteArray.toList _ = zq_; cases zq_ <;> rfl), by repeat (first | exact Drawn0.refl _ | apply Drawn0.step)⟩
                · rw [if_neg c15] at H
                  have c15b0 : decide (9 ≤ ((rd_T115 l0 0).f0)) = false := decide_eq_false c15
                  clear c15
                  obtain rfl := Option.some.inj H
                  have p162 : 0 ≤ (0 : Int) := (by omega)
                  have q162 : 0 < (l0.length : Int) := of_decide_eq_true (by first | (with_reducible assumption) | assumption)
                  obtain ⟨ad162, A162_2, c162_2, A162_3, c162_3, e162, hx162_0, hx162_1, hx162_2, hx162_3, hx162_4, hx162_5, hl162_2, hi162_2, hl162_3, hi162_3⟩ := at_T115 HR0.out 0 p162 q162
                  cases e162
                  have qi162 : (0 < l0.length) = True := eq_true (by omega)
                  (try rw [show ((0 : Int)).toNat = 0 from rfl] at hx162_0)
                  (try rw [show 0 * 6 = 0 from rfl] at hx162_0)
                  (try rw [Addr.add_zero'] at hx162_0)
                  (try rw [show ((0 : Int)).toNat = 0 from rfl] at hx162_1)
                  (try rw [show 0 * 6 = 0 from rfl] at hx162_1)
                  (try rw [Addr.add_zero'] at hx162_1)
                  (try rw [show ((0 : Int)).toNat = 0 from rfl] at hx162_2)
                  (try rw [show 0 * 6 = 0 from rfl] at hx162_2)
                  (try rw [Addr.add_zero'] at hx162_2)
                  (try rw [show ((0 : Int)).toNat = 0 from rfl] at hx162_3)
                  (try rw [show 0 * 6 = 0 from rfl] at hx162_3)
                  (try rw [Addr.add_zero'] at hx162_3)
                  (try rw [show ((0 : Int)).toNat = 0 from rfl] at hx162_4)
                  (try rw [show 0 * 6 = 0 from rfl] at hx162_4)
                  (try rw [Addr.add_zero'] at hx162_4)
                  (try rw [show ((0 : Int)).toNat = 0 from rfl] at hx162_5)
                  (try rw [show 0 * 6 = 0 from rfl] at hx162_5)
                  (try rw [Addr.add_zero'] at hx162_5)
                  have HR162_2 := Aside0.mk hi162_2
                  have HC162_2 := Aside0.mk hl162_2
                  clear hi162_2 hl162_2
                  have HR162_3 := Aside0.mk hi162_3
                  have HC162_3 := Aside0.mk hl162_3
                  clear hi162_3 hl162_3
                  replace p162 := eq_true p162
                  replace q162 := eq_true q162
                  (try clear hx159_0 hx159_1 hx159_2 hx159_3 hx159_4 hx159_5)
                  (try clear hx159_0 hx159_1 hx159_2 hx159_3 hx159_4 hx159_5)
                  (try clear hx159_0 hx159_1 hx159_2 hx159_3 hx159_4 hx159_5)
                  go_wp2_with (first | ((with_reducible refine gate_callee (f := 170) rfl ?_); refine goesL_ (some 28) rfl rfl Try.func170 (by kernel_rfl) rfl #[.int .i64 ((rd_T115 l0 0).f0)] rfl (by (try simp only [List.map_toArray, List.map_cons, List.map_nil]); first | done | rfl | (simp only [List.length_drop, List.length_take]; rfl)) ?_; (with_reducible refine (spec_l12Has.calls ((rd_T115 l0 0).f0) true _ A10.out).mono ?_); rintro e w' ⟨rfl, ⟨nd, rfl⟩⟩; refine ⟨_, rfl, ?_⟩; have p164 : 0 ≤ (0 : Int) := (by omega); have q164 : 0 < (l0.length : Int) := of_decide_eq_true (by first | (with_reducible assumption) | assumption); obtain ⟨ad164, A164_2, c164_2, A164_3, c164_3, e164, hx164_0, hx164_1, hx164_2, hx164_3, hx164_4, hx164_5, hl164_2, hi164_2, hl164_3, hi164_3⟩ := at_T115 HR0.out 0 p164 q164; obtain rfl : ad162 = ad164 := (by injection e164); have qi164 : (0 < l0.length) = True := eq_true (by omega); (try rw [show ((0 : Int)).toNat = 0 from rfl] at hx164_0); (try rw [show 0 * 6 = 0 from rfl] at hx164_0); (try rw [Addr.add_zero'] at hx164_0); (try rw [show ((0 : Int)).toNat = 0 from rfl] at hx164_1); (try rw [show 0 * 6 = 0 from rfl] at hx164_1); (try rw [Addr.add_zero'] at hx164_1); (try rw [show ((0 : Int)).toNat = 0 from rfl] at hx164_2); (try rw [show 0 * 6 = 0 from rfl] at hx164_2); (try rw [Addr.add_zero'] at hx164_2); (try rw [show ((0 : Int)).toNat = 0 from rfl] at hx164_3); (try rw [show 0 * 6 = 0 from rfl] at hx164_3); (try rw [Addr.add_zero'] at hx164_3); (try rw [show ((0 : Int)).toNat = 0 from rfl] at hx164_4); (try rw [show 0 * 6 = 0 from rfl] at hx164_4); (try rw [Addr.add_zero'] at hx164_4); (try rw [show ((0 : Int)).toNat = 0 from rfl] at hx164_5); (try rw [show 0 * 6 = 0 from rfl] at hx164_5); (try rw [Addr.add_zero'] at hx164_5); have HR164_2 := Aside0.mk hi164_2; have HC164_2 := Aside0.mk hl164_2; clear hi164_2 hl164_2; have HR164_3 := Aside0.mk hi164_3; have HC164_3 := Aside0.mk hl164_3; clear hi164_3 hl164_3; replace p164 := eq_true p164; replace q164 := eq_true q164; have ea_ := Option.some.inj (hx162_2.symm.trans hx164_2); injection ea_ with ea_ en_ ec_; subst ea_; subst ec_; clear en_; have ea_ := Option.some.inj (hx162_3.symm.trans hx164_3); injection ea_ with ea_ en_ ec_; subst ea_; subst ec_; clear en_; (try clear hx164_0); (try clear hx164_1); (try clear hx164_2); (try clear hx164_3); (try clear hx164_4); (try clear hx164_5); (try clear qi164)) | ((with_reducible refine gate_callee (f := 171) rfl ?_); refine goesL_ (some 57) rfl rfl Try.func171 (by kernel_rfl) rfl #[.int .i64 ((rd_T115 l0 0).f0)] rfl (by (try simp only [List.map_toArray, List.map_cons, List.map_nil]); first | done | rfl | (simp only [List.length_drop, List.length_take]; rfl)) ?_; (with_reducible refine (spec_l12Two.calls ((rd_T115 l0 0).f0) true _ A13.out).mono ?_); rintro e w' ⟨rfl, ⟨nd, rfl⟩⟩; refine ⟨_, rfl, ?_⟩))
                  go_ret
                  exact ⟨by first | rfl | (simp; done) | (simp [*]; done) | (simp; generalize ByteArray.toList _ = zq_; cases zq_ <;> rfl), by repeat (first | exact Drawn0.refl _ | apply Drawn0.step)⟩
              · replace c14 := Bool.eq_false_iff.mpr c14
                subst c14
                have H1 : (if ((rd_T115 l0 0).f5) = 0 then (if ((rd_T115 l0 0).f0) ≥ 9 then (some true) else (some (((rd_T115 l0 0).f4) == 0))) else (some false)) = some r := by rw [if_neg (show ¬ (false = true) by decide)] at H; exact H
                clear H
                have H := H1
                clear H1
                by_cases c16 : ((rd_T115 l0 0).f5) = 0
                · rw [if_pos c16] at H
                  have c16b0 : (((rd_T115 l0 0).f5) == 0) = true := beq_iff_eq.mpr c16
                  have c16b1 : (((rd_T115 l0 0).f5) != 0) = false := bne_eq_false_iff_eq.mpr c16
                  clear c16
                  by_cases c17 : ((rd_T115 l0 0).f0) ≥ 9
                  · rw [if_pos c17] at H
                    have c17b0 : decide (9 ≤ ((rd_T115 l0 0).f0)) = true := decide_eq_true c17
                    clear c17
                    obtain rfl := Option.some.inj H
                    have p162 : 0 ≤ (0 : Int) := (by omega)
                    have q162 : 0 < (l0.length : Int) := of_decide_eq_true (by first | (with_reducible assumption) | assumption)
                    obtain ⟨ad162, A162_2, c162_2, A162_3, c162_3, e162, hx162_0, hx162_1, hx162_2, hx162_3, hx162_4, hx162_5, hl162_2, hi162_2, hl162_3, hi162_3⟩ := at_T115 HR0.out 0 p162 q162
                    cases e162
                    have qi162 : (0 < l0.length) = True := eq_true (by omega)
                    (try rw [show ((0 : Int)).toNat = 0 from rfl] at hx162_0)
                    (try rw [show 0 * 6 = 0 from rfl] at hx162_0)
                    (try rw [Addr.add_zero'] at hx162_0)
                    (try rw [show ((0 : Int)).toNat = 0 from rfl] at hx162_1)
                    (try rw [show 0 * 6 = 0 from rfl] at hx162_1)
                    (try rw [Addr.add_zero'] at hx162_1)
                    (try rw [show ((0 : Int)).toNat = 0 from rfl] at hx162_2)
                    (try rw [show 0 * 6 = 0 from rfl] at hx162_2)
                    (try rw [Addr.add_zero'] at hx162_2)
                    (try rw [show ((0 : Int)).toNat = 0 from rfl] at hx162_3)
                    (try rw [show 0 * 6 = 0 from rfl] at hx162_3)
                    (try rw [Addr.add_zero'] at hx162_3)
                    (try rw [show ((0 : Int)).toNat = 0 from rfl] at hx162_4)
                    (try rw [show 0 * 6 = 0 from rfl] at hx162_4)
                    (try rw [Addr.add_zero'] at hx162_4)
                    (try rw [show ((0 : Int)).toNat = 0 from rfl] at hx162_5)
                    (try rw [show 0 * 6 = 0 from rfl] at hx162_5)
                    (try rw [Addr.add_zero'] at hx162_5)
                    have HR162_2 := Aside0.mk hi162_2
                    have HC162_2 := Aside0.mk hl162_2
                    clear hi162_2 hl162_2
                    have HR162_3 := Aside0.mk hi162_3
                    have HC162_3 := Aside0.mk hl162_3
                    clear hi162_3 hl162_3
                    replace p162 := eq_true p162
                    replace q162 := eq_true q162
                    (try clear hx159_0 hx159_1 hx159_2 hx159_3 hx159_4 hx159_5)
                    (try clear hx159_0 hx159_1 hx159_2 hx159_3 hx159_4 hx159_5)
                    (try clear hx159_0 hx159_1 hx159_2 hx159_3 hx159_4 hx159_5)
                    go_wp2_with (first | ((with_reducible refine gate_callee (f := 170) rfl ?_); refine goesL_ (some 28) rfl rfl Try.func170 (by kernel_rfl) rfl #[.int .i64 ((rd_T115 l0 0).f0)] rfl (by (try simp only [List.map_toArray, List.map_cons, List.map_nil]); first | done | rfl | (simp only [List.length_drop, List.length_take]; rfl)) ?_; (with_reducible refine (spec_l12Has.calls ((rd_T115 l0 0).f0) true _ A10.out).mono ?_); rintro e w' ⟨rfl, ⟨nd, rfl⟩⟩; refine ⟨_, rfl, ?_⟩; have p164 : 0 ≤ (0 : Int) := (by omega); have q164 : 0 < (l0.length : Int) := of_decide_eq_true (by first | (with_reducible assumption) | assumption); obtain ⟨ad164, A164_2, c164_2, A164_3, c164_3, e164, hx164_0, hx164_1, hx164_2, hx164_3, hx164_4, hx164_5, hl164_2, hi164_2, hl164_3, hi164_3⟩ := at_T115 HR0.out 0 p164 q164; obtain rfl : ad162 = ad164 := (by injection e164); have qi164 : (0 < l0.length) = True := eq_true (by omega); (try rw [show ((0 : Int)).toNat = 0 from rfl] at hx164_0); (try rw [show 0 * 6 = 0 from rfl] at hx164_0); (try rw [Addr.add_zero'] at hx164_0); (try rw [show ((0 : Int)).toNat = 0 from rfl] at hx164_1); (try rw [show 0 * 6 = 0 from rfl] at hx164_1); (try rw [Addr.add_zero'] at hx164_1); (try rw [show ((0 : Int)).toNat = 0 from rfl] at hx164_2); (try rw [show 0 * 6 = 0 from rfl] at hx164_2); (try rw [Addr.add_zero'] at hx164_2); (try rw [show ((0 : Int)).toNat = 0 from rfl] at hx164_3); (try rw [show 0 * 6 = 0 from rfl] at hx164_3); (try rw [Addr.add_zero'] at hx164_3); (try rw [show ((0 : Int)).toNat = 0 from rfl] at hx164_4); (try rw [show 0 * 6 = 0 from rfl] at hx164_4); (try rw [Addr.add_zero'] at hx164_4); (try rw [show ((0 : Int)).toNat = 0 from rfl] at hx164_5); (try rw [show 0 * 6 = 0 from rfl] at hx164_5); (try rw [Addr.add_zero'] at hx164_5); have HR164_2 := Aside0.mk hi164_2; have HC164_2 := Aside0.mk hl164_2; clear hi164_2 hl164_2; have HR164_3 := Aside0.mk hi164_3; have HC164_3 := Aside0.mk hl164_3; clear hi164_3 hl164_3; replace p164 := eq_true p164; replace q164 := eq_true q164; have ea_ := Option.some.inj (hx162_2.symm.trans hx164_2); injection ea_ with ea_ en_ ec_; subst ea_; subst ec_; clear en_; have ea_ := Option.some.inj (hx162_3.symm.trans hx164_3); injection ea_ with ea_ en_ ec_; subst ea_; subst ec_; clear en_; (try clear hx164_0); (try clear hx164_1); (try clear hx164_2); (try clear hx164_3); (try clear hx164_4); (try clear hx164_5); (try clear qi164)) | ((with_reducible refine gate_callee (f := 171) rfl ?_); refine goesL_ (some 57) rfl rfl Try.func171 (by kernel_rfl) rfl #[.int .i64 ((rd_T115 l0 0).f0)] rfl (by (try simp only [List.map_toArray, List.map_cons, List.map_nil]); first | done | rfl | (simp only [List.length_drop, List.length_take]; rfl)) ?_; (with_reducible refine (spec_l12Two.calls ((rd_T115 l0 0).f0) false _ A13.out).mono ?_); rintro e w' ⟨rfl, ⟨nd, rfl⟩⟩; refine ⟨_, rfl, ?_⟩))
                    go_ret
                    exact ⟨by first | rfl | (simp; done) | (simp [*]; done) | (simp; generalize ByteArray.toList _ = zq_; cases zq_ <;> rfl), by repeat (first | exact Drawn0.refl _ | apply Drawn0.step)⟩
                  · rw [if_neg c17] at H
                    have c17b0 : decide (9 ≤ ((rd_T115 l0 0).f0)) = false := decide_eq_false c17
                    clear c17
                    obtain rfl := Option.some.inj H
                    have p162 : 0 ≤ (0 : Int) := (by omega)
                    have q162 : 0 < (l0.length : Int) := of_decide_eq_true (by first | (with_reducible assumption) | assumption)
                    obtain ⟨ad162, A162_2, c162_2, A162_3, c162_3, e162, hx162_0, hx162_1, hx162_2, hx162_3, hx162_4, hx162_5, hl162_2, hi162_2, hl162_3, hi162_3⟩ := at_T115 HR0.out 0 p162 q162
                    cases e162
                    have qi162 : (0 < l0.length) = True := eq_true (by omega)
                    (try rw [show ((0 : Int)).toNat = 0 from rfl] at hx162_0)
                    (try rw [show 0 * 6 = 0 from rfl] at hx162_0)
                    (try rw [Addr.add_zero'] at hx162_0)
                    (try rw [show ((0 : Int)).toNat = 0 from rfl] at hx162_1)
                    (try rw [show 0 * 6 = 0 from rfl] at hx162_1)
                    (try rw [Addr.add_zero'] at hx162_1)
                    (try rw [show ((0 : Int)).toNat = 0 from rfl] at hx162_2)
                    (try rw [show 0 * 6 = 0 from rfl] at hx162_2)
                    (try rw [Addr.add_zero'] at hx162_2)
                    (try rw [show ((0 : Int)).toNat = 0 from rfl] at hx162_3)
                    (try rw [show 0 * 6 = 0 from rfl] at hx162_3)
                    (try rw [Addr.add_zero'] at hx162_3)
                    (try rw [show ((0 : Int)).toNat = 0 from rfl] at hx162_4)
                    (try rw [show 0 * 6 = 0 from rfl] at hx162_4)
                    (try rw [Addr.add_zero'] at hx162_4)
                    (try rw [show ((0 : Int)).toNat = 0 from rfl] at hx162_5)
                    (try rw [show 0 * 6 = 0 from rfl] at hx162_5)
                    (try rw [Addr.add_zero'] at hx162_5)
                    have HR162_2 := Aside0.mk hi162_2
                    have HC162_2 := Aside0.mk hl162_2
                    clear hi162_2 hl162_2
                    have HR162_3 := Aside0.mk hi162_3
                    have HC162_3 := Aside0.mk hl162_3
                    clear hi162_3 hl162_3
                    replace p162 := eq_true p162
                    replace q162 := eq_true q162
                    (try clear hx159_0 hx159_1 hx159_2 hx159_3 hx159_4 hx159_5)
                    (try clear hx159_0 hx159_1 hx159_2 hx159_3 hx159_4 hx159_5)
                    (try clear hx159_0 hx159_1 hx159_2 hx159_3 hx159_4 hx159_5)
                    go_wp2_with (first | ((with_reducible refine gate_callee (f := 170) rfl ?_); refine goesL_ (some 28) rfl rfl Try.func170 (by kernel_rfl) rfl #[.int .i64 ((rd_T115 l0 0).f0)] rfl (by (try simp only [List.map_toArray, List.map_cons, List.map_nil]); first | done | rfl | (simp only [List.length_drop, List.length_take]; rfl)) ?_; (with_reducible refine (spec_l12Has.calls ((rd_T115 l0 0).f0) true _ A10.out).mono ?_); rintro e w' ⟨rfl, ⟨nd, rfl⟩⟩; refine ⟨_, rfl, ?_⟩; have p164 : 0 ≤ (0 : Int) := (by omega); have q164 : 0 < (l0.length : Int) := of_decide_eq_true (by first | (with_reducible assumption) | assumption); obtain ⟨ad164, A164_2, c164_2, A164_3, c164_3, e164, hx164_0, hx164_1, hx164_2, hx164_3, hx164_4, hx164_5, hl164_2, hi164_2, hl164_3, hi164_3⟩ := at_T115 HR0.out 0 p164 q164; obtain rfl : ad162 = ad164 := (by injection e164); have qi164 : (0 < l0.length) = True := eq_true (by omega); (try rw [show ((0 : Int)).toNat = 0 from rfl] at hx164_0); (try rw [show 0 * 6 = 0 from rfl] at hx164_0); (try rw [Addr.add_zero'] at hx164_0); (try rw [show ((0 : Int)).toNat = 0 from rfl] at hx164_1); (try rw [show 0 * 6 = 0 from rfl] at hx164_1); (try rw [Addr.add_zero'] at hx164_1); (try rw [show ((0 : Int)).toNat = 0 from rfl] at hx164_2); (try rw [show 0 * 6 = 0 from rfl] at hx164_2); (try rw [Addr.add_zero'] at hx164_2); (try rw [show ((0 : Int)).toNat = 0 from rfl] at hx164_3); (try rw [show 0 * 6 = 0 from rfl] at hx164_3); (try rw [Addr.add_zero'] at hx164_3); (try rw [show ((0 : Int)).toNat = 0 from rfl] at hx164_4); (try rw [show 0 * 6 = 0 from rfl] at hx164_4); (try rw [Addr.add_zero'] at hx164_4); (try rw [show ((0 : Int)).toNat = 0 from rfl] at hx164_5); (try rw [show 0 * 6 = 0 from rfl] at hx164_5); (try rw [Addr.add_zero'] at hx164_5); have HR164_2 := Aside0.mk hi164_2; have HC164_2 := Aside0.mk hl164_2; clear hi164_2 hl164_2; have HR164_3 := Aside0.mk hi164_3; have HC164_3 := Aside0.mk hl164_3; clear hi164_3 hl164_3; replace p164 := eq_true p164; replace q164 := eq_true q164; have ea_ := Option.some.inj (hx162_2.symm.trans hx164_2); injection ea_ with ea_ en_ ec_; subst ea_; subst ec_; clear en_; have ea_ := Option.some.inj (hx162_3.symm.trans hx164_3); injection ea_ with ea_ en_ ec_; subst ea_; subst ec_; clear en_; (try clear hx164_0); (try clear hx164_1); (try clear hx164_2); (try clear hx164_3); (try clear hx164_4); (try clear hx164_5); (try clear qi164)) | ((with_reducible refine gate_callee (f := 171) rfl ?_); refine goesL_ (some 57) rfl rfl Try.func171 (by kernel_rfl) rfl #[.int .i64 ((rd_T115 l0 0).f0)] rfl (by (try simp only [List.map_toArray, List.map_cons, List.map_nil]); first | done | rfl | (simp only [List.length_drop, List.length_take]; rfl)) ?_; (with_reducible refine (spec_l12Two.calls ((rd_T115 l0 0).f0) false _ A13.out).mono ?_); rintro e w' ⟨rfl, ⟨nd, rfl⟩⟩; refine ⟨_, rfl, ?_⟩))
                    go_ret
                    exact ⟨by first | rfl | (simp; done) | (simp [*]; done) | (simp; generalize ByteArray.toList _ = zq_; cases zq_ <;> rfl), by repeat (first | exact Drawn0.refl _ | apply Drawn0.step)⟩
                · rw [if_neg c16] at H
                  have c16b0 : (((rd_T115 l0 0).f5) == 0) = false := beq_eq_false_iff_ne.mpr c16
                  have c16b1 : (((rd_T115 l0 0).f5) != 0) = true := bne_iff_ne.mpr c16
                  obtain rfl := Option.some.inj H
                  have p162 : 0 ≤ (0 : Int) := (by omega)
                  have q162 : 0 < (l0.length : Int) := of_decide_eq_true (by first | (with_reducible assumption) | assumption)
                  obtain ⟨ad162, A162_2, c162_2, A162_3, c162_3, e162, hx162_0, hx162_1, hx162_2, hx162_3, hx162_4, hx162_5, hl162_2, hi162_2, hl162_3, hi162_3⟩ := at_T115 HR0.out 0 p162 q162
                  cases e162
                  have qi162 : (0 < l0.length) = True := eq_true (by omega)
                  (try rw [show ((0 : Int)).toNat = 0 from rfl] at hx162_0)
                  (try rw [show 0 * 6 = 0 from rfl] at hx162_0)
                  (try rw [Addr.add_zero'] at hx162_0)
                  (try rw [show ((0 : Int)).toNat = 0 from rfl] at hx162_1)
                  (try rw [show 0 * 6 = 0 from rfl] at hx162_1)
                  (try rw [Addr.add_zero'] at hx162_1)
                  (try rw [show ((0 : Int)).toNat = 0 from rfl] at hx162_2)
                  (try rw [show 0 * 6 = 0 from rfl] at hx162_2)
                  (try rw [Addr.add_zero'] at hx162_2)
                  (try rw [show ((0 : Int)).toNat = 0 from rfl] at hx162_3)
                  (try rw [show 0 * 6 = 0 from rfl] at hx162_3)
                  (try rw [Addr.add_zero'] at hx162_3)
                  (try rw [show ((0 : Int)).toNat = 0 from rfl] at hx162_4)
                  (try rw [show 0 * 6 = 0 from rfl] at hx162_4)
                  (try rw [Addr.add_zero'] at hx162_4)
                  (try rw [show ((0 : Int)).toNat = 0 from rfl] at hx162_5)
                  (try rw [show 0 * 6 = 0 from rfl] at hx162_5)
                  (try rw [Addr.add_zero'] at hx162_5)
                  have HR162_2 := Aside0.mk hi162_2
                  have HC162_2 := Aside0.mk hl162_2
                  clear hi162_2 hl162_2
                  have HR162_3 := Aside0.mk hi162_3
                  have HC162_3 := Aside0.mk hl162_3
                  clear hi162_3 hl162_3
                  replace p162 := eq_true p162
                  replace q162 := eq_true q162
                  (try clear hx159_0 hx159_1 hx159_2 hx159_3 hx159_4 hx159_5)
                  (try clear hx159_0 hx159_1 hx159_2 hx159_3 hx159_4 hx159_5)
                  (try clear hx159_0 hx159_1 hx159_2 hx159_3 hx159_4 hx159_5)
                  go_wp2_with (first | ((with_reducible refine gate_callee (f := 170) rfl ?_); refine goesL_ (some 28) rfl rfl Try.func170 (by kernel_rfl) rfl #[.int .i64 ((rd_T115 l0 0).f0)] rfl (by (try simp only [List.map_toArray, List.map_cons, List.map_nil]); first | done | rfl | (simp only [List.length_drop, List.length_take]; rfl)) ?_; (with_reducible refine (spec_l12Has.calls ((rd_T115 l0 0).f0) true _ A10.out).mono ?_); rintro e w' ⟨rfl, ⟨nd, rfl⟩⟩; refine ⟨_, rfl, ?_⟩; have p164 : 0 ≤ (0 : Int) := (by omega); have q164 : 0 < (l0.length : Int) := of_decide_eq_true (by first | (with_reducible assumption) | assumption); obtain ⟨ad164, A164_2, c164_2, A164_3, c164_3, e164, hx164_0, hx164_1, hx164_2, hx164_3, hx164_4, hx164_5, hl164_2, hi164_2, hl164_3, hi164_3⟩ := at_T115 HR0.out 0 p164 q164; obtain rfl : ad162 = ad164 := (by injection e164); have qi164 : (0 < l0.length) = True := eq_true (by omega); (try rw [show ((0 : Int)).toNat = 0 from rfl] at hx164_0); (try rw [show 0 * 6 = 0 from rfl] at hx164_0); (try rw [Addr.add_zero'] at hx164_0); (try rw [show ((0 : Int)).toNat = 0 from rfl] at hx164_1); (try rw [show 0 * 6 = 0 from rfl] at hx164_1); (try rw [Addr.add_zero'] at hx164_1); (try rw [show ((0 : Int)).toNat = 0 from rfl] at hx164_2); (try rw [show 0 * 6 = 0 from rfl] at hx164_2); (try rw [Addr.add_zero'] at hx164_2); (try rw [show ((0 : Int)).toNat = 0 from rfl] at hx164_3); (try rw [show 0 * 6 = 0 from rfl] at hx164_3); (try rw [Addr.add_zero'] at hx164_3); (try rw [show ((0 : Int)).toNat = 0 from rfl] at hx164_4); (try rw [show 0 * 6 = 0 from rfl] at hx164_4); (try rw [Addr.add_zero'] at hx164_4); (try rw [show ((0 : Int)).toNat = 0 from rfl] at hx164_5); (try rw [show 0 * 6 = 0 from rfl] at hx164_5); (try rw [Addr.add_zero'] at hx164_5); have HR164_2 := Aside0.mk hi164_2; have HC164_2 := Aside0.mk hl164_2; clear hi164_2 hl164_2; have HR164_3 := Aside0.mk hi164_3; have HC164_3 := Aside0.mk hl164_3; clear hi164_3 hl164_3; replace p164 := eq_true p164; replace q164 := eq_true q164; have ea_ := Option.some.inj (hx162_2.symm.trans hx164_2); injection ea_ with ea_ en_ ec_; subst ea_; subst ec_; clear en_; have ea_ := Option.some.inj (hx162_3.symm.trans hx164_3); injection ea_ with ea_ en_ ec_; subst ea_; subst ec_; clear en_; (try clear hx164_0); (try clear hx164_1); (try clear hx164_2); (try clear hx164_3); (try clear hx164_4); (try clear hx164_5); (try clear qi164)) | ((with_reducible refine gate_callee (f := 171) rfl ?_); refine goesL_ (some 57) rfl rfl Try.func171 (by kernel_rfl) rfl #[.int .i64 ((rd_T115 l0 0).f0)] rfl (by (try simp only [List.map_toArray, List.map_cons, List.map_nil]); first | done | rfl | (simp only [List.length_drop, List.length_take]; rfl)) ?_; (with_reducible refine (spec_l12Two.calls ((rd_T115 l0 0).f0) false _ A13.out).mono ?_); rintro e w' ⟨rfl, ⟨nd, rfl⟩⟩; refine ⟨_, rfl, ?_⟩))
                  go_ret
                  exact ⟨by first | rfl | (simp; done) | (simp [*]; done) | (simp; generalize ByteArray.toList _ = zq_; cases zq_ <;> rfl), by repeat (first | exact Drawn0.refl _ | apply Drawn0.step)⟩
            · rw [if_neg c12] at H
              have c12b0 : (((rd_T115 l0 0).f0) == 8) = false := beq_eq_false_iff_ne.mpr c12
              have c12b1 : (((rd_T115 l0 0).f0) != 8) = true := bne_iff_ne.mpr c12
              by_cases c18 : (((rd_T115 l0 0).f3).length : Int) > 0
              · rw [if_pos c18] at H
                have c18b0 : decide (0 < (((rd_T115 l0 0).f3).length : Int)) = true := decide_eq_true c18
                have c18b1 : decide (0 < ((rd_T115 l0 0).f3).length) = true := decide_eq_true (by omega)
                clear c18
                obtain rfl := Option.some.inj H
                have p162 : 0 ≤ (0 : Int) := (by omega)
                have q162 : 0 < (l0.length : Int) := of_decide_eq_true (by first | (with_reducible assumption) | assumption)
                obtain ⟨ad162, A162_2, c162_2, A162_3, c162_3, e162, hx162_0, hx162_1, hx162_2, hx162_3, hx162_4, hx162_5, hl162_2, hi162_2, hl162_3, hi162_3⟩ := at_T115 HR0.out 0 p162 q162
                cases e162
                have qi162 : (0 < l0.length) = True := eq_true (by omega)
                (try rw [show ((0 : Int)).toNat = 0 from rfl] at hx162_0)
                (try rw [show 0 * 6 = 0 from rfl] at hx162_0)
                (try rw [Addr.add_zero'] at hx162_0)
                (try rw [show ((0 : Int)).toNat = 0 from rfl] at hx162_1)
                (try rw [show 0 * 6 = 0 from rfl] at hx162_1)
                (try rw [Addr.add_zero'] at hx162_1)
                (try rw [show ((0 : Int)).toNat = 0 from rfl] at hx162_2)
                (try rw [show 0 * 6 = 0 from rfl] at hx162_2)
                (try rw [Addr.add_zero'] at hx162_2)
                (try rw [show ((0 : Int)).toNat = 0 from rfl] at hx162_3)
                (try rw [show 0 * 6 = 0 from rfl] at hx162_3)
                (try rw [Addr.add_zero'] at hx162_3)
                (try rw [show ((0 : Int)).toNat = 0 from rfl] at hx162_4)
                (try rw [show 0 * 6 = 0 from rfl] at hx162_4)
                (try rw [Addr.add_zero'] at hx162_4)
                (try rw [show ((0 : Int)).toNat = 0 from rfl] at hx162_5)
                (try rw [show 0 * 6 = 0 from rfl] at hx162_5)
                (try rw [Addr.add_zero'] at hx162_5)
                have HR162_2 := Aside0.mk hi162_2
                have HC162_2 := Aside0.mk hl162_2
                clear hi162_2 hl162_2
                have HR162_3 := Aside0.mk hi162_3
                have HC162_3 := Aside0.mk hl162_3
                clear hi162_3 hl162_3
                replace p162 := eq_true p162
                replace q162 := eq_true q162
                (try clear hx159_0 hx159_1 hx159_2 hx159_3 hx159_4 hx159_5)
                (try clear hx159_0 hx159_1 hx159_2 hx159_3 hx159_4 hx159_5)
                (try clear hx159_0 hx159_1 hx159_2 hx159_3 hx159_4 hx159_5)
                go_wp2_with (first | ((with_reducible refine gate_callee (f := 170) rfl ?_); refine goesL_ (some 28) rfl rfl Try.func170 (by kernel_rfl) rfl #[.int .i64 ((rd_T115 l0 0).f0)] rfl (by (try simp only [List.map_toArray, List.map_cons, List.map_nil]); first | done | rfl | (simp only [List.length_drop, List.length_take]; rfl)) ?_; (with_reducible refine (spec_l12Has.calls ((rd_T115 l0 0).f0) true _ A10.out).mono ?_); rintro e w' ⟨rfl, ⟨nd, rfl⟩⟩; refine ⟨_, rfl, ?_⟩))
                go_ret
                exact ⟨by first | rfl | (simp; done) | (simp [*]; done) | (simp; generalize ByteArray.toList _ = zq_; cases zq_ <;> rfl), by repeat (first | exact Drawn0.refl _ | apply Drawn0.step)⟩
              · rw [if_neg c18] at H
                have c18b0 : decide (0 < (((rd_T115 l0 0).f3).length : Int)) = false := decide_eq_false c18
                have c18b1 : decide (0 < ((rd_T115 l0 0).f3).length) = false := decide_eq_false (by omega)
                clear c18
                replace H := Option.bind_eq_some_iff.mp H
                obtain ⟨t167, A190, H⟩ := H
                replace H : (if t167 = true then (if ((rd_T115 l0 0).f0) ≥ 9 then (some true) else (some (((rd_T115 l0 0).f4) == 0))) else (if ((rd_T115 l0 0).f5) = 0 then (if ((rd_T115 l0 0).f0) ≥ 9 then (some true) else (some (((rd_T115 l0 0).f4) == 0))) else (some false))) = some r := H
                have A19 := Aside0.mk A190
                clear A190
                by_cases c20 : t167 = true
                · subst c20
                  have H1 : (if ((rd_T115 l0 0).f0) ≥ 9 then (some true) else (some (((rd_T115 l0 0).f4) == 0))) = some r := by rw [if_pos rfl] at H; exact H
                  clear H
                  have H := H1
                  clear H1
                  by_cases c21 : ((rd_T115 l0 0).f0) ≥ 9
                  · rw [if_pos c21] at H
                    have c21b0 : decide (9 ≤ ((rd_T115 l0 0).f0)) = true := decide_eq_true c21
                    clear c21
                    obtain rfl := Option.some.inj H
                    have p162 : 0 ≤ (0 : Int) := (by omega)
                    have q162 : 0 < (l0.length : Int) := of_decide_eq_true (by first | (with_reducible assumption) | assumption)
                    obtain ⟨ad162, A162_2, c162_2, A162_3, c162_3, e162, hx162_0, hx162_1, hx162_2, hx162_3, hx162_4, hx162_5, hl162_2, hi162_2, hl162_3, hi162_3⟩ := at_T115 HR0.out 0 p162 q162
                    cases e162
                    have qi162 : (0 < l0.length) = True := eq_true (by omega)
                    (try rw [show ((0 : Int)).toNat = 0 from rfl] at hx162_0)
                    (try rw [show 0 * 6 = 0 from rfl] at hx162_0)
                    (try rw [Addr.add_zero'] at hx162_0)
                    (try rw [show ((0 : Int)).toNat = 0 from rfl] at hx162_1)
                    (try rw [show 0 * 6 = 0 from rfl] at hx162_1)
                    (try rw [Addr.add_zero'] at hx162_1)
                    (try rw [show ((0 : Int)).toNat = 0 from rfl] at hx162_2)
                    (try rw [show 0 * 6 = 0 from rfl] at hx162_2)
                    (try rw [Addr.add_zero'] at hx162_2)
                    (try rw [show ((0 : Int)).toNat = 0 from rfl] at hx162_3)
                    (try rw [show 0 * 6 = 0 from rfl] at hx162_3)
                    (try rw [Addr.add_zero'] at hx162_3)
                    (try rw [show ((0 : Int)).toNat = 0 from rfl] at hx162_4)
                    (try rw [show 0 * 6 = 0 from rfl] at hx162_4)
                    (try rw [Addr.add_zero'] at hx162_4)
                    (try rw [show ((0 : Int)).toNat = 0 from rfl] at hx162_5)
                    (try rw [show 0 * 6 = 0 from rfl] at hx162_5)
                    (try rw [Addr.add_zero'] at hx162_5)
                    have HR162_2 := Aside0.mk hi162_2
                    have HC162_2 := Aside0.mk hl162_2
                    clear hi162_2 hl162_2
                    have HR162_3 := Aside0.mk hi162_3
                    have HC162_3 := Aside0.mk hl162_3
                    clear hi162_3 hl162_3
                    replace p162 := eq_true p162
                    replace q162 := eq_true q162
                    (try clear hx159_0 hx159_1 hx159_2 hx159_3 hx159_4 hx159_5)
                    (try clear hx159_0 hx159_1 hx159_2 hx159_3 hx159_4 hx159_5)
                    (try clear hx159_0 hx159_1 hx159_2 hx159_3 hx159_4 hx159_5)
                    go_wp2_with (first | ((with_reducible refine gate_callee (f := 170) rfl ?_); refine goesL_ (some 28) rfl rfl Try.func170 (by kernel_rfl) rfl #[.int .i64 ((rd_T115 l0 0).f0)] rfl (by (try simp only [List.map_toArray, List.map_cons, List.map_nil]); first | done | rfl | (simp only [List.length_drop, List.length_take]; rfl)) ?_; (with_reducible refine (spec_l12Has.calls ((rd_T115 l0 0).f0) true _ A10.out).mono ?_); rintro e w' ⟨rfl, ⟨nd, rfl⟩⟩; refine ⟨_, rfl, ?_⟩; have p166 : 0 ≤ (0 : Int) := (by omega); have q166 : 0 < (l0.length : Int) := of_decide_eq_true (by first | (with_reducible assumption) | assumption); obtain ⟨ad166, A166_2, c166_2, A166_3, c166_3, e166, hx166_0, hx166_1, hx166_2, hx166_3, hx166_4, hx166_5, hl166_2, hi166_2, hl166_3, hi166_3⟩ := at_T115 HR0.out 0 p166 q166; obtain rfl : ad162 = ad166 := (by injection e166); have qi166 : (0 < l0.length) = True := eq_true (by omega); (try rw [show ((0 : Int)).toNat = 0 from rfl] at hx166_0); (try rw [show 0 * 6 = 0 from rfl] at hx166_0); (try rw [Addr.add_zero'] at hx166_0); (try rw [show ((0 : Int)).toNat = 0 from rfl] at hx166_1); (try rw [show 0 * 6 = 0 from rfl] at hx166_1); (try rw [Addr.add_zero'] at hx166_1); (try rw [show ((0 : Int)).toNat = 0 from rfl] at hx166_2); (try rw [show 0 * 6 = 0 from rfl] at hx166_2); (try rw [Addr.add_zero'] at hx166_2); (try rw [show ((0 : Int)).toNat = 0 from rfl] at hx166_3); (try rw [show 0 * 6 = 0 from rfl] at hx166_3); (try rw [Addr.add_zero'] at hx166_3); (try rw [show ((0 : Int)).toNat = 0 from rfl] at hx166_4); (try rw [show 0 * 6 = 0 from rfl] at hx166_4); (try rw [Addr.add_zero'] at hx166_4); (try rw [show ((0 : Int)).toNat = 0 from rfl] at hx166_5); (try rw [show 0 * 6 = 0 from rfl] at hx166_5); (try rw [Addr.add_zero'] at hx166_5); have HR166_2 := Aside0.mk hi166_2; have HC166_2 := Aside0.mk hl166_2; clear hi166_2 hl166_2; have HR166_3 := Aside0.mk hi166_3; have HC166_3 := Aside0.mk hl166_3; clear hi166_3 hl166_3; replace p166 := eq_true p166; replace q166 := eq_true q166; have ea_ := Option.some.inj (hx162_2.symm.trans hx166_2); injection ea_ with ea_ en_ ec_; subst ea_; subst ec_; clear en_; have ea_ := Option.some.inj (hx162_3.symm.trans hx166_3); injection ea_ with ea_ en_ ec_; subst ea_; subst ec_; clear en_; (try clear hx166_0); (try clear hx166_1); (try clear hx166_2); (try clear hx166_3); (try clear hx166_4); (try clear hx166_5); (try clear qi166)) | ((with_reducible refine gate_callee (f := 171) rfl ?_); refine goesL_ (some 57) rfl rfl Try.func171 (by kernel_rfl) rfl #[.int .i64 ((rd_T115 l0 0).f0)] rfl (by (try simp only [List.map_toArray, List.map_cons, List.map_nil]); first | done | rfl | (simp only [List.length_drop, List.length_take]; rfl)) ?_; (with_reducible refine (spec_l12Two.calls ((rd_T115 l0 0).f0) true _ A19.out).mono ?_); rintro e w' ⟨rfl, ⟨nd, rfl⟩⟩; refine ⟨_, rfl, ?_⟩))
                    go_ret
                    exact ⟨by first | rfl | (simp; done) | (simp [*]; done) | (simp; generalize ByteArray.toList _ = zq_; cases zq_ <;> rfl), by repeat (first | exact Drawn0.refl _ | apply Drawn0.step)⟩
                  · rw [if_neg c21] at H
                    have c21b0 : decide (9 ≤ ((rd_T115 l0 0).f0)) = false := decide_eq_false c21
                    clear c21
                    obtain rfl := Option.some.inj H
                    have p162 : 0 ≤ (0 : Int) := (by omega)
                    have q162 : 0 < (l0.length : Int) := of_decide_eq_true (by first | (with_reducible assumption) | assumption)
                    obtain ⟨ad162, A162_2, c162_2, A162_3, c162_3, e162, hx162_0, hx162_1, hx162_2, hx162_3, hx162_4, hx162_5, hl162_2, hi162_2, hl162_3, hi162_3⟩ := at_T115 HR0.out 0 p162 q162
                    cases e162
                    have qi162 : (0 < l0.length) = True := eq_true (by omega)
                    (try rw [show ((0 : Int)).toNat = 0 from rfl] at hx162_0)
                    (try rw [show 0 * 6 = 0 from rfl] at hx162_0)
                    (try rw [Addr.add_zero'] at hx162_0)
                    (try rw [show ((0 : Int)).toNat = 0 from rfl] at hx162_1)
                    (try rw [show 0 * 6 = 0 from rfl] at hx162_1)
                    (try rw [Addr.add_zero'] at hx162_1)
                    (try rw [show ((0 : Int)).toNat = 0 from rfl] at hx162_2)
                    (try rw [show 0 * 6 = 0 from rfl] at hx162_2)
                    (try rw [Addr.add_zero'] at hx162_2)
                    (try rw [show ((0 : Int)).toNat = 0 from rfl] at hx162_3)
                    (try rw [show 0 * 6 = 0 from rfl] at hx162_3)
                    (try rw [Addr.add_zero'] at hx162_3)
                    (try rw [show ((0 : Int)).toNat = 0 from rfl] at hx162_4)
                    (try rw [show 0 * 6 = 0 from rfl] at hx162_4)
                    (try rw [Addr.add_zero'] at hx162_4)
                    (try rw [show ((0 : Int)).toNat = 0 from rfl] at hx162_5)
                    (try rw [show 0 * 6 = 0 from rfl] at hx162_5)
                    (try rw [Addr.add_zero'] at hx162_5)
                    have HR162_2 := Aside0.mk hi162_2
                    have HC162_2 := Aside0.mk hl162_2
                    clear hi162_2 hl162_2
                    have HR162_3 := Aside0.mk hi162_3
                    have HC162_3 := Aside0.mk hl162_3
                    clear hi162_3 hl162_3
                    replace p162 := eq_true p162
                    replace q162 := eq_true q162
                    (try clear hx159_0 hx159_1 hx159_2 hx159_3 hx159_4 hx159_5)
                    (try clear hx159_0 hx159_1 hx159_2 hx159_3 hx159_4 hx159_5)
                    (try clear hx159_0 hx159_1 hx159_2 hx159_3 hx159_4 hx159_5)
                    go_wp2_with (first | ((with_reducible refine gate_callee (f := 170) rfl ?_); refine goesL_ (some 28) rfl rfl Try.func170 (by kernel_rfl) rfl #[.int .i64 ((rd_T115 l0 0).f0)] rfl (by (try simp only [List.map_toArray, List.map_cons, List.map_nil]); first | done | rfl | (simp only [List.length_drop, List.length_take]; rfl)) ?_; (with_reducible refine (spec_l12Has.calls ((rd_T115 l0 0).f0) true _ A10.out).mono ?_); rintro e w' ⟨rfl, ⟨nd, rfl⟩⟩; refine ⟨_, rfl, ?_⟩; have p166 : 0 ≤ (0 : Int) := (by omega); have q166 : 0 < (l0.length : Int) := of_decide_eq_true (by first | (with_reducible assumption) | assumption); obtain ⟨ad166, A166_2, c166_2, A166_3, c166_3, e166, hx166_0, hx166_1, hx166_2, hx166_3, hx166_4, hx166_5, hl166_2, hi166_2, hl166_3, hi166_3⟩ := at_T115 HR0.out 0 p166 q166; obtain rfl : ad162 = ad166 := (by injection e166); have qi166 : (0 < l0.length) = True := eq_true (by omega); (try rw [show ((0 : Int)).toNat = 0 from rfl] at hx166_0); (try rw [show 0 * 6 = 0 from rfl] at hx166_0); (try rw [Addr.add_zero'] at hx166_0); (try rw [show ((0 : Int)).toNat = 0 from rfl] at hx166_1); (try rw [show 0 * 6 = 0 from rfl] at hx166_1); (try rw [Addr.add_zero'] at hx166_1); (try rw [show ((0 : Int)).toNat = 0 from rfl] at hx166_2); (try rw [show 0 * 6 = 0 from rfl] at hx166_2); (try rw [Addr.add_zero'] at hx166_2); (try rw [show ((0 : Int)).toNat = 0 from rfl] at hx166_3); (try rw [show 0 * 6 = 0 from rfl] at hx166_3); (try rw [Addr.add_zero'] at hx166_3); (try rw [show ((0 : Int)).toNat = 0 from rfl] at hx166_4); (try rw [show 0 * 6 = 0 from rfl] at hx166_4); (try rw [Addr.add_zero'] at hx166_4); (try rw [show ((0 : Int)).toNat = 0 from rfl] at hx166_5); (try rw [show 0 * 6 = 0 from rfl] at hx166_5); (try rw [Addr.add_zero'] at hx166_5); have HR166_2 := Aside0.mk hi166_2; have HC166_2 := Aside0.mk hl166_2; clear hi166_2 hl166_2; have HR166_3 := Aside0.mk hi166_3; have HC166_3 := Aside0.mk hl166_3; clear hi166_3 hl166_3; replace p166 := eq_true p166; replace q166 := eq_true q166; have ea_ := Option.some.inj (hx162_2.symm.trans hx166_2); injection ea_ with ea_ en_ ec_; subst ea_; subst ec_; clear en_; have ea_ := Option.some.inj (hx162_3.symm.trans hx166_3); injection ea_ with ea_ en_ ec_; subst ea_; subst ec_; clear en_; (try clear hx166_0); (try clear hx166_1); (try clear hx166_2); (try clear hx166_3); (try clear hx166_4); (try clear hx166_5); (try clear qi166)) | ((with_reducible refine gate_callee (f := 171) rfl ?_); refine goesL_ (some 57) rfl rfl Try.func171 (by kernel_rfl) rfl #[.int .i64 ((rd_T115 l0 0).f0)] rfl (by (try simp only [List.map_toArray, List.map_cons, List.map_nil]); first | done | rfl | (simp only [List.length_drop, List.length_take]; rfl)) ?_; (with_reducible refine (spec_l12Two.calls ((rd_T115 l0 0).f0) true _ A19.out).mono ?_); rintro e w' ⟨rfl, ⟨nd, rfl⟩⟩; refine ⟨_, rfl, ?_⟩))
                    go_ret
                    exact ⟨by first | rfl | (simp; done) | (simp [*]; done) | (simp; generalize ByteArray.toList _ = zq_; cases zq_ <;> rfl), by repeat (first | exact Drawn0.refl _ | apply Drawn0.step)⟩
                · replace c20 := Bool.eq_false_iff.mpr c20
                  subst c20
                  have H1 : (if ((rd_T115 l0 0).f5) = 0 then (if ((rd_T115 l0 0).f0) ≥ 9 then (some true) else (some (((rd_T115 l0 0).f4) == 0))) else (some false)) = some r := by rw [if_neg (show ¬ (false = true) by decide)] at H; exact H
                  clear H
                  have H := H1
                  clear H1
                  by_cases c22 : ((rd_T115 l0 0).f5) = 0
                  · rw [if_pos c22] at H
                    have c22b0 : (((rd_T115 l0 0).f5) == 0) = true := beq_iff_eq.mpr c22
                    have c22b1 : (((rd_T115 l0 0).f5) != 0) = false := bne_eq_false_iff_eq.mpr c22
                    clear c22
                    by_cases c23 : ((rd_T115 l0 0).f0) ≥ 9
                    · rw [if_pos c23] at H
                      have c23b0 : decide (9 ≤ ((rd_T115 l0 0).f0)) = true := decide_eq_true c23
                      clear c23
                      obtain rfl := Option.some.inj H
                      have p162 : 0 ≤ (0 : Int) := (by omega)
                      have q162 : 0 < (l0.length : Int) := of_decide_eq_true (by first | (with_reducible assumption) | assumption)
                      obtain ⟨ad162, A162_2, c162_2, A162_3, c162_3, e162, hx162_0, hx162_1, hx162_2, hx162_3, hx162_4, hx162_5, hl162_2, hi162_2, hl162_3, hi162_3⟩ := at_T115 HR0.out 0 p162 q162
                      cases e162
                      have qi162 : (0 < l0.length) = True := eq_true (by omega)
                      (try rw [show ((0 : Int)).toNat = 0 from rfl] at hx162_0)
                      (try rw [show 0 * 6 = 0 from rfl] at hx162_0)
                      (try rw [Addr.add_zero'] at hx162_0)
                      (try rw [show ((0 : Int)).toNat = 0 from rfl] at hx162_1)
                      (try rw [show 0 * 6 = 0 from rfl] at hx162_1)
                      (try rw [Addr.add_zero'] at hx162_1)
                      (try rw [show ((0 : Int)).toNat = 0 from rfl] at hx162_2)
                      (try rw [show 0 * 6 = 0 from rfl] at hx162_2)
                      (try rw [Addr.add_zero'] at hx162_2)
                      (try rw [show ((0 : Int)).toNat = 0 from rfl] at hx162_3)
                      (try rw [show 0 * 6 = 0 from rfl] at hx162_3)
                      (try rw [Addr.add_zero'] at hx162_3)
                      (try rw [show ((0 : Int)).toNat = 0 from rfl] at hx162_4)
                      (try rw [show 0 * 6 = 0 from rfl] at hx162_4)
                      (try rw [Addr.add_zero'] at hx162_4)
                      (try rw [show ((0 : Int)).toNat = 0 from rfl] at hx162_5)
                      (try rw [show 0 * 6 = 0 from rfl] at hx162_5)
                      (try rw [Addr.add_zero'] at hx162_5)
                      have HR162_2 := Aside0.mk hi162_2
                      have HC162_2 := Aside0.mk hl162_2
                      clear hi162_2 hl162_2
                      have HR162_3 := Aside0.mk hi162_3
                      have HC162_3 := Aside0.mk hl162_3
                      clear hi162_3 hl162_3
                      replace p162 := eq_true p162
                      replace q162 := eq_true q162
                      (try clear hx159_0 hx159_1 hx159_2 hx159_3 hx159_4 hx159_5)
                      (try clear hx159_0 hx159_1 hx159_2 hx159_3 hx159_4 hx159_5)
                      (try clear hx159_0 hx159_1 hx159_2 hx159_3 hx159_4 hx159_5)
                      go_wp2_with (first | ((with_reducible refine gate_callee (f := 170) rfl ?_); refine goesL_ (some 28) rfl rfl Try.func170 (by kernel_rfl) rfl #[.int .i64 ((rd_T115 l0 0).f0)] rfl (by (try simp only [List.map_toArray, List.map_cons, List.map_nil]); first | done | rfl | (simp only [List.length_drop, List.length_take]; rfl)) ?_; (with_reducible refine (spec_l12Has.calls ((rd_T115 l0 0).f0) true _ A10.out).mono ?_); rintro e w' ⟨rfl, ⟨nd, rfl⟩⟩; refine ⟨_, rfl, ?_⟩; have p166 : 0 ≤ (0 : Int) := (by omega); have q166 : 0 < (l0.length : Int) := of_decide_eq_true (by first | (with_reducible assumption) | assumption); obtain ⟨ad166, A166_2, c166_2, A166_3, c166_3, e166, hx166_0, hx166_1, hx166_2, hx166_3, hx166_4, hx166_5, hl166_2, hi166_2, hl166_3, hi166_3⟩ := at_T115 HR0.out 0 p166 q166; obtain rfl : ad162 = ad166 := (by injection e166); have qi166 : (0 < l0.length) = True := eq_true (by omega); (try rw [show ((0 : Int)).toNat = 0 from rfl] at hx166_0); (try rw [show 0 * 6 = 0 from rfl] at hx166_0); (try rw [Addr.add_zero'] at hx166_0); (try rw [show ((0 : Int)).toNat = 0 from rfl] at hx166_1); (try rw [show 0 * 6 = 0 from rfl] at hx166_1); (try rw [Addr.add_zero'] at hx166_1); (try rw [show ((0 : Int)).toNat = 0 from rfl] at hx166_2); (try rw [show 0 * 6 = 0 from rfl] at hx166_2); (try rw [Addr.add_zero'] at hx166_2); (try rw [show ((0 : Int)).toNat = 0 from rfl] at hx166_3); (try rw [show 0 * 6 = 0 from rfl] at hx166_3); (try rw [Addr.add_zero'] at hx166_3); (try rw [show ((0 : Int)).toNat = 0 from rfl] at hx166_4); (try rw [show 0 * 6 = 0 from rfl] at hx166_4); (try rw [Addr.add_zero'] at hx166_4); (try rw [show ((0 : Int)).toNat = 0 from rfl] at hx166_5); (try rw [show 0 * 6 = 0 from rfl] at hx166_5); (try rw [Addr.add_zero'] at hx166_5); have HR166_2 := Aside0.mk hi166_2; have HC166_2 := Aside0.mk hl166_2; clear hi166_2 hl166_2; have HR166_3 := Aside0.mk hi166_3; have HC166_3 := Aside0.mk hl166_3; clear hi166_3 hl166_3; replace p166 := eq_true p166; replace q166 := eq_true q166; have ea_ := Option.some.inj (hx162_2.symm.trans hx166_2); injection ea_ with ea_ en_ ec_; subst ea_; subst ec_; clear en_; have ea_ := Option.some.inj (hx162_3.symm.trans hx166_3); injection ea_ with ea_ en_ ec_; subst ea_; subst ec_; clear en_; (try clear hx166_0); (try clear hx166_1); (try clear hx166_2); (try clear hx166_3); (try clear hx166_4); (try clear hx166_5); (try clear qi166)) | ((with_reducible refine gate_callee (f := 171) rfl ?_); refine goesL_ (some 57) rfl rfl Try.func171 (by kernel_rfl) rfl #[.int .i64 ((rd_T115 l0 0).f0)] rfl (by (try simp only [List.map_toArray, List.map_cons, List.map_nil]); first | done | rfl | (simp only [List.length_drop, List.length_take]; rfl)) ?_; (with_reducible refine (spec_l12Two.calls ((rd_T115 l0 0).f0) false _ A19.out).mono ?_); rintro e w' ⟨rfl, ⟨nd, rfl⟩⟩; refine ⟨_, rfl, ?_⟩))
                      go_ret
                      exact ⟨by first | rfl | (simp; done) | (simp [*]; done) | (simp; generalize ByteArray.toList _ = zq_; cases zq_ <;> rfl), by repeat (first | exact Drawn0.refl _ | apply Drawn0.step)⟩
                    · rw [if_neg c23] at H
                      have c23b0 : decide (9 ≤ ((rd_T115 l0 0).f0)) = false := decide_eq_false c23
                      clear c23
                      obtain rfl := Option.some.inj H
                      have p162 : 0 ≤ (0 : Int) := (by omega)
                      have q162 : 0 < (l0.length : Int) := of_decide_eq_true (by first | (with_reducible assumption) | assumption)
                      obtain ⟨ad162, A162_2, c162_2, A162_3, c162_3, e162, hx162_0, hx162_1, hx162_2, hx162_3, hx162_4, hx162_5, hl162_2, hi162_2, hl162_3, hi162_3⟩ := at_T115 HR0.out 0 p162 q162
                      cases e162
                      have qi162 : (0 < l0.length) = True := eq_true (by omega)
                      (try rw [show ((0 : Int)).toNat = 0 from rfl] at hx162_0)
                      (try rw [show 0 * 6 = 0 from rfl] at hx162_0)
                      (try rw [Addr.add_zero'] at hx162_0)
                      (try rw [show ((0 : Int)).toNat = 0 from rfl] at hx162_1)
                      (try rw [show 0 * 6 = 0 from rfl] at hx162_1)
                      (try rw [Addr.add_zero'] at hx162_1)
                      (try rw [show ((0 : Int)).toNat = 0 from rfl] at hx162_2)
                      (try rw [show 0 * 6 = 0 from rfl] at hx162_2)
                      (try rw [Addr.add_zero'] at hx162_2)
                      (try rw [show ((0 : Int)).toNat = 0 from rfl] at hx162_3)
                      (try rw [show 0 * 6 = 0 from rfl] at hx162_3)
                      (try rw [Addr.add_zero'] at hx162_3)
                      (try rw [show ((0 : Int)).toNat = 0 from rfl] at hx162_4)
                      (try rw [show 0 * 6 = 0 from rfl] at hx162_4)
                      (try rw [Addr.add_zero'] at hx162_4)
                      (try rw [show ((0 : Int)).toNat = 0 from rfl] at hx162_5)
                      (try rw [show 0 * 6 = 0 from rfl] at hx162_5)
                      (try rw [Addr.add_zero'] at hx162_5)
                      have HR162_2 := Aside0.mk hi162_2
                      have HC162_2 := Aside0.mk hl162_2
                      clear hi162_2 hl162_2
                      have HR162_3 := Aside0.mk hi162_3
                      have HC162_3 := Aside0.mk hl162_3
                      clear hi162_3 hl162_3
                      replace p162 := eq_true p162
                      replace q162 := eq_true q162
                      (try clear hx159_0 hx159_1 hx159_2 hx159_3 hx159_4 hx159_5)
                      (try clear hx159_0 hx159_1 hx159_2 hx159_3 hx159_4 hx159_5)
                      (try clear hx159_0 hx159_1 hx159_2 hx159_3 hx159_4 hx159_5)
                      go_wp2_with (first | ((with_reducible refine gate_callee (f := 170) rfl ?_); refine goesL_ (some 28) rfl rfl Try.func170 (by kernel_rfl) rfl #[.int .i64 ((rd_T115 l0 0).f0)] rfl (by (try simp only [List.map_toArray, List.map_cons, List.map_nil]); first | done | rfl | (simp only [List.length_drop, List.length_take]; rfl)) ?_; (with_reducible refine (spec_l12Has.calls ((rd_T115 l0 0).f0) true _ A10.out).mono ?_); rintro e w' ⟨rfl, ⟨nd, rfl⟩⟩; refine ⟨_, rfl, ?_⟩; have p166 : 0 ≤ (0 : Int) := (by omega); have q166 : 0 < (l0.length : Int) := of_decide_eq_true (by first | (with_reducible assumption) | assumption); obtain ⟨ad166, A166_2, c166_2, A166_3, c166_3, e166, hx166_0, hx166_1, hx166_2, hx166_3, hx166_4, hx166_5, hl166_2, hi166_2, hl166_3, hi166_3⟩ := at_T115 HR0.out 0 p166 q166; obtain rfl : ad162 = ad166 := (by injection e166); have qi166 : (0 < l0.length) = True := eq_true (by omega); (try rw [show ((0 : Int)).toNat = 0 from rfl] at hx166_0); (try rw [show 0 * 6 = 0 from rfl] at hx166_0); (try rw [Addr.add_zero'] at hx166_0); (try rw [show ((0 : Int)).toNat = 0 from rfl] at hx166_1); (try rw [show 0 * 6 = 0 from rfl] at hx166_1); (try rw [Addr.add_zero'] at hx166_1); (try rw [show ((0 : Int)).toNat = 0 from rfl] at hx166_2); (try rw [show 0 * 6 = 0 from rfl] at hx166_2); (try rw [Addr.add_zero'] at hx166_2); (try rw [show ((0 : Int)).toNat = 0 from rfl] at hx166_3); (try rw [show 0 * 6 = 0 from rfl] at hx166_3); (try rw [Addr.add_zero'] at hx166_3); (try rw [show ((0 : Int)).toNat = 0 from rfl] at hx166_4); (try rw [show 0 * 6 = 0 from rfl] at hx166_4); (try rw [Addr.add_zero'] at hx166_4); (try rw [show ((0 : Int)).toNat = 0 from rfl] at hx166_5); (try rw [show 0 * 6 = 0 from rfl] at hx166_5); (try rw [Addr.add_zero'] at hx166_5); have HR166_2 := Aside0.mk hi166_2; have HC166_2 := Aside0.mk hl166_2; clear hi166_2 hl166_2; have HR166_3 := Aside0.mk hi166_3; have HC166_3 := Aside0.mk hl166_3; clear hi166_3 hl166_3; replace p166 := eq_true p166; replace q166 := eq_true q166; have ea_ := Option.some.inj (hx162_2.symm.trans hx166_2); injection ea_ with ea_ en_ ec_; subst ea_; subst ec_; clear en_; have ea_ := Option.some.inj (hx162_3.symm.trans hx166_3); injection ea_ with ea_ en_ ec_; subst ea_; subst ec_; clear en_; (try clear hx166_0); (try clear hx166_1); (try clear hx166_2); (try clear hx166_3); (try clear hx166_4); (try clear hx166_5); (try clear qi166)) | ((with_reducible refine gate_callee (f := 171) rfl ?_); refine goesL_ (some 57) rfl rfl Try.func171 (by kernel_rfl) rfl #[.int .i64 ((rd_T115 l0 0).f0)] rfl (by (try simp only [List.map_toArray, List.map_cons, List.map_nil]); first | done | rfl | (simp only [List.length_drop, List.length_take]; rfl)) ?_; (with_reducible refine (spec_l12Two.calls ((rd_T115 l0 0).f0) false _ A19.out).mono ?_); rintro e w' ⟨rfl, ⟨nd, rfl⟩⟩; refine ⟨_, rfl, ?_⟩))
                      go_ret
                      exact ⟨by first | rfl | (simp; done) | (simp [*]; done) | (simp; generalize ByteArray.toList _ = zq_; cases zq_ <;> rfl), by repeat (first | exact Drawn0.refl _ | apply Drawn0.step)⟩
                  · rw [if_neg c22] at H
                    have c22b0 : (((rd_T115 l0 0).f5) == 0) = false := beq_eq_false_iff_ne.mpr c22
                    have c22b1 : (((rd_T115 l0 0).f5) != 0) = true := bne_iff_ne.mpr c22
                    obtain rfl := Option.some.inj H
                    have p162 : 0 ≤ (0 : Int) := (by omega)
                    have q162 : 0 < (l0.length : Int) := of_decide_eq_true (by first | (with_reducible assumption) | assumption)
                    obtain ⟨ad162, A162_2, c162_2, A162_3, c162_3, e162, hx162_0, hx162_1, hx162_2, hx162_3, hx162_4, hx162_5, hl162_2, hi162_2, hl162_3, hi162_3⟩ := at_T115 HR0.out 0 p162 q162
                    cases e162
                    have qi162 : (0 < l0.length) = True := eq_true (by omega)
                    (try rw [show ((0 : Int)).toNat = 0 from rfl] at hx162_0)
                    (try rw [show 0 * 6 = 0 from rfl] at hx162_0)
                    (try rw [Addr.add_zero'] at hx162_0)
                    (try rw [show ((0 : Int)).toNat = 0 from rfl] at hx162_1)
                    (try rw [show 0 * 6 = 0 from rfl] at hx162_1)
                    (try rw [Addr.add_zero'] at hx162_1)
                    (try rw [show ((0 : Int)).toNat = 0 from rfl] at hx162_2)
                    (try rw [show 0 * 6 = 0 from rfl] at hx162_2)
                    (try rw [Addr.add_zero'] at hx162_2)
                    (try rw [show ((0 : Int)).toNat = 0 from rfl] at hx162_3)
                    (try rw [show 0 * 6 = 0 from rfl] at hx162_3)
                    (try rw [Addr.add_zero'] at hx162_3)
                    (try rw [show ((0 : Int)).toNat = 0 from rfl] at hx162_4)
                    (try rw [show 0 * 6 = 0 from rfl] at hx162_4)
                    (try rw [Addr.add_zero'] at hx162_4)
                    (try rw [show ((0 : Int)).toNat = 0 from rfl] at hx162_5)
                    (try rw [show 0 * 6 = 0 from rfl] at hx162_5)
                    (try rw [Addr.add_zero'] at hx162_5)
                    have HR162_2 := Aside0.mk hi162_2
                    have HC162_2 := Aside0.mk hl162_2
                    clear hi162_2 hl162_2
                    have HR162_3 := Aside0.mk hi162_3
                    have HC162_3 := Aside0.mk hl162_3
                    clear hi162_3 hl162_3
                    replace p162 := eq_true p162
                    replace q162 := eq_true q162
                    (try clear hx159_0 hx159_1 hx159_2 hx159_3 hx159_4 hx159_5)
                    (try clear hx159_0 hx159_1 hx159_2 hx159_3 hx159_4 hx159_5)
                    (try clear hx159_0 hx159_1 hx159_2 hx159_3 hx159_4 hx159_5)
                    go_wp2_with (first | ((with_reducible refine gate_callee (f := 170) rfl ?_); refine goesL_ (some 28) rfl rfl Try.func170 (by kernel_rfl) rfl #[.int .i64 ((rd_T115 l0 0).f0)] rfl (by (try simp only [List.map_toArray, List.map_cons, List.map_nil]); first | done | rfl | (simp only [List.length_drop, List.length_take]; rfl)) ?_; (with_reducible refine (spec_l12Has.calls ((rd_T115 l0 0).f0) true _ A10.out).mono ?_); rintro e w' ⟨rfl, ⟨nd, rfl⟩⟩; refine ⟨_, rfl, ?_⟩; have p166 : 0 ≤ (0 : Int) := (by omega); have q166 : 0 < (l0.length : Int) := of_decide_eq_true (by first | (with_reducible assumption) | assumption); obtain ⟨ad166, A166_2, c166_2, A166_3, c166_3, e166, hx166_0, hx166_1, hx166_2, hx166_3, hx166_4, hx166_5, hl166_2, hi166_2, hl166_3, hi166_3⟩ := at_T115 HR0.out 0 p166 q166; obtain rfl : ad162 = ad166 := (by injection e166); have qi166 : (0 < l0.length) = True := eq_true (by omega); (try rw [show ((0 : Int)).toNat = 0 from rfl] at hx166_0); (try rw [show 0 * 6 = 0 from rfl] at hx166_0); (try rw [Addr.add_zero'] at hx166_0); (try rw [show ((0 : Int)).toNat = 0 from rfl] at hx166_1); (try rw [show 0 * 6 = 0 from rfl] at hx166_1); (try rw [Addr.add_zero'] at hx166_1); (try rw [show ((0 : Int)).toNat = 0 from rfl] at hx166_2); (try rw [show 0 * 6 = 0 from rfl] at hx166_2); (try rw [Addr.add_zero'] at hx166_2); (try rw [show ((0 : Int)).toNat = 0 from rfl] at hx166_3); (try rw [show 0 * 6 = 0 from rfl] at hx166_3); (try rw [Addr.add_zero'] at hx166_3); (try rw [show ((0 : Int)).toNat = 0 from rfl] at hx166_4); (try rw [show 0 * 6 = 0 from rfl] at hx166_4); (try rw [Addr.add_zero'] at hx166_4); (try rw [show ((0 : Int)).toNat = 0 from rfl] at hx166_5); (try rw [show 0 * 6 = 0 from rfl] at hx166_5); (try rw [Addr.add_zero'] at hx166_5); have HR166_2 := Aside0.mk hi166_2; have HC166_2 := Aside0.mk hl166_2; clear hi166_2 hl166_2; have HR166_3 := Aside0.mk hi166_3; have HC166_3 := Aside0.mk hl166_3; clear hi166_3 hl166_3; replace p166 := eq_true p166; replace q166 := eq_true q166; have ea_ := Option.some.inj (hx162_2.symm.trans hx166_2); injection ea_ with ea_ en_ ec_; subst ea_; subst ec_; clear en_; have ea_ := Option.some.inj (hx162_3.symm.trans hx166_3); injection ea_ with ea_ en_ ec_; subst ea_; subst ec_; clear en_; (try clear hx166_0); (try clear hx166_1); (try clear hx166_2); (try clear hx166_3); (try clear hx166_4); (try clear hx166_5); (try clear qi166)) | ((with_reducible refine gate_callee (f := 171) rfl ?_); refine goesL_ (some 57) rfl rfl Try.func171 (by kernel_rfl) rfl #[.int .i64 ((rd_T115 l0 0).f0)] rfl (by (try simp only [List.map_toArray, List.map_cons, List.map_nil]); first | done | rfl | (simp only [List.length_drop, List.length_take]; rfl)) ?_; (with_reducible refine (spec_l12Two.calls ((rd_T115 l0 0).f0) false _ A19.out).mono ?_); rintro e w' ⟨rfl, ⟨nd, rfl⟩⟩; refine ⟨_, rfl, ?_⟩))
                    go_ret
                    exact ⟨by first | rfl | (simp; done) | (simp [*]; done) | (simp; generalize ByteArray.toList _ = zq_; cases zq_ <;> rfl), by repeat (first | exact Drawn0.refl _ | apply Drawn0.step)⟩
          · replace c11 := Bool.eq_false_iff.mpr c11
            subst c11
            have H1 : (if (((rd_T115 l0 0).f2).length : Int) > 0 then (some false) else (if ((rd_T115 l0 0).f0) = 8 then ((spec_l12Two.f ((rd_T115 l0 0).f0)).bind fun t169 => (if t169 = true then (if ((rd_T115 l0 0).f0) ≥ 9 then (some true) else (some (((rd_T115 l0 0).f4) == 0))) else (if ((rd_T115 l0 0).f5) = 0 then (if ((rd_T115 l0 0).f0) ≥ 9 then (some true) else (some (((rd_T115 l0 0).f4) == 0))) else (some false)))) else (if (((rd_T115 l0 0).f3).length : Int) > 0 then (some false) else ((spec_l12Two.f ((rd_T115 l0 0).f0)).bind fun t171 => (if t171 = true then (if ((rd_T115 l0 0).f0) ≥ 9 then (some true) else (some (((rd_T115 l0 0).f4) == 0))) else (if ((rd_T115 l0 0).f5) = 0 then (if ((rd_T115 l0 0).f0) ≥ 9 then (some true) else (some (((rd_T115 l0 0).f4) == 0))) else (some false))))))) = some r := by rw [if_neg (show ¬ (false = true) by decide)] at H; exact H
            clear H
            have H := H1
            clear H1
            by_cases c24 : (((rd_T115 l0 0).f2).length : Int) > 0
            · rw [if_pos c24] at H
              have c24b0 : decide (0 < (((rd_T115 l0 0).f2).length : Int)) = true := decide_eq_true c24
              have c24b1 : decide (0 < ((rd_T115 l0 0).f2).length) = true := decide_eq_true (by omega)
              clear c24
              obtain rfl := Option.some.inj H
              have p162 : 0 ≤ (0 : Int) := (by omega)
              have q162 : 0 < (l0.length : Int) := of_decide_eq_true (by first | (with_reducible assumption) | assumption)
              obtain ⟨ad162, A162_2, c162_2, A162_3, c162_3, e162, hx162_0, hx162_1, hx162_2, hx162_3, hx162_4, hx162_5, hl162_2, hi162_2, hl162_3, hi162_3⟩ := at_T115 HR0.out 0 p162 q162
              cases e162
              have qi162 : (0 < l0.length) = True := eq_true (by omega)
              (try rw [show ((0 : Int)).toNat = 0 from rfl] at hx162_0)
              (try rw [show 0 * 6 = 0 from rfl] at hx162_0)
              (try rw [Addr.add_zero'] at hx162_0)
              (try rw [show ((0 : Int)).toNat = 0 from rfl] at hx162_1)
              (try rw [show 0 * 6 = 0 from rfl] at hx162_1)
              (try rw [Addr.add_zero'] at hx162_1)
              (try rw [show ((0 : Int)).toNat = 0 from rfl] at hx162_2)
              (try rw [show 0 * 6 = 0 from rfl] at hx162_2)
              (try rw [Addr.add_zero'] at hx162_2)
              (try rw [show ((0 : Int)).toNat = 0 from rfl] at hx162_3)
              (try rw [show 0 * 6 = 0 from rfl] at hx162_3)
              (try rw [Addr.add_zero'] at hx162_3)
              (try rw [show ((0 : Int)).toNat = 0 from rfl] at hx162_4)
              (try rw [show 0 * 6 = 0 from rfl] at hx162_4)
              (try rw [Addr.add_zero'] at hx162_4)
              (try rw [show ((0 : Int)).toNat = 0 from rfl] at hx162_5)
              (try rw [show 0 * 6 = 0 from rfl] at hx162_5)
              (try rw [Addr.add_zero'] at hx162_5)
              have HR162_2 := Aside0.mk hi162_2
              have HC162_2 := Aside0.mk hl162_2
              clear hi162_2 hl162_2
              have HR162_3 := Aside0.mk hi162_3
              have HC162_3 := Aside0.mk hl162_3
              clear hi162_3 hl162_3
              replace p162 := eq_true p162
              replace q162 := eq_true q162
              (try clear hx159_0 hx159_1 hx159_2 hx159_3 hx159_4 hx159_5)
              (try clear hx159_0 hx159_1 hx159_2 hx159_3 hx159_4 hx159_5)
              (try clear hx159_0 hx159_1 hx159_2 hx159_3 hx159_4 hx159_5)
              go_wp2_with (first | ((with_reducible refine gate_callee (f := 170) rfl ?_); refine goesL_ (some 28) rfl rfl Try.func170 (by kernel_rfl) rfl #[.int .i64 ((rd_T115 l0 0).f0)] rfl (by (try simp only [List.map_toArray, List.map_cons, List.map_nil]); first | done | rfl | (simp only [List.length_drop, List.length_take]; rfl)) ?_; (with_reducible refine (spec_l12Has.calls ((rd_T115 l0 0).f0) false _ A10.out).mono ?_); rintro e w' ⟨rfl, ⟨nd, rfl⟩⟩; refine ⟨_, rfl, ?_⟩))
              go_ret
              exact ⟨by first | rfl | (simp; done) | (simp [*]; done) | (simp; generalize ByteArray.toList _ = zq_; cases zq_ <;> rfl), by repeat (first | exact Drawn0.refl _ | apply Drawn0.step)⟩
            · rw [if_neg c24] at H
              have c24b0 : decide (0 < (((rd_T115 l0 0).f2).length : Int)) = false := decide_eq_false c24
              have c24b1 : decide (0 < ((rd_T115 l0 0).f2).length) = false := decide_eq_false (by omega)
              clear c24
              by_cases c25 : ((rd_T115 l0 0).f0) = 8
              · rw [if_pos c25] at H
                have c25b0 : (((rd_T115 l0 0).f0) == 8) = true := beq_iff_eq.mpr c25
                have c25b1 : (((rd_T115 l0 0).f0) != 8) = false := bne_eq_false_iff_eq.mpr c25
                clear c25
                replace H := Option.bind_eq_some_iff.mp H
                obtain ⟨t169, A260, H⟩ := H
                replace H : (if t169 = true then (if ((rd_T115 l0 0).f0) ≥ 9 then (some true) else (some (((rd_T115 l0 0).f4) == 0))) else (if ((rd_T115 l0 0).f5) = 0 then (if ((rd_T115 l0 0).f0) ≥ 9 then (some true) else (some (((rd_T115 l0 0).f4) == 0))) else (some false))) = some r := H
                have A26 := Aside0.mk A260
                clear A260
                by_cases c27 : t169 = true
                · subst c27
                  have H1 : (if ((rd_T115 l0 0).f0) ≥ 9 then (some true) else (some (((rd_T115 l0 0).f4) == 0))) = some r := by rw [if_pos rfl] at H; exact H
                  clear H
                  have H := H1
                  clear H1
                  by_cases c28 : ((rd_T115 l0 0).f0) ≥ 9
                  · rw [if_pos c28] at H
                    have c28b0 : decide (9 ≤ ((rd_T115 l0 0).f0)) = true := decide_eq_true c28
                    clear c28
                    obtain rfl := Option.some.inj H
                    have p162 : 0 ≤ (0 : Int) := (by omega)
                    have q162 : 0 < (l0.length : Int) := of_decide_eq_true (by first | (with_reducible assumption) | assumption)
                    obtain ⟨ad162, A162_2, c162_2, A162_3, c162_3, e162, hx162_0, hx162_1, hx162_2, hx162_3, hx162_4, hx162_5, hl162_2, hi162_2, hl162_3, hi162_3⟩ := at_T115 HR0.out 0 p162 q162
                    cases e162
                    have qi162 : (0 < l0.length) = True := eq_true (by omega)
                    (try rw [show ((0 : Int)).toNat = 0 from rfl] at hx162_0)
                    (try rw [show 0 * 6 = 0 from rfl] at hx162_0)
                    (try rw [Addr.add_zero'] at hx162_0)
                    (try rw [show ((0 : Int)).toNat = 0 from rfl] at hx162_1)
                    (try rw [show 0 * 6 = 0 from rfl] at hx162_1)
                    (try rw [Addr.add_zero'] at hx162_1)
                    (try rw [show ((0 : Int)).toNat = 0 from rfl] at hx162_2)
                    (try rw [show 0 * 6 = 0 from rfl] at hx162_2)
                    (try rw [Addr.add_zero'] at hx162_2)
                    (try rw [show ((0 : Int)).toNat = 0 from rfl] at hx162_3)
                    (try rw [show 0 * 6 = 0 from rfl] at hx162_3)
                    (try rw [Addr.add_zero'] at hx162_3)
                    (try rw [show ((0 : Int)).toNat = 0 from rfl] at hx162_4)
                    (try rw [show 0 * 6 = 0 from rfl] at hx162_4)
                    (try rw [Addr.add_zero'] at hx162_4)
                    (try rw [show ((0 : Int)).toNat = 0 from rfl] at hx162_5)
                    (try rw [show 0 * 6 = 0 from rfl] at hx162_5)
                    (try rw [Addr.add_zero'] at hx162_5)
                    have HR162_2 := Aside0.mk hi162_2
                    have HC162_2 := Aside0.mk hl162_2
                    clear hi162_2 hl162_2
                    have HR162_3 := Aside0.mk hi162_3
                    have HC162_3 := Aside0.mk hl162_3
                    clear hi162_3 hl162_3
                    replace p162 := eq_true p162
                    replace q162 := eq_true q162
                    (try clear hx159_0 hx159_1 hx159_2 hx159_3 hx159_4 hx159_5)
                    (try clear hx159_0 hx159_1 hx159_2 hx159_3 hx159_4 hx159_5)
                    (try clear hx159_0 hx159_1 hx159_2 hx159_3 hx159_4 hx159_5)
                    go_wp2_with (first | ((with_reducible refine gate_callee (f := 170) rfl ?_); refine goesL_ (some 28) rfl rfl Try.func170 (by kernel_rfl) rfl #[.int .i64 ((rd_T115 l0 0).f0)] rfl (by (try simp only [List.map_toArray, List.map_cons, List.map_nil]); first | done | rfl | (simp only [List.length_drop, List.length_take]; rfl)) ?_; (with_reducible refine (spec_l12Has.calls ((rd_T115 l0 0).f0) false _ A10.out).mono ?_); rintro e w' ⟨rfl, ⟨nd, rfl⟩⟩; refine ⟨_, rfl, ?_⟩; have p168 : 0 ≤ (0 : Int) := (by omega); have q168 : 0 < (l0.length : Int) := of_decide_eq_true (by first | (with_reducible assumption) | assumption); obtain ⟨ad168, A168_2, c168_2, A168_3, c168_3, e168, hx168_0, hx168_1, hx168_2, hx168_3, hx168_4, hx168_5, hl168_2, hi168_2, hl168_3, hi168_3⟩ := at_T115 HR0.out 0 p168 q168; obtain rfl : ad162 = ad168 := (by injection e168); have qi168 : (0 < l0.length) = True := eq_true (by omega); (try rw [show ((0 : Int)).toNat = 0 from rfl] at hx168_0); (try rw [show 0 * 6 = 0 from rfl] at hx168_0); (try rw [Addr.add_zero'] at hx168_0); (try rw [show ((0 : Int)).toNat = 0 from rfl] at hx168_1); (try rw [show 0 * 6 = 0 from rfl] at hx168_1); (try rw [Addr.add_zero'] at hx168_1); (try rw [show ((0 : Int)).toNat = 0 from rfl] at hx168_2); (try rw [show 0 * 6 = 0 from rfl] at hx168_2); (try rw [Addr.add_zero'] at hx168_2); (try rw [show ((0 : Int)).toNat = 0 from rfl] at hx168_3); (try rw [show 0 * 6 = 0 from rfl] at hx168_3); (try rw [Addr.add_zero'] at hx168_3); (try rw [show ((0 : Int)).toNat = 0 from rfl] at hx168_4); (try rw [show 0 * 6 = 0 from rfl] at hx168_4); (try rw [Addr.add_zero'] at hx168_4); (try rw [show ((0 : Int)).toNat = 0 from rfl] at hx168_5); (try rw [show 0 * 6 = 0 from rfl] at hx168_5); (try rw [Addr.add_zero'] at hx168_5); have HR168_2 := Aside0.mk hi168_2; have HC168_2 := Aside0.mk hl168_2; clear hi168_2 hl168_2; have HR168_3 := Aside0.mk hi168_3; have HC168_3 := Aside0.mk hl168_3; clear hi168_3 hl168_3; replace p168 := eq_true p168; replace q168 := eq_true q168; have ea_ := Option.some.inj (hx162_2.symm.trans hx168_2); injection ea_ with ea_ en_ ec_; subst ea_; subst ec_; clear en_; have ea_ := Option.some.inj (hx162_3.symm.trans hx168_3); injection ea_ with ea_ en_ ec_; subst ea_; subst ec_; clear en_; (try clear hx168_0); (try clear hx168_1); (try clear hx168_2); (try clear hx168_3); (try clear hx168_4); (try clear hx168_5); (try clear qi168)) | ((with_reducible refine gate_callee (f := 171) rfl ?_); refine goesL_ (some 57) rfl rfl Try.func171 (by kernel_rfl) rfl #[.int .i64 ((rd_T115 l0 0).f0)] rfl (by (try simp only [List.map_toArray, List.map_cons, List.map_nil]); first | done | rfl | (simp only [List.length_drop, List.length_take]; rfl)) ?_; (with_reducible refine (spec_l12Two.calls ((rd_T115 l0 0).f0) true _ A26.out).mono ?_); rintro e w' ⟨rfl, ⟨nd, rfl⟩⟩; refine ⟨_, rfl, ?_⟩))
                    go_ret
                    exact ⟨by first | rfl | (simp; done) | (simp [*]; done) | (simp; generalize ByteArray.toList _ = zq_; cases zq_ <;> rfl), by repeat (first | exact Drawn0.refl _ | apply Drawn0.step)⟩
                  · rw [if_neg c28] at H
                    have c28b0 : decide (9 ≤ ((rd_T115 l0 0).f0)) = false := decide_eq_false c28
                    clear c28
                    obtain rfl := Option.some.inj H
                    have p162 : 0 ≤ (0 : Int) := (by omega)
                    have q162 : 0 < (l0.length : Int) := of_decide_eq_true (by first | (with_reducible assumption) | assumption)
                    obtain ⟨ad162, A162_2, c162_2, A162_3, c162_3, e162, hx162_0, hx162_1, hx162_2, hx162_3, hx162_4, hx162_5, hl162_2, hi162_2, hl162_3, hi162_3⟩ := at_T115 HR0.out 0 p162 q162
                    cases e162
                    have qi162 : (0 < l0.length) = True := eq_true (by omega)
                    (try rw [show ((0 : Int)).toNat = 0 from rfl] at hx162_0)
                    (try rw [show 0 * 6 = 0 from rfl] at hx162_0)
                    (try rw [Addr.add_zero'] at hx162_0)
                    (try rw [show ((0 : Int)).toNat = 0 from rfl] at hx162_1)
                    (try rw [show 0 * 6 = 0 from rfl] at hx162_1)
                    (try rw [Addr.add_zero'] at hx162_1)
                    (try rw [show ((0 : Int)).toNat = 0 from rfl] at hx162_2)
                    (try rw [show 0 * 6 = 0 from rfl] at hx162_2)
                    (try rw [Addr.add_zero'] at hx162_2)
                    (try rw [show ((0 : Int)).toNat = 0 from rfl] at hx162_3)
                    (try rw [show 0 * 6 = 0 from rfl] at hx162_3)
                    (try rw [Addr.add_zero'] at hx162_3)
                    (try rw [show ((0 : Int)).toNat = 0 from rfl] at hx162_4)
                    (try rw [show 0 * 6 = 0 from rfl] at hx162_4)
                    (try rw [Addr.add_zero'] at hx162_4)
                    (try rw [show ((0 : Int)).toNat = 0 from rfl] at hx162_5)
                    (try rw [show 0 * 6 = 0 from rfl] at hx162_5)
                    (try rw [Addr.add_zero'] at hx162_5)
                    have HR162_2 := Aside0.mk hi162_2
                    have HC162_2 := Aside0.mk hl162_2
                    clear hi162_2 hl162_2
                    have HR162_3 := Aside0.mk hi162_3
                    have HC162_3 := Aside0.mk hl162_3
                    clear hi162_3 hl162_3
                    replace p162 := eq_true p162
                    replace q162 := eq_true q162
                    (try clear hx159_0 hx159_1 hx159_2 hx159_3 hx159_4 hx159_5)
                    (try clear hx159_0 hx159_1 hx159_2 hx159_3 hx159_4 hx159_5)
                    (try clear hx159_0 hx159_1 hx159_2 hx159_3 hx159_4 hx159_5)
                    go_wp2_with (first | ((with_reducible refine gate_callee (f := 170) rfl ?_); refine goesL_ (some 28) rfl rfl Try.func170 (by kernel_rfl) rfl #[.int .i64 ((rd_T115 l0 0).f0)] rfl (by (try simp only [List.map_toArray, List.map_cons, List.map_nil]); first | done | rfl | (simp only [List.length_drop, List.length_take]; rfl)) ?_; (with_reducible refine (spec_l12Has.calls ((rd_T115 l0 0).f0) false _ A10.out).mono ?_); rintro e w' ⟨rfl, ⟨nd, rfl⟩⟩; refine ⟨_, rfl, ?_⟩; have p168 : 0 ≤ (0 : Int) := (by omega); have q168 : 0 < (l0.length : Int) := of_decide_eq_true (by first | (with_reducible assumption) | assumption); obtain ⟨ad168, A168_2, c168_2, A168_3, c168_3, e168, hx168_0, hx168_1, hx168_2, hx168_3, hx168_4, hx168_5, hl168_2, hi168_2, hl168_3, hi168_3⟩ := at_T115 HR0.out 0 p168 q168; obtain rfl : ad162 = ad168 := (by injection e168); have qi168 : (0 < l0.length) = True := eq_true (by omega); (try rw [show ((0 : Int)).toNat = 0 from rfl] at hx168_0); (try rw [show 0 * 6 = 0 from rfl] at hx168_0); (try rw [Addr.add_zero'] at hx168_0); (try rw [show ((0 : Int)).toNat = 0 from rfl] at hx168_1); (try rw [show 0 * 6 = 0 from rfl] at hx168_1); (try rw [Addr.add_zero'] at hx168_1); (try rw [show ((0 : Int)).toNat = 0 from rfl] at hx168_2); (try rw [show 0 * 6 = 0 from rfl] at hx168_2); (try rw [Addr.add_zero'] at hx168_2); (try rw [show ((0 : Int)).toNat = 0 from rfl] at hx168_3); (try rw [show 0 * 6 = 0 from rfl] at hx168_3); (try rw [Addr.add_zero'] at hx168_3); (try rw [show ((0 : Int)).toNat = 0 from rfl] at hx168_4); (try rw [show 0 * 6 = 0 from rfl] at hx168_4); (try rw [Addr.add_zero'] at hx168_4); (try rw [show ((0 : Int)).toNat = 0 from rfl] at hx168_5); (try rw [show 0 * 6 = 0 from rfl] at hx168_5); (try rw [Addr.add_zero'] at hx168_5); have HR168_2 := Aside0.mk hi168_2; have HC168_2 := Aside0.mk hl168_2; clear hi168_2 hl168_2; have HR168_3 := Aside0.mk hi168_3; have HC168_3 := Aside0.mk hl168_3; clear hi168_3 hl168_3; replace p168 := eq_true p168; replace q168 := eq_true q168; have ea_ := Option.some.inj (hx162_2.symm.trans hx168_2); injection ea_ with ea_ en_ ec_; subst ea_; subst ec_; clear en_; have ea_ := Option.some.inj (hx162_3.symm.trans hx168_3); injection ea_ with ea_ en_ ec_; subst ea_; subst ec_; clear en_; (try clear hx168_0); (try clear hx168_1); (try clear hx168_2); (try clear hx168_3); (try clear hx168_4); (try clear hx168_5); (try clear qi168)) | ((with_reducible refine gate_callee (f := 171) rfl ?_); refine goesL_ (some 57) rfl rfl Try.func171 (by kernel_rfl) rfl #[.int .i64 ((rd_T115 l0 0).f0)] rfl (by (try simp only [List.map_toArray, List.map_cons, List.map_nil]); first | done | rfl | (simp only [List.length_drop, List.length_take]; rfl)) ?_; (with_reducible refine (spec_l12Two.calls ((rd_T115 l0 0).f0) true _ A26.out).mono ?_); rintro e w' ⟨rfl, ⟨nd, rfl⟩⟩; refine ⟨_, rfl, ?_⟩))
                    go_ret
                    exact ⟨by first | rfl | (simp; done) | (simp [*]; done) | (simp; generalize ByteArray.toList _ = zq_; cases zq_ <;> rfl), by repeat (first | exact Drawn0.refl _ | apply Drawn0.step)⟩
                · replace c27 := Bool.eq_false_iff.mpr c27
                  subst c27
                  have H1 : (if ((rd_T115 l0 0).f5) = 0 then (if ((rd_T115 l0 0).f0) ≥ 9 then (some true) else (some (((rd_T115 l0 0).f4) == 0))) else (some false)) = some r := by rw [if_neg (show ¬ (false = true) by decide)] at H; exact H
                  clear H
                  have H := H1
                  clear H1
                  by_cases c29 : ((rd_T115 l0 0).f5) = 0
                  · rw [if_pos c29] at H
                    have c29b0 : (((rd_T115 l0 0).f5) == 0) = true := beq_iff_eq.mpr c29
                    have c29b1 : (((rd_T115 l0 0).f5) != 0) = false := bne_eq_false_iff_eq.mpr c29
                    clear c29
                    by_cases c30 : ((rd_T115 l0 0).f0) ≥ 9
                    · rw [if_pos c30] at H
                      have c30b0 : decide (9 ≤ ((rd_T115 l0 0).f0)) = true := decide_eq_true c30
                      clear c30
                      obtain rfl := Option.some.inj H
                      have p162 : 0 ≤ (0 : Int) := (by omega)
                      have q162 : 0 < (l0.length : Int) := of_decide_eq_true (by first | (with_reducible assumption) | assumption)
                      obtain ⟨ad162, A162_2, c162_2, A162_3, c162_3, e162, hx162_0, hx162_1, hx162_2, hx162_3, hx162_4, hx162_5, hl162_2, hi162_2, hl162_3, hi162_3⟩ := at_T115 HR0.out 0 p162 q162
                      cases e162
                      have qi162 : (0 < l0.length) = True := eq_true (by omega)
                      (try rw [show ((0 : Int)).toNat = 0 from rfl] at hx162_0)
                      (try rw [show 0 * 6 = 0 from rfl] at hx162_0)
                      (try rw [Addr.add_zero'] at hx162_0)
                      (try rw [show ((0 : Int)).toNat = 0 from rfl] at hx162_1)
                      (try rw [show 0 * 6 = 0 from rfl] at hx162_1)
                      (try rw [Addr.add_zero'] at hx162_1)
                      (try rw [show ((0 : Int)).toNat = 0 from rfl] at hx162_2)
                      (try rw [show 0 * 6 = 0 from rfl] at hx162_2)
                      (try rw [Addr.add_zero'] at hx162_2)
                      (try rw [show ((0 : Int)).toNat = 0 from rfl] at hx162_3)
                      (try rw [show 0 * 6 = 0 from rfl] at hx162_3)
                      (try rw [Addr.add_zero'] at hx162_3)
                      (try rw [show ((0 : Int)).toNat = 0 from rfl] at hx162_4)
                      (try rw [show 0 * 6 = 0 from rfl] at hx162_4)
                      (try rw [Addr.add_zero'] at hx162_4)
                      (try rw [show ((0 : Int)).toNat = 0 from rfl] at hx162_5)
                      (try rw [show 0 * 6 = 0 from rfl] at hx162_5)
                      (try rw [Addr.add_zero'] at hx162_5)
                      have HR162_2 := Aside0.mk hi162_2
                      have HC162_2 := Aside0.mk hl162_2
                      clear hi162_2 hl162_2
                      have HR162_3 := Aside0.mk hi162_3
                      have HC162_3 := Aside0.mk hl162_3
                      clear hi162_3 hl162_3
                      replace p162 := eq_true p162
                      replace q162 := eq_true q162
                      (try clear hx159_0 hx159_1 hx159_2 hx159_3 hx159_4 hx159_5)
                      (try clear hx159_0 hx159_1 hx159_2 hx159_3 hx159_4 hx159_5)
                      go_wp2_with (first | ((with_reducible refine gate_callee (f := 170) rfl ?_); refine goesL_ (some 28) rfl rfl Try.func170 (by kernel_rfl) rfl #[.int .i64 ((rd_T115 l0 0).f0)] rfl (by (try simp only [List.map_toArray, List.map_cons, List.map_nil]); first | done | rfl | (simp only [List.length_drop, List.length_take]; rfl)) ?_; (with_reducible refine (spec_l12Has.calls ((rd_T115 l0 0).f0) false _ A10.out).mono ?_); rintro e w' ⟨rfl, ⟨nd, rfl⟩⟩; refine ⟨_, rfl, ?_⟩; have p168 : 0 ≤ (0 : Int) := (by omega); have q168 : 0 < (l0.length : Int) := of_decide_eq_true (by first | (with_reducible assumption) | assumption); obtain ⟨ad168, A168_2, c168_2, A168_3, c168_3, e168, hx168_0, hx168_1, hx168_2, hx168_3, hx168_4, hx168_5, hl168_2, hi168_2, hl168_3, hi168_3⟩ := at_T115 HR0.out 0 p168 q168; obtain rfl : ad162 = ad168 := (by injection e168); have qi168 : (0 < l0.length) = True := eq_true (by omega); (try rw [show ((0 : Int)).toNat = 0 from rfl] at hx168_0); (try rw [show 0 * 6 = 0 from rfl] at hx168_0); (try rw [Addr.add_zero'] at hx168_0); (try rw [show ((0 : Int)).toNat = 0 from rfl] at hx168_1); (try rw [show 0 * 6 = 0 from rfl] at hx168_1); (try rw [Addr.add_zero'] at hx168_1); (try rw [show ((0 : Int)).toNat = 0 from rfl] at hx168_2); (try rw [show 0 * 6 = 0 from rfl] at hx168_2); (try rw [Addr.add_zero'] at hx168_2); (try rw [show ((0 : Int)).toNat = 0 from rfl] at hx168_3); (try rw [show 0 * 6 = 0 from rfl] at hx168_3); (try rw [Addr.add_zero'] at hx168_3); (try rw [show ((0 : Int)).toNat = 0 from rfl] at hx168_4); (try rw [show 0 * 6 = 0 from rfl] at hx168_4); (try rw [Addr.add_zero'] at hx168_4); (try rw [show ((0 : Int)).toNat = 0 from rfl] at hx168_5); (try rw [show 0 * 6 = 0 from rfl] at hx168_5); (try rw [Addr.add_zero'] at hx168_5); have HR168_2 := Aside0.mk hi168_2; have HC168_2 := Aside0.mk hl168_2; clear hi168_2 hl168_2; have HR168_3 := Aside0.mk hi168_3; have HC168_3 := Aside0.mk hl168_3; clear hi168_3 hl168_3; replace p168 := eq_true p168; replace q168 := eq_true q168; have ea_ := Option.some.inj (hx162_2.symm.trans hx168_2); injection ea_ with ea_ en_ ec_; subst ea_; subst ec_; clear en_; have ea_ := Option.some.inj (hx162_3.symm.trans hx168_3); injection ea_ with ea_ en_ ec_; subst ea_; subst ec_; clear en_; (try clear hx168_0); (try clear hx168_1); (try clear hx168_2); (try clear hx168_3); (try clear hx168_4); (try clear hx168_5); (try clear qi168)) | ((with_reducible refine gate_callee (f := 171) rfl ?_); refine goesL_ (some 57) rfl rfl Try.func171 (by kernel_rfl) rfl #[.int .i64 ((rd_T115 l0 0).f0)] rfl (by (try simp only [List.map_toArray, List.map_cons, List.map_nil]); first | done | rfl | (simp only [List.length_drop, List.length_take]; rfl)) ?_; (with_reducible refine (spec_l12Two.calls ((rd_T115 l0 0).f0) false _ A26.out).mono ?_); rintro e w' ⟨rfl, ⟨nd, rfl⟩⟩; refine ⟨_, rfl, ?_⟩))
                      go_ret
                      exact ⟨by first | rfl | (simp; done) | (simp [*]; done) | (simp; generalize ByteArray.toList _ = zq_; cases zq_ <;> rfl), by repeat (first | exact Drawn0.refl _ | apply Drawn0.step)⟩
                    · rw [if_neg c30] at H
                      have c30b0 : decide (9 ≤ ((rd_T115 l0 0).f0)) = false := decide_eq_false c30
                      clear c30
                      obtain rfl := Option.some.inj H
                      have p162 : 0 ≤ (0 : Int) := (by omega)
                      have q162 : 0 < (l0.length : Int) := of_decide_eq_true (by first | (with_reducible assumption) | assumption)
                      obtain ⟨ad162, A162_2, c162_2, A162_3, c162_3, e162, hx162_0, hx162_1, hx162_2, hx162_3, hx162_4, hx162_5, hl162_2, hi162_2, hl162_3, hi162_3⟩ := at_T115 HR0.out 0 p162 q162
                      cases e162
                      have qi162 : (0 < l0.length) = True := eq_true (by omega)
                      (try rw [show ((0 : Int)).toNat = 0 from rfl] at hx162_0)
                      (try rw [show 0 * 6 = 0 from rfl] at hx162_0)
                      (try rw [Addr.add_zero'] at hx162_0)
                      (try rw [show ((0 : Int)).toNat = 0 from rfl] at hx162_1)
                      (try rw [show 0 * 6 = 0 from rfl] at hx162_1)
                      (try rw [Addr.add_zero'] at hx162_1)
                      (try rw [show ((0 : Int)).toNat = 0 from rfl] at hx162_2)
                      (try rw [show 0 * 6 = 0 from rfl] at hx162_2)
                      (try rw [Addr.add_zero'] at hx162_2)
                      (try rw [show ((0 : Int)).toNat = 0 from rfl] at hx162_3)
                      (try rw [show 0 * 6 = 0 from rfl] at hx162_3)
                      (try rw [Addr.add_zero'] at hx162_3)
                      (try rw [show ((0 : Int)).toNat = 0 from rfl] at hx162_4)
                      (try rw [show 0 * 6 = 0 from rfl] at hx162_4)
                      (try rw [Addr.add_zero'] at hx162_4)
                      (try rw [show ((0 : Int)).toNat = 0 from rfl] at hx162_5)
                      (try rw [show 0 * 6 = 0 from rfl] at hx162_5)
                      (try rw [Addr.add_zero'] at hx162_5)
                      have HR162_2 := Aside0.mk hi162_2
                      have HC162_2 := Aside0.mk hl162_2
                      clear hi162_2 hl162_2
                      have HR162_3 := Aside0.mk hi162_3
                      have HC162_3 := Aside0.mk hl162_3
                      clear hi162_3 hl162_3
                      replace p162 := eq_true p162
                      replace q162 := eq_true q162
                      (try clear hx159_0 hx159_1 hx159_2 hx159_3 hx159_4 hx159_5)
                      go_wp2_with (first | ((with_reducible refine gate_callee (f := 170) rfl ?_); refine goesL_ (some 28) rfl rfl Try.func170 (by kernel_rfl) rfl #[.int .i64 ((rd_T115 l0 0).f0)] rfl (by (try simp only [List.map_toArray, List.map_cons, List.map_nil]); first | done | rfl | (simp only [List.length_drop, List.length_take]; rfl)) ?_; (with_reducible refine (spec_l12Has.calls ((rd_T115 l0 0).f0) false _ A10.out).mono ?_); rintro e w' ⟨rfl, ⟨nd, rfl⟩⟩; refine ⟨_, rfl, ?_⟩; have p168 : 0 ≤ (0 : Int) := (by omega); have q168 : 0 < (l0.length : Int) := of_decide_eq_true (by first | (with_reducible assumption) | assumption); obtain ⟨ad168, A168_2, c168_2, A168_3, c168_3, e168, hx168_0, hx168_1, hx168_2, hx168_3, hx168_4, hx168_5, hl168_2, hi168_2, hl168_3, hi168_3⟩ := at_T115 HR0.out 0 p168 q168; obtain rfl : ad162 = ad168 := (by injection e168); have qi168 : (0 < l0.length) = True := eq_true (by omega); (try rw [show ((0 : Int)).toNat = 0 from rfl] at hx168_0); (try rw [show 0 * 6 = 0 from rfl] at hx168_0); (try rw [Addr.add_zero'] at hx168_0); (try rw [show ((0 : Int)).toNat = 0 from rfl] at hx168_1); (try rw [show 0 * 6 = 0 from rfl] at hx168_1); (try rw [Addr.add_zero'] at hx168_1); (try rw [show ((0 : Int)).toNat = 0 from rfl] at hx168_2); (try rw [show 0 * 6 = 0 from rfl] at hx168_2); (try rw [Addr.add_zero'] at hx168_2); (try rw [show ((0 : Int)).toNat = 0 from rfl] at hx168_3); (try rw [show 0 * 6 = 0 from rfl] at hx168_3); (try rw [Addr.add_zero'] at hx168_3); (try rw [show ((0 : Int)).toNat = 0 from rfl] at hx168_4); (try rw [show 0 * 6 = 0 from rfl] at hx168_4); (try rw [Addr.add_zero'] at hx168_4); (try rw [show ((0 : Int)).toNat = 0 from rfl] at hx168_5); (try rw [show 0 * 6 = 0 from rfl] at hx168_5); (try rw [Addr.add_zero'] at hx168_5); have HR168_2 := Aside0.mk hi168_2; have HC168_2 := Aside0.mk hl168_2; clear hi168_2 hl168_2; have HR168_3 := Aside0.mk hi168_3; have HC168_3 := Aside0.mk hl168_3; clear hi168_3 hl168_3; replace p168 := eq_true p168; replace q168 := eq_true q168; have ea_ := Option.some.inj (hx162_2.symm.trans hx168_2); injection ea_ with ea_ en_ ec_; subst ea_; subst ec_; clear en_; have ea_ := Option.some.inj (hx162_3.symm.trans hx168_3); injection ea_ with ea_ en_ ec_; subst ea_; subst ec_; clear en_; (try clear hx168_0); (try clear hx168_1); (try clear hx168_2); (try clear hx168_3); (try clear hx168_4); (try clear hx168_5); (try clear qi168)) | ((with_reducible refine gate_callee (f := 171) rfl ?_); refine goesL_ (some 57) rfl rfl Try.func171 (by kernel_rfl) rfl #[.int .i64 ((rd_T115 l0 0).f0)] rfl (by (try simp only [List.map_toArray, List.map_cons, List.map_nil]); first | done | rfl | (simp only [List.length_drop, List.length_take]; rfl)) ?_; (with_reducible refine (spec_l12Two.calls ((rd_T115 l0 0).f0) false _ A26.out).mono ?_); rintro e w' ⟨rfl, ⟨nd, rfl⟩⟩; refine ⟨_, rfl, ?_⟩))
                      go_ret
                      exact ⟨by first | rfl | (simp; done) | (simp [*]; done) | (simp; generalize ByteArray.toList _ = zq_; cases zq_ <;> rfl), by repeat (first | exact Drawn0.refl _ | apply Drawn0.step)⟩
                  · rw [if_neg c29] at H
                    have c29b0 : (((rd_T115 l0 0).f5) == 0) = false := beq_eq_false_iff_ne.mpr c29
                    have c29b1 : (((rd_T115 l0 0).f5) != 0) = true := bne_iff_ne.mpr c29
                    obtain rfl := Option.some.inj H
                    have p162 : 0 ≤ (0 : Int) := (by omega)
                    have q162 : 0 < (l0.length : Int) := of_decide_eq_true (by first | (with_reducible assumption) | assumption)
                    obtain ⟨ad162, A162_2, c162_2, A162_3, c162_3, e162, hx162_0, hx162_1, hx162_2, hx162_3, hx162_4, hx162_5, hl162_2, hi162_2, hl162_3, hi162_3⟩ := at_T115 HR0.out 0 p162 q162
                    cases e162
                    have qi162 : (0 < l0.length) = True := eq_true (by omega)
                    (try rw [show ((0 : Int)).toNat = 0 from rfl] at hx162_0)
                    (try rw [show 0 * 6 = 0 from rfl] at hx162_0)
                    (try rw [Addr.add_zero'] at hx162_0)
                    (try rw [show ((0 : Int)).toNat = 0 from rfl] at hx162_1)
                    (try rw [show 0 * 6 = 0 from rfl] at hx162_1)
                    (try rw [Addr.add_zero'] at hx162_1)
                    (try rw [show ((0 : Int)).toNat = 0 from rfl] at hx162_2)
                    (try rw [show 0 * 6 = 0 from rfl] at hx162_2)
                    (try rw [Addr.add_zero'] at hx162_2)
                    (try rw [show ((0 : Int)).toNat = 0 from rfl] at hx162_3)
                    (try rw [show 0 * 6 = 0 from rfl] at hx162_3)
                    (try rw [Addr.add_zero'] at hx162_3)
                    (try rw [show ((0 : Int)).toNat = 0 from rfl] at hx162_4)
                    (try rw [show 0 * 6 = 0 from rfl] at hx162_4)
                    (try rw [Addr.add_zero'] at hx162_4)
                    (try rw [show ((0 : Int)).toNat = 0 from rfl] at hx162_5)
                    (try rw [show 0 * 6 = 0 from rfl] at hx162_5)
                    (try rw [Addr.add_zero'] at hx162_5)
                    have HR162_2 := Aside0.mk hi162_2
                    have HC162_2 := Aside0.mk hl162_2
                    clear hi162_2 hl162_2
                    have HR162_3 := Aside0.mk hi162_3
                    have HC162_3 := Aside0.mk hl162_3
                    clear hi162_3 hl162_3
                    replace p162 := eq_true p162
                    replace q162 := eq_true q162
                    go_wp2_with (first | ((with_reducible refine gate_callee (f := 170) rfl ?_); refine goesL_ (some 28) rfl rfl Try.func170 (by kernel_rfl) rfl #[.int .i64 ((rd_T115 l0 0).f0)] rfl (by (try simp only [List.map_toArray, List.map_cons, List.map_nil]); first | done | rfl | (simp only [List.length_drop, List.length_take]; rfl)) ?_; (with_reducible refine (spec_l12Has.calls ((rd_T115 l0 0).f0) false _ A10.out).mono ?_); rintro e w' ⟨rfl, ⟨nd, rfl⟩⟩; refine ⟨_, rfl, ?_⟩; have p168 : 0 ≤ (0 : Int) := (by omega); have q168 : 0 < (l0.length : Int) := of_decide_eq_true (by first | (with_reducible assumption) | assumption); obtain ⟨ad168, A168_2, c168_2, A168_3, c168_3, e168, hx168_0, hx168_1, hx168_2, hx168_3, hx168_4, hx168_5, hl168_2, hi168_2, hl168_3, hi168_3⟩ := at_T115 HR0.out 0 p168 q168; obtain rfl : ad162 = ad168 := (by injection e168); have qi168 : (0 < l0.length) = True := eq_true (by omega); (try rw [show ((0 : Int)).toNat = 0 from rfl] at hx168_0); (try rw [show 0 * 6 = 0 from rfl] at hx168_0); (try rw [Addr.add_zero'] at hx168_0); (try rw [show ((0 : Int)).toNat = 0 from rfl] at hx168_1); (try rw [show 0 * 6 = 0 from rfl] at hx168_1); (try rw [Addr.add_zero'] at hx168_1); (try rw [show ((0 : Int)).toNat = 0 from rfl] at hx168_2); (try rw [show 0 * 6 = 0 from rfl] at hx168_2); (try rw [Addr.add_zero'] at hx168_2); (try rw [show ((0 : Int)).toNat = 0 from rfl] at hx168_3); (try rw [show 0 * 6 = 0 from rfl] at hx168_3); (try rw [Addr.add_zero'] at hx168_3); (try rw [show ((0 : Int)).toNat = 0 from rfl] at hx168_4); (try rw [show 0 * 6 = 0 from rfl] at hx168_4); (try rw [Addr.add_zero'] at hx168_4); (try rw [show ((0 : Int)).toNat = 0 from rfl] at hx168_5); (try rw [show 0 * 6 = 0 from rfl] at hx168_5); (try rw [Addr.add_zero'] at hx168_5); have HR168_2 := Aside0.mk hi168_2; have HC168_2 := Aside0.mk hl168_2; clear hi168_2 hl168_2; have HR168_3 := Aside0.mk hi168_3; have HC168_3 := Aside0.mk hl168_3; clear hi168_3 hl168_3; replace p168 := eq_true p168; replace q168 := eq_true q168; have ea_ := Option.some.inj (hx162_2.symm.trans hx168_2); injection ea_ with ea_ en_ ec_; subst ea_; subst ec_; clear en_; have ea_ := Option.some.inj (hx162_3.symm.trans hx168_3); injection ea_ with ea_ en_ ec_; subst ea_; subst ec_; clear en_; (try clear hx168_0); (try clear hx168_1); (try clear hx168_2); (try clear hx168_3); (try clear hx168_4); (try clear hx168_5); (try clear qi168)) | ((with_reducible refine gate_callee (f := 171) rfl ?_); refine goesL_ (some 57) rfl rfl Try.func171 (by kernel_rfl) rfl #[.int .i64 ((rd_T115 l0 0).f0)] rfl (by (try simp only [List.map_toArray, List.map_cons, List.map_nil]); first | done | rfl | (simp only [List.length_drop, List.length_take]; rfl)) ?_; (with_reducible refine (spec_l12Two.calls ((rd_T115 l0 0).f0) false _ A26.out).mono ?_); rintro e w' ⟨rfl, ⟨nd, rfl⟩⟩; refine ⟨_, rfl, ?_⟩))
                    go_ret
                    exact ⟨by first | rfl | (simp; done) | (simp [*]; done) | (simp; generalize ByteArray.toList _ = zq_; cases zq_ <;> rfl), by repeat (first | exact Drawn0.refl _ | apply Drawn0.step)⟩
              · rw [if_neg c25] at H
                have c25b0 : (((rd_T115 l0 0).f0) == 8) = false := beq_eq_false_iff_ne.mpr c25
                have c25b1 : (((rd_T115 l0 0).f0) != 8) = true := bne_iff_ne.mpr c25
                by_cases c31 : (((rd_T115 l0 0).f3).length : Int) > 0
                · rw [if_pos c31] at H
                  have c31b0 : decide (0 < (((rd_T115 l0 0).f3).length : Int)) = true := decide_eq_true c31
                  have c31b1 : decide (0 < ((rd_T115 l0 0).f3).length) = true := decide_eq_true (by omega)
                  clear c31
                  obtain rfl := Option.some.inj H
                  have p162 : 0 ≤ (0 : Int) := (by omega)
                  have q162 : 0 < (l0.length : Int) := of_decide_eq_true (by first | (with_reducible assumption) | assumption)
                  obtain ⟨ad162, A162_2, c162_2, A162_3, c162_3, e162, hx162_0, hx162_1, hx162_2, hx162_3, hx162_4, hx162_5, hl162_2, hi162_2, hl162_3, hi162_3⟩ := at_T115 HR0.out 0 p162 q162
                  cases e162
                  have qi162 : (0 < l0.length) = True := eq_true (by omega)
                  (try rw [show ((0 : Int)).toNat = 0 from rfl] at hx162_0)
                  (try rw [show 0 * 6 = 0 from rfl] at hx162_0)
                  (try rw [Addr.add_zero'] at hx162_0)
                  (try rw [show ((0 : Int)).toNat = 0 from rfl] at hx162_1)
                  (try rw [show 0 * 6 = 0 from rfl] at hx162_1)
                  (try rw [Addr.add_zero'] at hx162_1)
                  (try rw [show ((0 : Int)).toNat = 0 from rfl] at hx162_2)
                  (try rw [show 0 * 6 = 0 from rfl] at hx162_2)
                  (try rw [Addr.add_zero'] at hx162_2)
                  (try rw [show ((0 : Int)).toNat = 0 from rfl] at hx162_3)
                  (try rw [show 0 * 6 = 0 from rfl] at hx162_3)
                  (try rw [Addr.add_zero'] at hx162_3)
                  (try rw [show ((0 : Int)).toNat = 0 from rfl] at hx162_4)
                  (try rw [show 0 * 6 = 0 from rfl] at hx162_4)
                  (try rw [Addr.add_zero'] at hx162_4)
                  (try rw [show ((0 : Int)).toNat = 0 from rfl] at hx162_5)
                  (try rw [show 0 * 6 = 0 from rfl] at hx162_5)
                  (try rw [Addr.add_zero'] at hx162_5)
                  have HR162_2 := Aside0.mk hi162_2
                  have HC162_2 := Aside0.mk hl162_2
                  clear hi162_2 hl162_2
                  have HR162_3 := Aside0.mk hi162_3
                  have HC162_3 := Aside0.mk hl162_3
                  clear hi162_3 hl162_3
                  replace p162 := eq_true p162
                  replace q162 := eq_true q162
                  go_wp2_with (first | ((with_reducible refine gate_callee (f := 170) rfl ?_); refine goesL_ (some 28) rfl rfl Try.func170 (by kernel_rfl) rfl #[.int .i64 ((rd_T115 l0 0).f0)] rfl (by (try simp only [List.map_toArray, List.map_cons, List.map_nil]); first | done | rfl | (simp only [List.length_drop, List.length_take]; rfl)) ?_; (with_reducible refine (spec_l12Has.calls ((rd_T115 l0 0).f0) false _ A10.out).mono ?_); rintro e w' ⟨rfl, ⟨nd, rfl⟩⟩; refine ⟨_, rfl, ?_⟩))
                  go_ret
                  exact ⟨by first | rfl | (simp; done) | (simp [*]; done) | (simp; generalize ByteArray.toList _ = zq_; cases zq_ <;> rfl), by repeat (first | exact Drawn0.refl _ | apply Drawn0.step)⟩
                · rw [if_neg c31] at H
                  have c31b0 : decide (0 < (((rd_T115 l0 0).f3).length : Int)) = false := decide_eq_false c31
                  have c31b1 : decide (0 < ((rd_T115 l0 0).f3).length) = false := decide_eq_false (by omega)
                  clear c31
                  replace H := Option.bind_eq_some_iff.mp H
                  obtain ⟨t171, A320, H⟩ := H
                  replace H : (if t171 = true then (if ((rd_T115 l0 0).f0) ≥ 9 then (some true) else (some (((rd_T115 l0 0).f4) == 0))) else (if ((rd_T115 l0 0).f5) = 0 then (if ((rd_T115 l0 0).f0) ≥ 9 then (some true) else (some (((rd_T115 l0 0).f4) == 0))) else (some false))) = some r := H
                  have A32 := Aside0.mk A320
                  clear A320
                  by_cases c33 : t171 = true
                  · subst c33
                    have H1 : (if ((rd_T115 l0 0).f0) ≥ 9 then (some true) else (some (((rd_T115 l0 0).f4) == 0))) = some r := by rw [if_pos rfl] at H; exact H
                    clear H
                    have H := H1
                    clear H1
                    by_cases c34 : ((rd_T115 l0 0).f0) ≥ 9
                    · rw [if_pos c34] at H
                      have c34b0 : decide (9 ≤ ((rd_T115 l0 0).f0)) = true := decide_eq_true c34
                      clear c34
                      obtain rfl := Option.some.inj H
                      have p162 : 0 ≤ (0 : Int) := (by omega)
                      have q162 : 0 < (l0.length : Int) := of_decide_eq_true (by first | (with_reducible assumption) | assumption)
                      obtain ⟨ad162, A162_2, c162_2, A162_3, c162_3, e162, hx162_0, hx162_1, hx162_2, hx162_3, hx162_4, hx162_5, hl162_2, hi162_2, hl162_3, hi162_3⟩ := at_T115 HR0.out 0 p162 q162
                      cases e162
                      have qi162 : (0 < l0.length) = True := eq_true (by omega)
                      (try rw [show ((0 : Int)).toNat = 0 from rfl] at hx162_0)
                      (try rw [show 0 * 6 = 0 from rfl] at hx162_0)
                      (try rw [Addr.add_zero'] at hx162_0)
                      (try rw [show ((0 : Int)).toNat = 0 from rfl] at hx162_1)
                      (try rw [show 0 * 6 = 0 from rfl] at hx162_1)
                      (try rw [Addr.add_zero'] at hx162_1)
                      (try rw [show ((0 : Int)).toNat = 0 from rfl] at hx162_2)
                      (try rw [show 0 * 6 = 0 from rfl] at hx162_2)
                      (try rw [Addr.add_zero'] at hx162_2)
                      (try rw [show ((0 : Int)).toNat = 0 from rfl] at hx162_3)
                      (try rw [show 0 * 6 = 0 from rfl] at hx162_3)
                      (try rw [Addr.add_zero'] at hx162_3)
                      (try rw [show ((0 : Int)).toNat = 0 from rfl] at hx162_4)
                      (try rw [show 0 * 6 = 0 from rfl] at hx162_4)
                      (try rw [Addr.add_zero'] at hx162_4)
                      (try rw [show ((0 : Int)).toNat = 0 from rfl] at hx162_5)
                      (try rw [show 0 * 6 = 0 from rfl] at hx162_5)
                      (try rw [Addr.add_zero'] at hx162_5)
                      have HR162_2 := Aside0.mk hi162_2
                      have HC162_2 := Aside0.mk hl162_2
                      clear hi162_2 hl162_2
                      have HR162_3 := Aside0.mk hi162_3
                      have HC162_3 := Aside0.mk hl162_3
                      clear hi162_3 hl162_3
                      replace p162 := eq_true p162
                      replace q162 := eq_true q162
                      go_wp2_with (first | ((with_reducible refine gate_callee (f := 170) rfl ?_); refine goesL_ (some 28) rfl rfl Try.func170 (by kernel_rfl) rfl #[.int .i64 ((rd_T115 l0 0).f0)] rfl (by (try simp only [List.map_toArray, List.map_cons, List.map_nil]); first | done | rfl | (simp only [List.length_drop, List.length_take]; rfl)) ?_; (with_reducible refine (spec_l12Has.calls ((rd_T115 l0 0).f0) false _ A10.out).mono ?_); rintro e w' ⟨rfl, ⟨nd, rfl⟩⟩; refine ⟨_, rfl, ?_⟩; have p170 : 0 ≤ (0 : Int) := (by omega); have q170 : 0 < (l0.length : Int) := of_decide_eq_true (by first | (with_reducible assumption) | assumption); obtain ⟨ad170, A170_2, c170_2, A170_3, c170_3, e170, hx170_0, hx170_1, hx170_2, hx170_3, hx170_4, hx170_5, hl170_2, hi170_2, hl170_3, hi170_3⟩ := at_T115 HR0.out 0 p170 q170; obtain rfl : ad162 = ad170 := (by injection e170); have qi170 : (0 < l0.length) = True := eq_true (by omega); (try rw [show ((0 : Int)).toNat = 0 from rfl] at hx170_0); (try rw [show 0 * 6 = 0 from rfl] at hx170_0); (try rw [Addr.add_zero'] at hx170_0); (try rw [show ((0 : Int)).toNat = 0 from rfl] at hx170_1); (try rw [show 0 * 6 = 0 from rfl] at hx170_1); (try rw [Addr.add_zero'] at hx170_1); (try rw [show ((0 : Int)).toNat = 0 from rfl] at hx170_2); (try rw [show 0 * 6 = 0 from rfl] at hx170_2); (try rw [Addr.add_zero'] at hx170_2); (try rw [show ((0 : Int)).toNat = 0 from rfl] at hx170_3); (try rw [show 0 * 6 = 0 from rfl] at hx170_3); (try rw [Addr.add_zero'] at hx170_3); (try rw [show ((0 : Int)).toNat = 0 from rfl] at hx170_4); (try rw [show 0 * 6 = 0 from rfl] at hx170_4); (try rw [Addr.add_zero'] at hx170_4); (try rw [show ((0 : Int)).toNat = 0 from rfl] at hx170_5); (try rw [show 0 * 6 = 0 from rfl] at hx170_5); (try rw [Addr.add_zero'] at hx170_5); have HR170_2 := Aside0.mk hi170_2; have HC170_2 := Aside0.mk hl170_2; clear hi170_2 hl170_2; have HR170_3 := Aside0.mk hi170_3; have HC170_3 := Aside0.mk hl170_3; clear hi170_3 hl170_3; replace p170 := eq_true p170; replace q170 := eq_true q170; have ea_ := Option.some.inj (hx162_2.symm.trans hx170_2); injection ea_ with ea_ en_ ec_; subst ea_; subst ec_; clear en_; have ea_ := Option.some.inj (hx162_3.symm.trans hx170_3); injection ea_ with ea_ en_ ec_; subst ea_; subst ec_; clear en_; (try clear hx170_0); (try clear hx170_1); (try clear hx170_2); (try clear hx170_3); (try clear hx170_4); (try clear hx170_5); (try clear qi170)) | ((with_reducible refine gate_callee (f := 171) rfl ?_); refine goesL_ (some 57) rfl rfl Try.func171 (by kernel_rfl) rfl #[.int .i64 ((rd_T115 l0 0).f0)] rfl (by (try simp only [List.map_toArray, List.map_cons, List.map_nil]); first | done | rfl | (simp only [List.length_drop, List.length_take]; rfl)) ?_; (with_reducible refine (spec_l12Two.calls ((rd_T115 l0 0).f0) true _ A32.out).mono ?_); rintro e w' ⟨rfl, ⟨nd, rfl⟩⟩; refine ⟨_, rfl, ?_⟩))
                      go_ret
                      exact ⟨by first | rfl | (simp; done) | (simp [*]; done) | (simp; generalize ByteArray.toList _ = zq_; cases zq_ <;> rfl), by repeat (first | exact Drawn0.refl _ | apply Drawn0.step)⟩
                    · rw [if_neg c34] at H
                      have c34b0 : decide (9 ≤ ((rd_T115 l0 0).f0)) = false := decide_eq_false c34
                      clear c34
                      obtain rfl := Option.some.inj H
                      have p162 : 0 ≤ (0 : Int) := (by omega)
                      have q162 : 0 < (l0.length : Int) := of_decide_eq_true (by first | (with_reducible assumption) | assumption)
                      obtain ⟨ad162, A162_2, c162_2, A162_3, c162_3, e162, hx162_0, hx162_1, hx162_2, hx162_3, hx162_4, hx162_5, hl162_2, hi162_2, hl162_3, hi162_3⟩ := at_T115 HR0.out 0 p162 q162
                      cases e162
                      have qi162 : (0 < l0.length) = True := eq_true (by omega)
                      (try rw [show ((0 : Int)).toNat = 0 from rfl] at hx162_0)
                      (try rw [show 0 * 6 = 0 from rfl] at hx162_0)
                      (try rw [Addr.add_zero'] at hx162_0)
                      (try rw [show ((0 : Int)).toNat = 0 from rfl] at hx162_1)
                      (try rw [show 0 * 6 = 0 from rfl] at hx162_1)
                      (try rw [Addr.add_zero'] at hx162_1)
                      (try rw [show ((0 : Int)).toNat = 0 from rfl] at hx162_2)
                      (try rw [show 0 * 6 = 0 from rfl] at hx162_2)
                      (try rw [Addr.add_zero'] at hx162_2)
                      (try rw [show ((0 : Int)).toNat = 0 from rfl] at hx162_3)
                      (try rw [show 0 * 6 = 0 from rfl] at hx162_3)
                      (try rw [Addr.add_zero'] at hx162_3)
                      (try rw [show ((0 : Int)).toNat = 0 from rfl] at hx162_4)
                      (try rw [show 0 * 6 = 0 from rfl] at hx162_4)
                      (try rw [Addr.add_zero'] at hx162_4)
                      (try rw [show ((0 : Int)).toNat = 0 from rfl] at hx162_5)
                      (try rw [show 0 * 6 = 0 from rfl] at hx162_5)
                      (try rw [Addr.add_zero'] at hx162_5)
                      have HR162_2 := Aside0.mk hi162_2
                      have HC162_2 := Aside0.mk hl162_2
                      clear hi162_2 hl162_2
                      have HR162_3 := Aside0.mk hi162_3
                      have HC162_3 := Aside0.mk hl162_3
                      clear hi162_3 hl162_3
                      replace p162 := eq_true p162
                      replace q162 := eq_true q162
                      go_wp2_with (first | ((with_reducible refine gate_callee (f := 170) rfl ?_); refine goesL_ (some 28) rfl rfl Try.func170 (by kernel_rfl) rfl #[.int .i64 ((rd_T115 l0 0).f0)] rfl (by (try simp only [List.map_toArray, List.map_cons, List.map_nil]); first | done | rfl | (simp only [List.length_drop, List.length_take]; rfl)) ?_; (with_reducible refine (spec_l12Has.calls ((rd_T115 l0 0).f0) false _ A10.out).mono ?_); rintro e w' ⟨rfl, ⟨nd, rfl⟩⟩; refine ⟨_, rfl, ?_⟩; have p170 : 0 ≤ (0 : Int) := (by omega); have q170 : 0 < (l0.length : Int) := of_decide_eq_true (by first | (with_reducible assumption) | assumption); obtain ⟨ad170, A170_2, c170_2, A170_3, c170_3, e170, hx170_0, hx170_1, hx170_2, hx170_3, hx170_4, hx170_5, hl170_2, hi170_2, hl170_3, hi170_3⟩ := at_T115 HR0.out 0 p170 q170; obtain rfl : ad162 = ad170 := (by injection e170); have qi170 : (0 < l0.length) = True := eq_true (by omega); (try rw [show ((0 : Int)).toNat = 0 from rfl] at hx170_0); (try rw [show 0 * 6 = 0 from rfl] at hx170_0); (try rw [Addr.add_zero'] at hx170_0); (try rw [show ((0 : Int)).toNat = 0 from rfl] at hx170_1); (try rw [show 0 * 6 = 0 from rfl] at hx170_1); (try rw [Addr.add_zero'] at hx170_1); (try rw [show ((0 : Int)).toNat = 0 from rfl] at hx170_2); (try rw [show 0 * 6 = 0 from rfl] at hx170_2); (try rw [Addr.add_zero'] at hx170_2); (try rw [show ((0 : Int)).toNat = 0 from rfl] at hx170_3); (try rw [show 0 * 6 = 0 from rfl] at hx170_3); (try rw [Addr.add_zero'] at hx170_3); (try rw [show ((0 : Int)).toNat = 0 from rfl] at hx170_4); (try rw [show 0 * 6 = 0 from rfl] at hx170_4); (try rw [Addr.add_zero'] at hx170_4); (try rw [show ((0 : Int)).toNat = 0 from rfl] at hx170_5); (try rw [show 0 * 6 = 0 from rfl] at hx170_5); (try rw [Addr.add_zero'] at hx170_5); have HR170_2 := Aside0.mk hi170_2; have HC170_2 := Aside0.mk hl170_2; clear hi170_2 hl170_2; have HR170_3 := Aside0.mk hi170_3; have HC170_3 := Aside0.mk hl170_3; clear hi170_3 hl170_3; replace p170 := eq_true p170; replace q170 := eq_true q170; have ea_ := Option.some.inj (hx162_2.symm.trans hx170_2); injection ea_ with ea_ en_ ec_; subst ea_; subst ec_; clear en_; have ea_ := Option.some.inj (hx162_3.symm.trans hx170_3); injection ea_ with ea_ en_ ec_; subst ea_; subst ec_; clear en_; (try clear hx170_0); (try clear hx170_1); (try clear hx170_2); (try clear hx170_3); (try clear hx170_4); (try clear hx170_5); (try clear qi170)) | ((with_reducible refine gate_callee (f := 171) rfl ?_); refine goesL_ (some 57) rfl rfl Try.func171 (by kernel_rfl) rfl #[.int .i64 ((rd_T115 l0 0).f0)] rfl (by (try simp only [List.map_toArray, List.map_cons, List.map_nil]); first | done | rfl | (simp only [List.length_drop, List.length_take]; rfl)) ?_; (with_reducible refine (spec_l12Two.calls ((rd_T115 l0 0).f0) true _ A32.out).mono ?_); rintro e w' ⟨rfl, ⟨nd, rfl⟩⟩; refine ⟨_, rfl, ?_⟩))
                      go_ret
                      exact ⟨by first | rfl | (simp; done) | (simp [*]; done) | (simp; generalize ByteArray.toList _ = zq_; cases zq_ <;> rfl), by repeat (first | exact Drawn0.refl _ | apply Drawn0.step)⟩
                  · replace c33 := Bool.eq_false_iff.mpr c33
                    subst c33
                    have H1 : (if ((rd_T115 l0 0).f5) = 0 then (if ((rd_T115 l0 0).f0) ≥ 9 then (some true) else (some (((rd_T115 l0 0).f4) == 0))) else (some false)) = some r := by rw [if_neg (show ¬ (false = true) by decide)] at H; exact H
                    clear H
                    have H := H1
                    clear H1
                    by_cases c35 : ((rd_T115 l0 0).f5) = 0
                    · rw [if_pos c35] at H
                      have c35b0 : (((rd_T115 l0 0).f5) == 0) = true := beq_iff_eq.mpr c35
                      have c35b1 : (((rd_T115 l0 0).f5) != 0) = false := bne_eq_false_iff_eq.mpr c35
                      clear c35
                      by_cases c36 : ((rd_T115 l0 0).f0) ≥ 9
                      · rw [if_pos c36] at H
                        have c36b0 : decide (9 ≤ ((rd_T115 l0 0).f0)) = true := decide_eq_true c36
                        clear c36
                        obtain rfl := Option.some.inj H
                        have p162 : 0 ≤ (0 : Int) := (by omega)
                        have q162 : 0 < (l0.length : Int) := of_decide_eq_true (by first | (with_reducible assumption) | assumption)
                        obtain ⟨ad162, A162_2, c162_2, A162_3, c162_3, e162, hx162_0, hx162_1, hx162_2, hx162_3, hx162_4, hx162_5, hl162_2, hi162_2, hl162_3, hi162_3⟩ := at_T115 HR0.out 0 p162 q162
                        cases e162
                        have qi162 : (0 < l0.length) = True := eq_true (by omega)
                        (try rw [show ((0 : Int)).toNat = 0 from rfl] at hx162_0)
                        (try rw [show 0 * 6 = 0 from rfl] at hx162_0)
                        (try rw [Addr.add_zero'] at hx162_0)
                        (try rw [show ((0 : Int)).toNat = 0 from rfl] at hx162_1)
                        (try rw [show 0 * 6 = 0 from rfl] at hx162_1)
                        (try rw [Addr.add_zero'] at hx162_1)
                        (try rw [show ((0 : Int)).toNat = 0 from rfl] at hx162_2)
                        (try rw [show 0 * 6 = 0 from rfl] at hx162_2)
                        (try rw [Addr.add_zero'] at hx162_2)
                        (try rw [show ((0 : Int)).toNat = 0 from rfl] at hx162_3)
                        (try rw [show 0 * 6 = 0 from rfl] at hx162_3)
                        (try rw [Addr.add_zero'] at hx162_3)
                        (try rw [show ((0 : Int)).toNat = 0 from rfl] at hx162_4)
                        (try rw [show 0 * 6 = 0 from rfl] at hx162_4)
                        (try rw [Addr.add_zero'] at hx162_4)
                        (try rw [show ((0 : Int)).toNat = 0 from rfl] at hx162_5)
                        (try rw [show 0 * 6 = 0 from rfl] at hx162_5)
                        (try rw [Addr.add_zero'] at hx162_5)
                        have HR162_2 := Aside0.mk hi162_2
                        have HC162_2 := Aside0.mk hl162_2
                        clear hi162_2 hl162_2
                        have HR162_3 := Aside0.mk hi162_3
                        have HC162_3 := Aside0.mk hl162_3
                        clear hi162_3 hl162_3
                        replace p162 := eq_true p162
                        replace q162 := eq_true q162
                        go_wp2_with (first | ((with_reducible refine gate_callee (f := 170) rfl ?_); refine goesL_ (some 28) rfl rfl Try.func170 (by kernel_rfl) rfl #[.int .i64 ((rd_T115 l0 0).f0)] rfl (by (try simp only [List.map_toArray, List.map_cons, List.map_nil]); first | done | rfl | (simp only [List.length_drop, List.length_take]; rfl)) ?_; (with_reducible refine (spec_l12Has.calls ((rd_T115 l0 0).f0) false _ A10.out).mono ?_); rintro e w' ⟨rfl, ⟨nd, rfl⟩⟩; refine ⟨_, rfl, ?_⟩; have p170 : 0 ≤ (0 : Int) := (by omega); have q170 : 0 < (l0.length : Int) := of_decide_eq_true (by first | (with_reducible assumption) | assumption); obtain ⟨ad170, A170_2, c170_2, A170_3, c170_3, e170, hx170_0, hx170_1, hx170_2, hx170_3, hx170_4, hx170_5, hl170_2, hi170_2, hl170_3, hi170_3⟩ := at_T115 HR0.out 0 p170 q170; obtain rfl : ad162 = ad170 := (by injection e170); have qi170 : (0 < l0.length) = True := eq_true (by omega); (try rw [show ((0 : Int)).toNat = 0 from rfl] at hx170_0); (try rw [show 0 * 6 = 0 from rfl] at hx170_0); (try rw [Addr.add_zero'] at hx170_0); (try rw [show ((0 : Int)).toNat = 0 from rfl] at hx170_1); (try rw [show 0 * 6 = 0 from rfl] at hx170_1); (try rw [Addr.add_zero'] at hx170_1); (try rw [show ((0 : Int)).toNat = 0 from rfl] at hx170_2); (try rw [show 0 * 6 = 0 from rfl] at hx170_2); (try rw [Addr.add_zero'] at hx170_2); (try rw [show ((0 : Int)).toNat = 0 from rfl] at hx170_3); (try rw [show 0 * 6 = 0 from rfl] at hx170_3); (try rw [Addr.add_zero'] at hx170_3); (try rw [show ((0 : Int)).toNat = 0 from rfl] at hx170_4); (try rw [show 0 * 6 = 0 from rfl] at hx170_4); (try rw [Addr.add_zero'] at hx170_4); (try rw [show ((0 : Int)).toNat = 0 from rfl] at hx170_5); (try rw [show 0 * 6 = 0 from rfl] at hx170_5); (try rw [Addr.add_zero'] at hx170_5); have HR170_2 := Aside0.mk hi170_2; have HC170_2 := Aside0.mk hl170_2; clear hi170_2 hl170_2; have HR170_3 := Aside0.mk hi170_3; have HC170_3 := Aside0.mk hl170_3; clear hi170_3 hl170_3; replace p170 := eq_true p170; replace q170 := eq_true q170; have ea_ := Option.some.inj (hx162_2.symm.trans hx170_2); injection ea_ with ea_ en_ ec_; subst ea_; subst ec_; clear en_; have ea_ := Option.some.inj (hx162_3.symm.trans hx170_3); injection ea_ with ea_ en_ ec_; subst ea_; subst ec_; clear en_; (try clear hx170_0); (try clear hx170_1); (try clear hx170_2); (try clear hx170_3); (try clear hx170_4); (try clear hx170_5); (try clear qi170)) | ((with_reducible refine gate_callee (f := 171) rfl ?_); refine goesL_ (some 57) rfl rfl Try.func171 (by kernel_rfl) rfl #[.int .i64 ((rd_T115 l0 0).f0)] rfl (by (try simp only [List.map_toArray, List.map_cons, List.map_nil]); first | done | rfl | (simp only [List.length_drop, List.length_take]; rfl)) ?_; (with_reducible refine (spec_l12Two.calls ((rd_T115 l0 0).f0) false _ A32.out).mono ?_); rintro e w' ⟨rfl, ⟨nd, rfl⟩⟩; refine ⟨_, rfl, ?_⟩))
                        go_ret
                        exact ⟨by first | rfl | (simp; done) | (simp [*]; done) | (simp; generalize ByteArray.toList _ = zq_; cases zq_ <;> rfl), by repeat (first | exact Drawn0.refl _ | apply Drawn0.step)⟩
                      · rw [if_neg c36] at H
                        have c36b0 : decide (9 ≤ ((rd_T115 l0 0).f0)) = false := decide_eq_false c36
                        clear c36
                        obtain rfl := Option.some.inj H
                        have p162 : 0 ≤ (0 : Int) := (by omega)
                        have q162 : 0 < (l0.length : Int) := of_decide_eq_true (by first | (with_reducible assumption) | assumption)
                        obtain ⟨ad162, A162_2, c162_2, A162_3, c162_3, e162, hx162_0, hx162_1, hx162_2, hx162_3, hx162_4, hx162_5, hl162_2, hi162_2, hl162_3, hi162_3⟩ := at_T115 HR0.out 0 p162 q162
                        cases e162
                        have qi162 : (0 < l0.length) = True := eq_true (by omega)
                        (try rw [show ((0 : Int)).toNat = 0 from rfl] at hx162_0)
                        (try rw [show 0 * 6 = 0 from rfl] at hx162_0)
                        (try rw [Addr.add_zero'] at hx162_0)
                        (try rw [show ((0 : Int)).toNat = 0 from rfl] at hx162_1)
                        (try rw [show 0 * 6 = 0 from rfl] at hx162_1)
                        (try rw [Addr.add_zero'] at hx162_1)
                        (try rw [show ((0 : Int)).toNat = 0 from rfl] at hx162_2)
                        (try rw [show 0 * 6 = 0 from rfl] at hx162_2)
                        (try rw [Addr.add_zero'] at hx162_2)
                        (try rw [show ((0 : Int)).toNat = 0 from rfl] at hx162_3)
                        (try rw [show 0 * 6 = 0 from rfl] at hx162_3)
                        (try rw [Addr.add_zero'] at hx162_3)
                        (try rw [show ((0 : Int)).toNat = 0 from rfl] at hx162_4)
                        (try rw [show 0 * 6 = 0 from rfl] at hx162_4)
                        (try rw [Addr.add_zero'] at hx162_4)
                        (try rw [show ((0 : Int)).toNat = 0 from rfl] at hx162_5)
                        (try rw [show 0 * 6 = 0 from rfl] at hx162_5)
                        (try rw [Addr.add_zero'] at hx162_5)
                        have HR162_2 := Aside0.mk hi162_2
                        have HC162_2 := Aside0.mk hl162_2
                        clear hi162_2 hl162_2
                        have HR162_3 := Aside0.mk hi162_3
                        have HC162_3 := Aside0.mk hl162_3
                        clear hi162_3 hl162_3
                        replace p162 := eq_true p162
                        replace q162 := eq_true q162
                        go_wp2_with (first | ((with_reducible refine gate_callee (f := 170) rfl ?_); refine goesL_ (some 28) rfl rfl Try.func170 (by kernel_rfl) rfl #[.int .i64 ((rd_T115 l0 0).f0)] rfl (by (try simp only [List.map_toArray, List.map_cons, List.map_nil]); first | done | rfl | (simp only [List.length_drop, List.length_take]; rfl)) ?_; (with_reducible refine (spec_l12Has.calls ((rd_T115 l0 0).f0) false _ A10.out).mono ?_); rintro e w' ⟨rfl, ⟨nd, rfl⟩⟩; refine ⟨_, rfl, ?_⟩; have p170 : 0 ≤ (0 : Int) := (by omega); have q170 : 0 < (l0.length : Int) := of_decide_eq_true (by first | (with_reducible assumption) | assumption); obtain ⟨ad170, A170_2, c170_2, A170_3, c170_3, e170, hx170_0, hx170_1, hx170_2, hx170_3, hx170_4, hx170_5, hl170_2, hi170_2, hl170_3, hi170_3⟩ := at_T115 HR0.out 0 p170 q170; obtain rfl : ad162 = ad170 := (by injection e170); have qi170 : (0 < l0.length) = True := eq_true (by omega); (try rw [show ((0 : Int)).toNat = 0 from rfl] at hx170_0); (try rw [show 0 * 6 = 0 from rfl] at hx170_0); (try rw [Addr.add_zero'] at hx170_0); (try rw [show ((0 : Int)).toNat = 0 from rfl] at hx170_1); (try rw [show 0 * 6 = 0 from rfl] at hx170_1); (try rw [Addr.add_zero'] at hx170_1); (try rw [show ((0 : Int)).toNat = 0 from rfl] at hx170_2); (try rw [show 0 * 6 = 0 from rfl] at hx170_2); (try rw [Addr.add_zero'] at hx170_2); (try rw [show ((0 : Int)).toNat = 0 from rfl] at hx170_3); (try rw [show 0 * 6 = 0 from rfl] at hx170_3); (try rw [Addr.add_zero'] at hx170_3); (try rw [show ((0 : Int)).toNat = 0 from rfl] at hx170_4); (try rw [show 0 * 6 = 0 from rfl] at hx170_4); (try rw [Addr.add_zero'] at hx170_4); (try rw [show ((0 : Int)).toNat = 0 from rfl] at hx170_5); (try rw [show 0 * 6 = 0 from rfl] at hx170_5); (try rw [Addr.add_zero'] at hx170_5); have HR170_2 := Aside0.mk hi170_2; have HC170_2 := Aside0.mk hl170_2; clear hi170_2 hl170_2; have HR170_3 := Aside0.mk hi170_3; have HC170_3 := Aside0.mk hl170_3; clear hi170_3 hl170_3; replace p170 := eq_true p170; replace q170 := eq_true q170; have ea_ := Option.some.inj (hx162_2.symm.trans hx170_2); injection ea_ with ea_ en_ ec_; subst ea_; subst ec_; clear en_; have ea_ := Option.some.inj (hx162_3.symm.trans hx170_3); injection ea_ with ea_ en_ ec_; subst ea_; subst ec_; clear en_; (try clear hx170_0); (try clear hx170_1); (try clear hx170_2); (try clear hx170_3); (try clear hx170_4); (try clear hx170_5); (try clear qi170)) | ((with_reducible refine gate_callee (f := 171) rfl ?_); refine goesL_ (some 57) rfl rfl Try.func171 (by kernel_rfl) rfl #[.int .i64 ((rd_T115 l0 0).f0)] rfl (by (try simp only [List.map_toArray, List.map_cons, List.map_nil]); first | done | rfl | (simp only [List.length_drop, List.length_take]; rfl)) ?_; (with_reducible refine (spec_l12Two.calls ((rd_T115 l0 0).f0) false _ A32.out).mono ?_); rintro e w' ⟨rfl, ⟨nd, rfl⟩⟩; refine ⟨_, rfl, ?_⟩))
                        go_ret
                        exact ⟨by first | rfl | (simp; done) | (simp [*]; done) | (simp; generalize ByteArray.toList _ = zq_; cases zq_ <;> rfl), by repeat (first | exact Drawn0.refl _ | apply Drawn0.step)⟩
                    · rw [if_neg c35] at H
                      have c35b0 : (((rd_T115 l0 0).f5) == 0) = false := beq_eq_false_iff_ne.mpr c35
                      have c35b1 : (((rd_T115 l0 0).f5) != 0) = true := bne_iff_ne.mpr c35
                      obtain rfl := Option.some.inj H
                      have p162 : 0 ≤ (0 : Int) := (by omega)
                      have q162 : 0 < (l0.length : Int) := of_decide_eq_true (by first | (with_reducible assumption) | assumption)
                      obtain ⟨ad162, A162_2, c162_2, A162_3, c162_3, e162, hx162_0, hx162_1, hx162_2, hx162_3, hx162_4, hx162_5, hl162_2, hi162_2, hl162_3, hi162_3⟩ := at_T115 HR0.out 0 p162 q162
                      cases e162
                      have qi162 : (0 < l0.length) = True := eq_true (by omega)
                      (try rw [show ((0 : Int)).toNat = 0 from rfl] at hx162_0)
                      (try rw [show 0 * 6 = 0 from rfl] at hx162_0)
                      (try rw [Addr.add_zero'] at hx162_0)
                      (try rw [show ((0 : Int)).toNat = 0 from rfl] at hx162_1)
                      (try rw [show 0 * 6 = 0 from rfl] at hx162_1)
                      (try rw [Addr.add_zero'] at hx162_1)
                      (try rw [show ((0 : Int)).toNat = 0 from rfl] at hx162_2)
                      (try rw [show 0 * 6 = 0 from rfl] at hx162_2)
                      (try rw [Addr.add_zero'] at hx162_2)
                      (try rw [show ((0 : Int)).toNat = 0 from rfl] at hx162_3)
                      (try rw [show 0 * 6 = 0 from rfl] at hx162_3)
                      (try rw [Addr.add_zero'] at hx162_3)
                      (try rw [show ((0 : Int)).toNat = 0 from rfl] at hx162_4)
                      (try rw [show 0 * 6 = 0 from rfl] at hx162_4)
                      (try rw [Addr.add_zero'] at hx162_4)
                      (try rw [show ((0 : Int)).toNat = 0 from rfl] at hx162_5)
                      (try rw [show 0 * 6 = 0 from rfl] at hx162_5)
                      (try rw [Addr.add_zero'] at hx162_5)
                      have HR162_2 := Aside0.mk hi162_2
                      have HC162_2 := Aside0.mk hl162_2
                      clear hi162_2 hl162_2
                      have HR162_3 := Aside0.mk hi162_3
                      have HC162_3 := Aside0.mk hl162_3
                      clear hi162_3 hl162_3
                      replace p162 := eq_true p162
                      replace q162 := eq_true q162
                      go_wp2_with (first | ((with_reducible refine gate_callee (f := 170) rfl ?_); refine goesL_ (some 28) rfl rfl Try.func170 (by kernel_rfl) rfl #[.int .i64 ((rd_T115 l0 0).f0)] rfl (by (try simp only [List.map_toArray, List.map_cons, List.map_nil]); first | done | rfl | (simp only [List.length_drop, List.length_take]; rfl)) ?_; (with_reducible refine (spec_l12Has.calls ((rd_T115 l0 0).f0) false _ A10.out).mono ?_); rintro e w' ⟨rfl, ⟨nd, rfl⟩⟩; refine ⟨_, rfl, ?_⟩; have p170 : 0 ≤ (0 : Int) := (by omega); have q170 : 0 < (l0.length : Int) := of_decide_eq_true (by first | (with_reducible assumption) | assumption); obtain ⟨ad170, A170_2, c170_2, A170_3, c170_3, e170, hx170_0, hx170_1, hx170_2, hx170_3, hx170_4, hx170_5, hl170_2, hi170_2, hl170_3, hi170_3⟩ := at_T115 HR0.out 0 p170 q170; obtain rfl : ad162 = ad170 := (by injection e170); have qi170 : (0 < l0.length) = True := eq_true (by omega); (try rw [show ((0 : Int)).toNat = 0 from rfl] at hx170_0); (try rw [show 0 * 6 = 0 from rfl] at hx170_0); (try rw [Addr.add_zero'] at hx170_0); (try rw [show ((0 : Int)).toNat = 0 from rfl] at hx170_1); (try rw [show 0 * 6 = 0 from rfl] at hx170_1); (try rw [Addr.add_zero'] at hx170_1); (try rw [show ((0 : Int)).toNat = 0 from rfl] at hx170_2); (try rw [show 0 * 6 = 0 from rfl] at hx170_2); (try rw [Addr.add_zero'] at hx170_2); (try rw [show ((0 : Int)).toNat = 0 from rfl] at hx170_3); (try rw [show 0 * 6 = 0 from rfl] at hx170_3); (try rw [Addr.add_zero'] at hx170_3); (try rw [show ((0 : Int)).toNat = 0 from rfl] at hx170_4); (try rw [show 0 * 6 = 0 from rfl] at hx170_4); (try rw [Addr.add_zero'] at hx170_4); (try rw [show ((0 : Int)).toNat = 0 from rfl] at hx170_5); (try rw [show 0 * 6 = 0 from rfl] at hx170_5); (try rw [Addr.add_zero'] at hx170_5); have HR170_2 := Aside0.mk hi170_2; have HC170_2 := Aside0.mk hl170_2; clear hi170_2 hl170_2; have HR170_3 := Aside0.mk hi170_3; have HC170_3 := Aside0.mk hl170_3; clear hi170_3 hl170_3; replace p170 := eq_true p170; replace q170 := eq_true q170; have ea_ := Option.some.inj (hx162_2.symm.trans hx170_2); injection ea_ with ea_ en_ ec_; subst ea_; subst ec_; clear en_; have ea_ := Option.some.inj (hx162_3.symm.trans hx170_3); injection ea_ with ea_ en_ ec_; subst ea_; subst ec_; clear en_; (try clear hx170_0); (try clear hx170_1); (try clear hx170_2); (try clear hx170_3); (try clear hx170_4); (try clear hx170_5); (try clear qi170)) | ((with_reducible refine gate_callee (f := 171) rfl ?_); refine goesL_ (some 57) rfl rfl Try.func171 (by kernel_rfl) rfl #[.int .i64 ((rd_T115 l0 0).f0)] rfl (by (try simp only [List.map_toArray, List.map_cons, List.map_nil]); first | done | rfl | (simp only [List.length_drop, List.length_take]; rfl)) ?_; (with_reducible refine (spec_l12Two.calls ((rd_T115 l0 0).f0) false _ A32.out).mono ?_); rintro e w' ⟨rfl, ⟨nd, rfl⟩⟩; refine ⟨_, rfl, ?_⟩))
                      go_ret
                      exact ⟨by first | rfl | (simp; done) | (simp [*]; done) | (simp; generalize ByteArray.toList _ = zq_; cases zq_ <;> rfl), by repeat (first | exact Drawn0.refl _ | apply Drawn0.step)⟩
        · rw [if_neg c9] at H
          exact absurd H (by simp)

end Go.Proofs.Ytlneiofnmbcheaa.PFnExactTermsFault

/- Functions of the program as Lean functions, each with the proof that its call comes to what that function says (texts written by a program of this session). Conditions: those that stand in each theorem. -/
import Derived.Test.YtnehephjliankaaPFnExactCmdFaultx0
import Derived.Test.YtnehephjliankaaPFnExactCmdFaultx1
import Derived.Test.YtnehephjliankaaPFnExactCmdFaultx3
namespace Go.Proofs.Ytnehephjliankaa.PFnExactCmdFault
open Go.RowKit Go.Proofs.YtnehephjliankaaW.PrintWords Go.Proofs.YtnehephjliankaaW.PrintLast Go.Proofs.YtnehephjliankaaW.PrintMore
attribute [local go_sem] max2_int min2_int max_two min_two max_three min_three max_four min_four   -- for this text's walks alone
set_option linter.unusedVariables false
set_option linter.unusedSimpArgs false

/-! ### spec_l12Form: function 124 -/
def spec_l12Form.j0 : Nat → List (S104) → Bool → Option (Bool)
 | 0, _, _ => none
 | k + 1, x0, x23 => if x23 = true then (some false) else (if 0 < (x0.length : Int) then ((spec_l12Has.f ((rd_T104 x0 0).f0)).bind fun t159 => (if t159 = true then (if ((rd_T104 x0 0).f0) = 8 then ((spec_l12Two.f ((rd_T104 x0 0).f0)).bind fun t161 => (if t161 = true then (if ((rd_T104 x0 0).f0) ≥ 9 then (some true) else (some (((rd_T104 x0 0).f4) == 0))) else (if ((rd_T104 x0 0).f5) = 0 then (if ((rd_T104 x0 0).f0) ≥ 9 then (some true) else (some (((rd_T104 x0 0).f4) == 0))) else (some false)))) else (if (((rd_T104 x0 0).f3).length : Int) > 0 then (some false) else ((spec_l12Two.f ((rd_T104 x0 0).f0)).bind fun t163 => (if t163 = true then (if ((rd_T104 x0 0).f0) ≥ 9 then (some true) else (some (((rd_T104 x0 0).f4) == 0))) else (if ((rd_T104 x0 0).f5) = 0 then (if ((rd_T104 x0 0).f0) ≥ 9 then (some true) else (some (((rd_T104 x0 0).f4) == 0))) else (some false)))))) else (if (((rd_T104 x0 0).f2).length : Int) > 0 then (some false) else (if ((rd_T104 x0 0).f0) = 8 then ((spec_l12Two.f ((rd_T104 x0 0).f0)).bind fun t165 => (if t165 = true then (if ((rd_T104 x0 0).f0) ≥ 9 then (some true) else (some (((rd_T104 x0 0).f4) == 0))) else (if ((rd_T104 x0 0).f5) = 0 then (if ((rd_T104 x0 0).f0) ≥ 9 then (some true) else (some (((rd_T104 x0 0).f4) == 0))) else (some false)))) else (if (((rd_T104 x0 0).f3).length : Int) > 0 then (some false) else ((spec_l12Two.f ((rd_T104 x0 0).f0)).bind fun t167 => (if t167 = true then (if ((rd_T104 x0 0).f0) ≥ 9 then (some true) else (some (((rd_T104 x0 0).f4) == 0))) else (if ((rd_T104 x0 0).f5) = 0 then (if ((rd_T104 x0 0).f0) ≥ 9 then (some true) else (some (((rd_T104 x0 0).f4) == 0))) else (some false))))))))) else (none))
def spec_l12Form.f (k : Nat) (l0 : List (S104)) : Option (Bool) := if 0 < (l0.length : Int) then ((spec_l1In.f ((rd_T104 l0 0).f0) 1 11).bind fun t156 => (if t156 = true then ((spec_l1In.f ((rd_T104 l0 0).f0) 2 5).bind fun t157 => (if t157 = true then (spec_l12Form.j0 k l0 false) else (spec_l12Form.j0 k l0 (((rd_T104 l0 0).f1) != 0)))) else (spec_l12Form.j0 k l0 true))) else (none)
set_option maxHeartbeats 8000000 in
set_option maxRecDepth 100000 in
theorem spec_l12Form.calls (k : Nat) (A0 : Option Addr) (c0 : Nat) (l0 : List (S104)) (r : Bool) (w : World) (hr0 : Kd.C k104 w A0 l0.length l0) (hc0 : l0.length ≤ c0) (h : spec_l12Form.f k l0 = some r) :
 Calls Try.prog 124 #[.pointer A0] w fun e w' => e = .returned (.bool r) ∧ Drawn0 w w' := by
 have HR0 := Aside0.mk hr0
 have HC0 := Aside0.mk hc0
 clear hr0 hc0
 have H : (if 0 < (l0.length : Int) then ((spec_l1In.f ((rd_T104 l0 0).f0) 1 11).bind fun t156 => (if t156 = true then ((spec_l1In.f ((rd_T104 l0 0).f0) 2 5).bind fun t157 => (if t157 = true then (spec_l12Form.j0 k l0 false) else (spec_l12Form.j0 k l0 (((rd_T104 l0 0).f1) != 0)))) else (spec_l12Form.j0 k l0 true))) else (none)) = some r := h
 clear h
 have HC2 := Aside0.mk H
 clear H
 go_enter Try.func124, Try.ntmps124
 go_upto_region 1 with (fail)
 go_cut [23] (fun v23 wc => ∃ (kq : Nat) (x23_1 : Bool), v23 = .bool x23_1 ∧ Aside0 (spec_l12Form.j0 kq l0 x23_1 = some r) ∧ Aside0 (kq ≤ k) ∧ Drawn0 w wc)
 case first =>
  have H := HC2.out
  clear HC2
  by_cases c3 : 0 < (l0.length : Int)
  case neg => rw [if_neg c3] at H; exact absurd H (by simp)
  rw [if_pos c3] at H
  have c3b0 : decide (0 < (l0.length : Int)) = true := decide_eq_true c3
  have c3b1 : decide (0 < l0.length) = true := decide_eq_true (by omega)
  clear c3
  (first | rw [c3b0] | (simp only [i64_w, i32_w]; rw [c3b0]) | skip)
  replace H := Option.bind_eq_some_iff.mp H
  obtain ⟨t156, A40, H⟩ := H
  (try dsimp only at H)
  have A4 := Aside0.mk A40
  clear A40
  have p155 : 0 ≤ (0 : Int) := (by omega)
  have q155 : 0 < (l0.length : Int) := od_
  obtain ⟨ad155, A155_2, c155_2, A155_3, c155_3, e155, hx155_0, hx155_1, hx155_2, hx155_3, hx155_4, hx155_5, hl155_2, hi155_2, hl155_3, hi155_3⟩ := at_T104 HR0.out 0 p155 q155
  cases e155
  have qi155 : (0 < l0.length) = True := eq_true (by omega)
  (try simp only [Int.toNat_zero, Nat.zero_mul, Addr.add_zero'] at hx155_0 hx155_1 hx155_2 hx155_3 hx155_4 hx155_5)
  have HR155_2 := Aside0.mk hi155_2
  have HC155_2 := Aside0.mk hl155_2
  clear hi155_2 hl155_2
  have HR155_3 := Aside0.mk hi155_3
  have HC155_3 := Aside0.mk hl155_3
  clear hi155_3 hl155_3
  replace p155 := eq_true p155
  replace q155 := eq_true q155
  by_cases c5 : t156 = true
  ·
   subst c5
   (try rw [if_pos rfl] at H)
   replace H := Option.bind_eq_some_iff.mp H
   obtain ⟨t157, A60, H⟩ := H
   (try dsimp only at H)
   have A6 := Aside0.mk A60
   clear A60
   by_cases c7 : t157 = true
   ·
    subst c7
    (try rw [if_pos rfl] at H)
    have H' := Aside0.mk H
    clear H
    go_wp2_with (first | ((with_reducible refine gate_callee (f := 112) rfl ?_); refine goesY_ (some 7) Try.func112 #[.int .i64 ((rd_T104 l0 0).f0), .int .i64 1, .int .i64 11] rfl ?_; (with_reducible refine (spec_l1In.calls ((rd_T104 l0 0).f0) 1 11 true _ A4.out).mono ?_); rintro e w' ⟨rfl, ⟨nd, rfl⟩⟩; refine ⟨_, rfl, ?_⟩) | (go_at_call 112; (with_reducible refine (spec_l1In.calls ((rd_T104 l0 0).f0) 2 5 true _ A6.out).mono ?_); rintro e w' ⟨rfl, ⟨nd, rfl⟩⟩))
    go_meet
    case rel => exact ⟨_, (false), vl_, H', ⟨le_⟩, dr_⟩
   ·
    replace c7 := Bool.eq_false_iff.mpr c7
    subst c7
    (try rw [if_neg (show ¬ (false = true) by decide)] at H)
    have H' := Aside0.mk H
    clear H
    go_wp2_with (first | ((with_reducible refine gate_callee (f := 112) rfl ?_); refine goesY_ (some 7) Try.func112 #[.int .i64 ((rd_T104 l0 0).f0), .int .i64 1, .int .i64 11] rfl ?_; (with_reducible refine (spec_l1In.calls ((rd_T104 l0 0).f0) 1 11 true _ A4.out).mono ?_); rintro e w' ⟨rfl, ⟨nd, rfl⟩⟩; refine ⟨_, rfl, ?_⟩) | (go_at_call 112; (with_reducible refine (spec_l1In.calls ((rd_T104 l0 0).f0) 2 5 false _ A6.out).mono ?_); rintro e w' ⟨rfl, ⟨nd, rfl⟩⟩))
    go_meet
    case rel => exact ⟨_, ((((rd_T104 l0 0).f1) != 0)), vl_, H', ⟨le_⟩, dr_⟩
  ·
   replace c5 := Bool.eq_false_iff.mpr c5
   subst c5
   (try rw [if_neg (show ¬ (false = true) by decide)] at H)
   have H' := Aside0.mk H
   clear H
   go_wp2_with (first | ((with_reducible refine gate_callee (f := 112) rfl ?_); refine goesY_ (some 7) Try.func112 #[.int .i64 ((rd_T104 l0 0).f0), .int .i64 1, .int .i64 11] rfl ?_; (with_reducible refine (spec_l1In.calls ((rd_T104 l0 0).f0) 1 11 false _ A4.out).mono ?_); rintro e w' ⟨rfl, ⟨nd, rfl⟩⟩; refine ⟨_, rfl, ?_⟩))
   go_meet
   case rel => exact ⟨_, (true), vl_, H', ⟨le_⟩, dr_⟩
 case rest =>
  clear HC2
  try clear q1
  try clear hx1
  try clear qi1
  try clear hx155_0
  try clear hx155_1
  try clear hx155_2
  try clear hx155_3
  try clear hx155_4
  try clear hx155_5
  try clear q155
  obtain ⟨kq, x23_1, rfl, HA, HJ1, ⟨mc1, rfl⟩⟩ := hcut
  cases kq with
  | zero => exact absurd HA.out (by simp [spec_l12Form.j0])
  | succ kj1 =>
    have H := HA.out
    clear HA
    simp only [spec_l12Form.j0] at H
    by_cases c8 : x23_1 = true
    ·
     subst c8
     (try rw [if_pos rfl] at H)
     obtain rfl := Option.some.inj H
     go_wp2
     go_ret
     exact ⟨vl_, dr_⟩
    ·
     replace c8 := Bool.eq_false_iff.mpr c8
     subst c8
     (try rw [if_neg (show ¬ (false = true) by decide)] at H)
     by_cases c9 : 0 < (l0.length : Int)
     ·
      rw [if_pos c9] at H
      have c9b0 : decide (0 < (l0.length : Int)) = true := decide_eq_true c9
      have c9b1 : decide (0 < l0.length) = true := decide_eq_true (by omega)
      clear c9
      replace H := Option.bind_eq_some_iff.mp H
      obtain ⟨t159, A100, H⟩ := H
      (try dsimp only at H)
      have A10 := Aside0.mk A100
      clear A100
      have p158 : 0 ≤ (0 : Int) := (by omega)
      have q158 : 0 < (l0.length : Int) := od_
      obtain ⟨ad158, A158_2, c158_2, A158_3, c158_3, e158, hx158_0, hx158_1, hx158_2, hx158_3, hx158_4, hx158_5, hl158_2, hi158_2, hl158_3, hi158_3⟩ := at_T104 HR0.out 0 p158 q158
      cases e158
      have qi158 : (0 < l0.length) = True := eq_true (by omega)
      (try simp only [Int.toNat_zero, Nat.zero_mul, Addr.add_zero'] at hx158_0 hx158_1 hx158_2 hx158_3 hx158_4 hx158_5)
      have HR158_2 := Aside0.mk hi158_2
      have HC158_2 := Aside0.mk hl158_2
      clear hi158_2 hl158_2
      have HR158_3 := Aside0.mk hi158_3
      have HC158_3 := Aside0.mk hl158_3
      clear hi158_3 hl158_3
      replace p158 := eq_true p158
      replace q158 := eq_true q158
      by_cases c11 : t159 = true
      ·
       subst c11
       (try rw [if_pos rfl] at H)
       (try clear hx155_0 hx155_1 hx155_2 hx155_3 hx155_4 hx155_5)
       (try clear hx155_0 hx155_1 hx155_2 hx155_3 hx155_4 hx155_5)
       (try clear hx155_0 hx155_1 hx155_2 hx155_3 hx155_4 hx155_5)
       by_cases c12 : ((rd_T104 l0 0).f0) = 8
       ·
        rw [if_pos c12] at H
        have c12b0 : (((rd_T104 l0 0).f0) == 8) = true := beq_iff_eq.mpr c12
        have c12b1 : (((rd_T104 l0 0).f0) != 8) = false := bne_eq_false_iff_eq.mpr c12
        clear c12
        replace H := Option.bind_eq_some_iff.mp H
        obtain ⟨t161, A130, H⟩ := H
        (try dsimp only at H)
        have A13 := Aside0.mk A130
        clear A130
        (try simp only [c12b0, c12b1])
        by_cases c14 : t161 = true
        ·
         subst c14
         (try rw [if_pos rfl] at H)
         by_cases c15 : ((rd_T104 l0 0).f0) ≥ 9
         ·
          rw [if_pos c15] at H
          have c15b0 : decide (9 ≤ ((rd_T104 l0 0).f0)) = true := decide_eq_true c15
          clear c15
          obtain rfl := Option.some.inj H
          (try simp only [c15b0])
          go_wp2_with (first | ((with_reducible refine gate_callee (f := 143) rfl ?_); refine goesY_ (some 28) Try.func143 #[.int .i64 ((rd_T104 l0 0).f0)] rfl ?_; (with_reducible refine (spec_l12Has.calls ((rd_T104 l0 0).f0) true _ A10.out).mono ?_); rintro e w' ⟨rfl, ⟨nd, rfl⟩⟩; refine ⟨_, rfl, ?_⟩) | ((with_reducible refine gate_callee (f := 144) rfl ?_); refine goesY_ (some 57) Try.func144 #[.int .i64 ((rd_T104 l0 0).f0)] rfl ?_; (with_reducible refine (spec_l12Two.calls ((rd_T104 l0 0).f0) true _ A13.out).mono ?_); rintro e w' ⟨rfl, ⟨nd, rfl⟩⟩; refine ⟨_, rfl, ?_⟩))
          go_ret
          exact ⟨vl_, dr_⟩
         ·
          rw [if_neg c15] at H
          have c15b0 : decide (9 ≤ ((rd_T104 l0 0).f0)) = false := decide_eq_false c15
          clear c15
          obtain rfl := Option.some.inj H
          (try simp only [c15b0])
          go_wp2_with (first | ((with_reducible refine gate_callee (f := 143) rfl ?_); refine goesY_ (some 28) Try.func143 #[.int .i64 ((rd_T104 l0 0).f0)] rfl ?_; (with_reducible refine (spec_l12Has.calls ((rd_T104 l0 0).f0) true _ A10.out).mono ?_); rintro e w' ⟨rfl, ⟨nd, rfl⟩⟩; refine ⟨_, rfl, ?_⟩) | ((with_reducible refine gate_callee (f := 144) rfl ?_); refine goesY_ (some 57) Try.func144 #[.int .i64 ((rd_T104 l0 0).f0)] rfl ?_; (with_reducible refine (spec_l12Two.calls ((rd_T104 l0 0).f0) true _ A13.out).mono ?_); rintro e w' ⟨rfl, ⟨nd, rfl⟩⟩; refine ⟨_, rfl, ?_⟩))
          go_ret
          exact ⟨vl_, dr_⟩
        ·
         replace c14 := Bool.eq_false_iff.mpr c14
         subst c14
         (try rw [if_neg (show ¬ (false = true) by decide)] at H)
         by_cases c16 : ((rd_T104 l0 0).f5) = 0
         ·
          rw [if_pos c16] at H
          have c16b0 : (((rd_T104 l0 0).f5) == 0) = true := beq_iff_eq.mpr c16
          have c16b1 : (((rd_T104 l0 0).f5) != 0) = false := bne_eq_false_iff_eq.mpr c16
          clear c16
          (try simp only [c16b0, c16b1])
          by_cases c17 : ((rd_T104 l0 0).f0) ≥ 9
          ·
           rw [if_pos c17] at H
           have c17b0 : decide (9 ≤ ((rd_T104 l0 0).f0)) = true := decide_eq_true c17
           clear c17
           obtain rfl := Option.some.inj H
           (try simp only [c17b0])
           go_wp2_with (first | ((with_reducible refine gate_callee (f := 143) rfl ?_); refine goesY_ (some 28) Try.func143 #[.int .i64 ((rd_T104 l0 0).f0)] rfl ?_; (with_reducible refine (spec_l12Has.calls ((rd_T104 l0 0).f0) true _ A10.out).mono ?_); rintro e w' ⟨rfl, ⟨nd, rfl⟩⟩; refine ⟨_, rfl, ?_⟩) | ((with_reducible refine gate_callee (f := 144) rfl ?_); refine goesY_ (some 57) Try.func144 #[.int .i64 ((rd_T104 l0 0).f0)] rfl ?_; (with_reducible refine (spec_l12Two.calls ((rd_T104 l0 0).f0) false _ A13.out).mono ?_); rintro e w' ⟨rfl, ⟨nd, rfl⟩⟩; refine ⟨_, rfl, ?_⟩))
           go_ret
           exact ⟨vl_, dr_⟩
          ·
           rw [if_neg c17] at H
           have c17b0 : decide (9 ≤ ((rd_T104 l0 0).f0)) = false := decide_eq_false c17
           clear c17
           obtain rfl := Option.some.inj H
           (try simp only [c17b0])
           go_wp2_with (first | ((with_reducible refine gate_callee (f := 143) rfl ?_); refine goesY_ (some 28) Try.func143 #[.int .i64 ((rd_T104 l0 0).f0)] rfl ?_; (with_reducible refine (spec_l12Has.calls ((rd_T104 l0 0).f0) true _ A10.out).mono ?_); rintro e w' ⟨rfl, ⟨nd, rfl⟩⟩; refine ⟨_, rfl, ?_⟩) | ((with_reducible refine gate_callee (f := 144) rfl ?_); refine goesY_ (some 57) Try.func144 #[.int .i64 ((rd_T104 l0 0).f0)] rfl ?_; (with_reducible refine (spec_l12Two.calls ((rd_T104 l0 0).f0) false _ A13.out).mono ?_); rintro e w' ⟨rfl, ⟨nd, rfl⟩⟩; refine ⟨_, rfl, ?_⟩))
           go_ret
           exact ⟨vl_, dr_⟩
         ·
          rw [if_neg c16] at H
          have c16b0 : (((rd_T104 l0 0).f5) == 0) = false := beq_eq_false_iff_ne.mpr c16
          have c16b1 : (((rd_T104 l0 0).f5) != 0) = true := bne_iff_ne.mpr c16
          obtain rfl := Option.some.inj H
          (try simp only [c16b0, c16b1])
          go_wp2_with (first | ((with_reducible refine gate_callee (f := 143) rfl ?_); refine goesY_ (some 28) Try.func143 #[.int .i64 ((rd_T104 l0 0).f0)] rfl ?_; (with_reducible refine (spec_l12Has.calls ((rd_T104 l0 0).f0) true _ A10.out).mono ?_); rintro e w' ⟨rfl, ⟨nd, rfl⟩⟩; refine ⟨_, rfl, ?_⟩) | ((with_reducible refine gate_callee (f := 144) rfl ?_); refine goesY_ (some 57) Try.func144 #[.int .i64 ((rd_T104 l0 0).f0)] rfl ?_; (with_reducible refine (spec_l12Two.calls ((rd_T104 l0 0).f0) false _ A13.out).mono ?_); rintro e w' ⟨rfl, ⟨nd, rfl⟩⟩; refine ⟨_, rfl, ?_⟩))
          go_ret
          exact ⟨vl_, dr_⟩
       ·
        rw [if_neg c12] at H
        have c12b0 : (((rd_T104 l0 0).f0) == 8) = false := beq_eq_false_iff_ne.mpr c12
        have c12b1 : (((rd_T104 l0 0).f0) != 8) = true := bne_iff_ne.mpr c12
        (try simp only [c12b0, c12b1])
        by_cases c18 : (((rd_T104 l0 0).f3).length : Int) > 0
        ·
         rw [if_pos c18] at H
         have c18b0 : decide (0 < (((rd_T104 l0 0).f3).length : Int)) = true := decide_eq_true c18
         have c18b1 : decide (0 < ((rd_T104 l0 0).f3).length) = true := decide_eq_true (by omega)
         clear c18
         obtain rfl := Option.some.inj H
         (try simp only [c18b0, c18b1])
         go_wp2_with (first | ((with_reducible refine gate_callee (f := 143) rfl ?_); refine goesY_ (some 28) Try.func143 #[.int .i64 ((rd_T104 l0 0).f0)] rfl ?_; (with_reducible refine (spec_l12Has.calls ((rd_T104 l0 0).f0) true _ A10.out).mono ?_); rintro e w' ⟨rfl, ⟨nd, rfl⟩⟩; refine ⟨_, rfl, ?_⟩))
         go_ret
         exact ⟨vl_, dr_⟩
        ·
         rw [if_neg c18] at H
         have c18b0 : decide (0 < (((rd_T104 l0 0).f3).length : Int)) = false := decide_eq_false c18
         have c18b1 : decide (0 < ((rd_T104 l0 0).f3).length) = false := decide_eq_false (by omega)
         clear c18
         replace H := Option.bind_eq_some_iff.mp H
         obtain ⟨t163, A190, H⟩ := H
         (try dsimp only at H)
         have A19 := Aside0.mk A190
         clear A190
         (try simp only [c18b0, c18b1])
         by_cases c20 : t163 = true
         ·
          subst c20
          (try rw [if_pos rfl] at H)
          by_cases c21 : ((rd_T104 l0 0).f0) ≥ 9
          ·
           rw [if_pos c21] at H
           have c21b0 : decide (9 ≤ ((rd_T104 l0 0).f0)) = true := decide_eq_true c21
           clear c21
           obtain rfl := Option.some.inj H
           (try simp only [c21b0])
           go_wp2_with (first | ((with_reducible refine gate_callee (f := 143) rfl ?_); refine goesY_ (some 28) Try.func143 #[.int .i64 ((rd_T104 l0 0).f0)] rfl ?_; (with_reducible refine (spec_l12Has.calls ((rd_T104 l0 0).f0) true _ A10.out).mono ?_); rintro e w' ⟨rfl, ⟨nd, rfl⟩⟩; refine ⟨_, rfl, ?_⟩) | ((with_reducible refine gate_callee (f := 144) rfl ?_); refine goesY_ (some 57) Try.func144 #[.int .i64 ((rd_T104 l0 0).f0)] rfl ?_; (with_reducible refine (spec_l12Two.calls ((rd_T104 l0 0).f0) true _ A19.out).mono ?_); rintro e w' ⟨rfl, ⟨nd, rfl⟩⟩; refine ⟨_, rfl, ?_⟩))
           go_ret
           exact ⟨vl_, dr_⟩
          ·
           rw [if_neg c21] at H
           have c21b0 : decide (9 ≤ ((rd_T104 l0 0).f0)) = false := decide_eq_false c21
           clear c21
           obtain rfl := Option.some.inj H
           (try simp only [c21b0])
           go_wp2_with (first | ((with_reducible refine gate_callee (f := 143) rfl ?_); refine goesY_ (some 28) Try.func143 #[.int .i64 ((rd_T104 l0 0).f0)] rfl ?_; (with_reducible refine (spec_l12Has.calls ((rd_T104 l0 0).f0) true _ A10.out).mono ?_); rintro e w' ⟨rfl, ⟨nd, rfl⟩⟩; refine ⟨_, rfl, ?_⟩) | ((with_reducible refine gate_callee (f := 144) rfl ?_); refine goesY_ (some 57) Try.func144 #[.int .i64 ((rd_T104 l0 0).f0)] rfl ?_; (with_reducible refine (spec_l12Two.calls ((rd_T104 l0 0).f0) true _ A19.out).mono ?_); rintro e w' ⟨rfl, ⟨nd, rfl⟩⟩; refine ⟨_, rfl, ?_⟩))
           go_ret
           exact ⟨vl_, dr_⟩
         ·
          replace c20 := Bool.eq_false_iff.mpr c20
          subst c20
          (try rw [if_neg (show ¬ (false = true) by decide)] at H)
          by_cases c22 : ((rd_T104 l0 0).f5) = 0
          ·
           rw [if_pos c22] at H
           have c22b0 : (((rd_T104 l0 0).f5) == 0) = true := beq_iff_eq.mpr c22
           have c22b1 : (((rd_T104 l0 0).f5) != 0) = false := bne_eq_false_iff_eq.mpr c22
           clear c22
           (try simp only [c22b0, c22b1])
           by_cases c23 : ((rd_T104 l0 0).f0) ≥ 9
           ·
            rw [if_pos c23] at H
            have c23b0 : decide (9 ≤ ((rd_T104 l0 0).f0)) = true := decide_eq_true c23
            clear c23
            obtain rfl := Option.some.inj H
            (try simp only [c23b0])
            go_wp2_with (first | ((with_reducible refine gate_callee (f := 143) rfl ?_); refine goesY_ (some 28) Try.func143 #[.int .i64 ((rd_T104 l0 0).f0)] rfl ?_; (with_reducible refine (spec_l12Has.calls ((rd_T104 l0 0).f0) true _ A10.out).mono ?_); rintro e w' ⟨rfl, ⟨nd, rfl⟩⟩; refine ⟨_, rfl, ?_⟩) | ((with_reducible refine gate_callee (f := 144) rfl ?_); refine goesY_ (some 57) Try.func144 #[.int .i64 ((rd_T104 l0 0).f0)] rfl ?_; (with_reducible refine (spec_l12Two.calls ((rd_T104 l0 0).f0) false _ A19.out).mono ?_); rintro e w' ⟨rfl, ⟨nd, rfl⟩⟩; refine ⟨_, rfl, ?_⟩))
            go_ret
            exact ⟨vl_, dr_⟩
           ·
            rw [if_neg c23] at H
            have c23b0 : decide (9 ≤ ((rd_T104 l0 0).f0)) = false := decide_eq_false c23
            clear c23
            obtain rfl := Option.some.inj H
            (try simp only [c23b0])
            go_wp2_with (first | ((with_reducible refine gate_callee (f := 143) rfl ?_); refine goesY_ (some 28) Try.func143 #[.int .i64 ((rd_T104 l0 0).f0)] rfl ?_; (with_reducible refine (spec_l12Has.calls ((rd_T104 l0 0).f0) true _ A10.out).mono ?_); rintro e w' ⟨rfl, ⟨nd, rfl⟩⟩; refine ⟨_, rfl, ?_⟩) | ((with_reducible refine gate_callee (f := 144) rfl ?_); refine goesY_ (some 57) Try.func144 #[.int .i64 ((rd_T104 l0 0).f0)] rfl ?_; (with_reducible refine (spec_l12Two.calls ((rd_T104 l0 0).f0) false _ A19.out).mono ?_); rintro e w' ⟨rfl, ⟨nd, rfl⟩⟩; refine ⟨_, rfl, ?_⟩))
            go_ret
            exact ⟨vl_, dr_⟩
          ·
           rw [if_neg c22] at H
           have c22b0 : (((rd_T104 l0 0).f5) == 0) = false := beq_eq_false_iff_ne.mpr c22
           have c22b1 : (((rd_T104 l0 0).f5) != 0) = true := bne_iff_ne.mpr c22
           obtain rfl := Option.some.inj H
           (try simp only [c22b0, c22b1])
           go_wp2_with (first | ((with_reducible refine gate_callee (f := 143) rfl ?_); refine goesY_ (some 28) Try.func143 #[.int .i64 ((rd_T104 l0 0).f0)] rfl ?_; (with_reducible refine (spec_l12Has.calls ((rd_T104 l0 0).f0) true _ A10.out).mono ?_); rintro e w' ⟨rfl, ⟨nd, rfl⟩⟩; refine ⟨_, rfl, ?_⟩) | ((with_reducible refine gate_callee (f := 144) rfl ?_); refine goesY_ (some 57) Try.func144 #[.int .i64 ((rd_T104 l0 0).f0)] rfl ?_; (with_reducible refine (spec_l12Two.calls ((rd_T104 l0 0).f0) false _ A19.out).mono ?_); rintro e w' ⟨rfl, ⟨nd, rfl⟩⟩; refine ⟨_, rfl, ?_⟩))
           go_ret
           exact ⟨vl_, dr_⟩
      ·
       replace c11 := Bool.eq_false_iff.mpr c11
       subst c11
       (try rw [if_neg (show ¬ (false = true) by decide)] at H)
       by_cases c24 : (((rd_T104 l0 0).f2).length : Int) > 0
       ·
        rw [if_pos c24] at H
        have c24b0 : decide (0 < (((rd_T104 l0 0).f2).length : Int)) = true := decide_eq_true c24
        have c24b1 : decide (0 < ((rd_T104 l0 0).f2).length) = true := decide_eq_true (by omega)
        clear c24
        obtain rfl := Option.some.inj H
        (try simp only [c24b0, c24b1])
        (try clear hx155_0 hx155_1 hx155_2 hx155_3 hx155_4 hx155_5)
        (try clear hx155_0 hx155_1 hx155_2 hx155_3 hx155_4 hx155_5)
        (try clear hx155_0 hx155_1 hx155_2 hx155_3 hx155_4 hx155_5)
        go_wp2_with (first | ((with_reducible refine gate_callee (f := 143) rfl ?_); refine goesY_ (some 28) Try.func143 #[.int .i64 ((rd_T104 l0 0).f0)] rfl ?_; (with_reducible refine (spec_l12Has.calls ((rd_T104 l0 0).f0) false _ A10.out).mono ?_); rintro e w' ⟨rfl, ⟨nd, rfl⟩⟩; refine ⟨_, rfl, ?_⟩))
        go_ret
        exact ⟨vl_, dr_⟩
       ·
        rw [if_neg c24] at H
        have c24b0 : decide (0 < (((rd_T104 l0 0).f2).length : Int)) = false := decide_eq_false c24
        have c24b1 : decide (0 < ((rd_T104 l0 0).f2).length) = false := decide_eq_false (by omega)
        clear c24
        (try simp only [c24b0, c24b1])
        by_cases c25 : ((rd_T104 l0 0).f0) = 8
        ·
         rw [if_pos c25] at H
         have c25b0 : (((rd_T104 l0 0).f0) == 8) = true := beq_iff_eq.mpr c25
         have c25b1 : (((rd_T104 l0 0).f0) != 8) = false := bne_eq_false_iff_eq.mpr c25
         clear c25
         replace H := Option.bind_eq_some_iff.mp H
         obtain ⟨t165, A260, H⟩ := H
         (try dsimp only at H)
         have A26 := Aside0.mk A260
         clear A260
         (try simp only [c25b0, c25b1])
         by_cases c27 : t165 = true
         ·
          subst c27
          (try rw [if_pos rfl] at H)
          (try clear hx155_0 hx155_1 hx155_2 hx155_3 hx155_4 hx155_5)
          (try clear hx155_0 hx155_1 hx155_2 hx155_3 hx155_4 hx155_5)
          (try clear hx155_0 hx155_1 hx155_2 hx155_3 hx155_4 hx155_5)
          by_cases c28 : ((rd_T104 l0 0).f0) ≥ 9
          ·
           rw [if_pos c28] at H
           have c28b0 : decide (9 ≤ ((rd_T104 l0 0).f0)) = true := decide_eq_true c28
           clear c28
           obtain rfl := Option.some.inj H
           (try simp only [c28b0])
           go_wp2_with (first | ((with_reducible refine gate_callee (f := 143) rfl ?_); refine goesY_ (some 28) Try.func143 #[.int .i64 ((rd_T104 l0 0).f0)] rfl ?_; (with_reducible refine (spec_l12Has.calls ((rd_T104 l0 0).f0) false _ A10.out).mono ?_); rintro e w' ⟨rfl, ⟨nd, rfl⟩⟩; refine ⟨_, rfl, ?_⟩) | ((with_reducible refine gate_callee (f := 144) rfl ?_); refine goesY_ (some 57) Try.func144 #[.int .i64 ((rd_T104 l0 0).f0)] rfl ?_; (with_reducible refine (spec_l12Two.calls ((rd_T104 l0 0).f0) true _ A26.out).mono ?_); rintro e w' ⟨rfl, ⟨nd, rfl⟩⟩; refine ⟨_, rfl, ?_⟩))
           go_ret
           exact ⟨vl_, dr_⟩
          ·
           rw [if_neg c28] at H
           have c28b0 : decide (9 ≤ ((rd_T104 l0 0).f0)) = false := decide_eq_false c28
           clear c28
           obtain rfl := Option.some.inj H
           (try simp only [c28b0])
           go_wp2_with (first | ((with_reducible refine gate_callee (f := 143) rfl ?_); refine goesY_ (some 28) Try.func143 #[.int .i64 ((rd_T104 l0 0).f0)] rfl ?_; (with_reducible refine (spec_l12Has.calls ((rd_T104 l0 0).f0) false _ A10.out).mono ?_); rintro e w' ⟨rfl, ⟨nd, rfl⟩⟩; refine ⟨_, rfl, ?_⟩) | ((with_reducible refine gate_callee (f := 144) rfl ?_); refine goesY_ (some 57) Try.func144 #[.int .i64 ((rd_T104 l0 0).f0)] rfl ?_; (with_reducible refine (spec_l12Two.calls ((rd_T104 l0 0).f0) true _ A26.out).mono ?_); rintro e w' ⟨rfl, ⟨nd, rfl⟩⟩; refine ⟨_, rfl, ?_⟩))
           go_ret
           exact ⟨vl_, dr_⟩
         ·
          replace c27 := Bool.eq_false_iff.mpr c27
          subst c27
          (try rw [if_neg (show ¬ (false = true) by decide)] at H)
          by_cases c29 : ((rd_T104 l0 0).f5) = 0
          ·
           rw [if_pos c29] at H
           have c29b0 : (((rd_T104 l0 0).f5) == 0) = true := beq_iff_eq.mpr c29
           have c29b1 : (((rd_T104 l0 0).f5) != 0) = false := bne_eq_false_iff_eq.mpr c29
           clear c29
           (try simp only [c29b0, c29b1])
           (try clear hx155_0 hx155_1 hx155_2 hx155_3 hx155_4 hx155_5)
           by_cases c30 : ((rd_T104 l0 0).f0) ≥ 9
           ·
            rw [if_pos c30] at H
            have c30b0 : decide (9 ≤ ((rd_T104 l0 0).f0)) = true := decide_eq_true c30
            clear c30
            obtain rfl := Option.some.inj H
            (try simp only [c30b0])
            (try clear hx155_0 hx155_1 hx155_2 hx155_3 hx155_4 hx155_5)
            go_wp2_with (first | ((with_reducible refine gate_callee (f := 143) rfl ?_); refine goesY_ (some 28) Try.func143 #[.int .i64 ((rd_T104 l0 0).f0)] rfl ?_; (with_reducible refine (spec_l12Has.calls ((rd_T104 l0 0).f0) false _ A10.out).mono ?_); rintro e w' ⟨rfl, ⟨nd, rfl⟩⟩; refine ⟨_, rfl, ?_⟩) | ((with_reducible refine gate_callee (f := 144) rfl ?_); refine goesY_ (some 57) Try.func144 #[.int .i64 ((rd_T104 l0 0).f0)] rfl ?_; (with_reducible refine (spec_l12Two.calls ((rd_T104 l0 0).f0) false _ A26.out).mono ?_); rintro e w' ⟨rfl, ⟨nd, rfl⟩⟩; refine ⟨_, rfl, ?_⟩))
            go_ret
            exact ⟨vl_, dr_⟩
           ·
            rw [if_neg c30] at H
            have c30b0 : decide (9 ≤ ((rd_T104 l0 0).f0)) = false := decide_eq_false c30
            clear c30
            obtain rfl := Option.some.inj H
            (try simp only [c30b0])
            go_wp2_with (first | ((with_reducible refine gate_callee (f := 143) rfl ?_); refine goesY_ (some 28) Try.func143 #[.int .i64 ((rd_T104 l0 0).f0)] rfl ?_; (with_reducible refine (spec_l12Has.calls ((rd_T104 l0 0).f0) false _ A10.out).mono ?_); rintro e w' ⟨rfl, ⟨nd, rfl⟩⟩; refine ⟨_, rfl, ?_⟩) | ((with_reducible refine gate_callee (f := 144) rfl ?_); refine goesY_ (some 57) Try.func144 #[.int .i64 ((rd_T104 l0 0).f0)] rfl ?_; (with_reducible refine (spec_l12Two.calls ((rd_T104 l0 0).f0) false _ A26.out).mono ?_); rintro e w' ⟨rfl, ⟨nd, rfl⟩⟩; refine ⟨_, rfl, ?_⟩))
            go_ret
            exact ⟨vl_, dr_⟩
          ·
           rw [if_neg c29] at H
           have c29b0 : (((rd_T104 l0 0).f5) == 0) = false := beq_eq_false_iff_ne.mpr c29
           have c29b1 : (((rd_T104 l0 0).f5) != 0) = true := bne_iff_ne.mpr c29
           obtain rfl := Option.some.inj H
           (try simp only [c29b0, c29b1])
           go_wp2_with (first | ((with_reducible refine gate_callee (f := 143) rfl ?_); refine goesY_ (some 28) Try.func143 #[.int .i64 ((rd_T104 l0 0).f0)] rfl ?_; (with_reducible refine (spec_l12Has.calls ((rd_T104 l0 0).f0) false _ A10.out).mono ?_); rintro e w' ⟨rfl, ⟨nd, rfl⟩⟩; refine ⟨_, rfl, ?_⟩) | ((with_reducible refine gate_callee (f := 144) rfl ?_); refine goesY_ (some 57) Try.func144 #[.int .i64 ((rd_T104 l0 0).f0)] rfl ?_; (with_reducible refine (spec_l12Two.calls ((rd_T104 l0 0).f0) false _ A26.out).mono ?_); rintro e w' ⟨rfl, ⟨nd, rfl⟩⟩; refine ⟨_, rfl, ?_⟩))
           go_ret
           exact ⟨vl_, dr_⟩
        ·
         rw [if_neg c25] at H
         have c25b0 : (((rd_T104 l0 0).f0) == 8) = false := beq_eq_false_iff_ne.mpr c25
         have c25b1 : (((rd_T104 l0 0).f0) != 8) = true := bne_iff_ne.mpr c25
         (try simp only [c25b0, c25b1])
         by_cases c31 : (((rd_T104 l0 0).f3).length : Int) > 0
         ·
          rw [if_pos c31] at H
          have c31b0 : decide (0 < (((rd_T104 l0 0).f3).length : Int)) = true := decide_eq_true c31
          have c31b1 : decide (0 < ((rd_T104 l0 0).f3).length) = true := decide_eq_true (by omega)
          clear c31
          obtain rfl := Option.some.inj H
          (try simp only [c31b0, c31b1])
          go_wp2_with (first | ((with_reducible refine gate_callee (f := 143) rfl ?_); refine goesY_ (some 28) Try.func143 #[.int .i64 ((rd_T104 l0 0).f0)] rfl ?_; (with_reducible refine (spec_l12Has.calls ((rd_T104 l0 0).f0) false _ A10.out).mono ?_); rintro e w' ⟨rfl, ⟨nd, rfl⟩⟩; refine ⟨_, rfl, ?_⟩))
          go_ret
          exact ⟨vl_, dr_⟩
         ·
          rw [if_neg c31] at H
          have c31b0 : decide (0 < (((rd_T104 l0 0).f3).length : Int)) = false := decide_eq_false c31
          have c31b1 : decide (0 < ((rd_T104 l0 0).f3).length) = false := decide_eq_false (by omega)
          clear c31
          replace H := Option.bind_eq_some_iff.mp H
          obtain ⟨t167, A320, H⟩ := H
          (try dsimp only at H)
          have A32 := Aside0.mk A320
          clear A320
          (try simp only [c31b0, c31b1])
          by_cases c33 : t167 = true
          ·
           subst c33
           (try rw [if_pos rfl] at H)
           by_cases c34 : ((rd_T104 l0 0).f0) ≥ 9
           ·
            rw [if_pos c34] at H
            have c34b0 : decide (9 ≤ ((rd_T104 l0 0).f0)) = true := decide_eq_true c34
            clear c34
            obtain rfl := Option.some.inj H
            (try simp only [c34b0])
            go_wp2_with (first | ((with_reducible refine gate_callee (f := 143) rfl ?_); refine goesY_ (some 28) Try.func143 #[.int .i64 ((rd_T104 l0 0).f0)] rfl ?_; (with_reducible refine (spec_l12Has.calls ((rd_T104 l0 0).f0) false _ A10.out).mono ?_); rintro e w' ⟨rfl, ⟨nd, rfl⟩⟩; refine ⟨_, rfl, ?_⟩) | ((with_reducible refine gate_callee (f := 144) rfl ?_); refine goesY_ (some 57) Try.func144 #[.int .i64 ((rd_T104 l0 0).f0)] rfl ?_; (with_reducible refine (spec_l12Two.calls ((rd_T104 l0 0).f0) true _ A32.out).mono ?_); rintro e w' ⟨rfl, ⟨nd, rfl⟩⟩; refine ⟨_, rfl, ?_⟩))
            go_ret
            exact ⟨vl_, dr_⟩
           ·
            rw [if_neg c34] at H
            have c34b0 : decide (9 ≤ ((rd_T104 l0 0).f0)) = false := decide_eq_false c34
            clear c34
            obtain rfl := Option.some.inj H
            (try simp only [c34b0])
            go_wp2_with (first | ((with_reducible refine gate_callee (f := 143) rfl ?_); refine goesY_ (some 28) Try.func143 #[.int .i64 ((rd_T104 l0 0).f0)] rfl ?_; (with_reducible refine (spec_l12Has.calls ((rd_T104 l0 0).f0) false _ A10.out).mono ?_); rintro e w' ⟨rfl, ⟨nd, rfl⟩⟩; refine ⟨_, rfl, ?_⟩) | ((with_reducible refine gate_callee (f := 144) rfl ?_); refine goesY_ (some 57) Try.func144 #[.int .i64 ((rd_T104 l0 0).f0)] rfl ?_; (with_reducible refine (spec_l12Two.calls ((rd_T104 l0 0).f0) true _ A32.out).mono ?_); rintro e w' ⟨rfl, ⟨nd, rfl⟩⟩; refine ⟨_, rfl, ?_⟩))
            go_ret
            exact ⟨vl_, dr_⟩
          ·
           replace c33 := Bool.eq_false_iff.mpr c33
           subst c33
           (try rw [if_neg (show ¬ (false = true) by decide)] at H)
           by_cases c35 : ((rd_T104 l0 0).f5) = 0
           ·
            rw [if_pos c35] at H
            have c35b0 : (((rd_T104 l0 0).f5) == 0) = true := beq_iff_eq.mpr c35
            have c35b1 : (((rd_T104 l0 0).f5) != 0) = false := bne_eq_false_iff_eq.mpr c35
            clear c35
            (try simp only [c35b0, c35b1])
            by_cases c36 : ((rd_T104 l0 0).f0) ≥ 9
            ·
             rw [if_pos c36] at H
             have c36b0 : decide (9 ≤ ((rd_T104 l0 0).f0)) = true := decide_eq_true c36
             clear c36
             obtain rfl := Option.some.inj H
             (try simp only [c36b0])
             go_wp2_with (first | ((with_reducible refine gate_callee (f := 143) rfl ?_); refine goesY_ (some 28) Try.func143 #[.int .i64 ((rd_T104 l0 0).f0)] rfl ?_; (with_reducible refine (spec_l12Has.calls ((rd_T104 l0 0).f0) false _ A10.out).mono ?_); rintro e w' ⟨rfl, ⟨nd, rfl⟩⟩; refine ⟨_, rfl, ?_⟩) | ((with_reducible refine gate_callee (f := 144) rfl ?_); refine goesY_ (some 57) Try.func144 #[.int .i64 ((rd_T104 l0 0).f0)] rfl ?_; (with_reducible refine (spec_l12Two.calls ((rd_T104 l0 0).f0) false _ A32.out).mono ?_); rintro e w' ⟨rfl, ⟨nd, rfl⟩⟩; refine ⟨_, rfl, ?_⟩))
             go_ret
             exact ⟨vl_, dr_⟩
            ·
             rw [if_neg c36] at H
             have c36b0 : decide (9 ≤ ((rd_T104 l0 0).f0)) = false := decide_eq_false c36
             clear c36
             obtain rfl := Option.some.inj H
             (try simp only [c36b0])
             go_wp2_with (first | ((with_reducible refine gate_callee (f := 143) rfl ?_); refine goesY_ (some 28) Try.func143 #[.int .i64 ((rd_T104 l0 0).f0)] rfl ?_; (with_reducible refine (spec_l12Has.calls ((rd_T104 l0 0).f0) false _ A10.out).mono ?_); rintro e w' ⟨rfl, ⟨nd, rfl⟩⟩; refine ⟨_, rfl, ?_⟩) | ((with_reducible refine gate_callee (f := 144) rfl ?_); refine goesY_ (some 57) Try.func144 #[.int .i64 ((rd_T104 l0 0).f0)] rfl ?_; (with_reducible refine (spec_l12Two.calls ((rd_T104 l0 0).f0) false _ A32.out).mono ?_); rintro e w' ⟨rfl, ⟨nd, rfl⟩⟩; refine ⟨_, rfl, ?_⟩))
             go_ret
             exact ⟨vl_, dr_⟩
           ·
            rw [if_neg c35] at H
            have c35b0 : (((rd_T104 l0 0).f5) == 0) = false := beq_eq_false_iff_ne.mpr c35
            have c35b1 : (((rd_T104 l0 0).f5) != 0) = true := bne_iff_ne.mpr c35
            obtain rfl := Option.some.inj H
            (try simp only [c35b0, c35b1])
            go_wp2_with (first | ((with_reducible refine gate_callee (f := 143) rfl ?_); refine goesY_ (some 28) Try.func143 #[.int .i64 ((rd_T104 l0 0).f0)] rfl ?_; (with_reducible refine (spec_l12Has.calls ((rd_T104 l0 0).f0) false _ A10.out).mono ?_); rintro e w' ⟨rfl, ⟨nd, rfl⟩⟩; refine ⟨_, rfl, ?_⟩) | ((with_reducible refine gate_callee (f := 144) rfl ?_); refine goesY_ (some 57) Try.func144 #[.int .i64 ((rd_T104 l0 0).f0)] rfl ?_; (with_reducible refine (spec_l12Two.calls ((rd_T104 l0 0).f0) false _ A32.out).mono ?_); rintro e w' ⟨rfl, ⟨nd, rfl⟩⟩; refine ⟨_, rfl, ?_⟩))
            go_ret
            exact ⟨vl_, dr_⟩
     · rw [if_neg c9] at H
       exact absurd H (by simp)

/-! ### spec_l2Char: function 153 -/
def spec_l2Char.f (a0 : Int) : Option (Bool) := (spec_l1In.f a0 0 55295).bind fun t168 => (if t168 = true then (some true) else ((spec_l1In.f a0 57344 65535).bind fun t169 => (some t169)))
set_option maxHeartbeats 8000000 in
set_option maxRecDepth 100000 in
theorem spec_l2Char.calls (a0 : Int) (r : Bool) (w : World) (h : spec_l2Char.f a0 = some r) :
 Calls Try.prog 153 #[.int .i64 a0] w fun e w' => e = .returned (.bool r) ∧ Drawn0 w w' := by
 have H : ((spec_l1In.f a0 0 55295).bind fun t168 => (if t168 = true then (some true) else ((spec_l1In.f a0 57344 65535).bind fun t169 => (some t169)))) = some r := h
 clear h
 replace H := Option.bind_eq_some_iff.mp H
 obtain ⟨t168, A20, H⟩ := H
 (try dsimp only at H)
 have A2 := Aside0.mk A20
 clear A20
 by_cases c3 : t168 = true
 ·
  subst c3
  (try rw [if_pos rfl] at H)
  obtain rfl := Option.some.inj H
  go_enter Try.func153, Try.ntmps153
  go_wp2_with (first | ((with_reducible refine gate_callee (f := 112) rfl ?_); refine goesY_ (some 4) Try.func112 #[.int .i64 a0, .int .i64 0, .int .i64 55295] rfl ?_; (with_reducible refine (spec_l1In.calls a0 0 55295 true _ A2.out).mono ?_); rintro e w' ⟨rfl, ⟨nd, rfl⟩⟩; refine ⟨_, rfl, ?_⟩))
  go_ret
  exact ⟨vl_, dr_⟩
 ·
  replace c3 := Bool.eq_false_iff.mpr c3
  subst c3
  (try rw [if_neg (show ¬ (false = true) by decide)] at H)
  replace H := Option.bind_eq_some_iff.mp H
  obtain ⟨t169, A40, H⟩ := H
  replace H : (some t169) = some r := H
  have A4 := Aside0.mk A40
  clear A40
  obtain rfl := Option.some.inj H
  go_enter Try.func153, Try.ntmps153
  go_wp2_with (first | ((with_reducible refine gate_callee (f := 112) rfl ?_); refine goesY_ (some 4) Try.func112 #[.int .i64 a0, .int .i64 0, .int .i64 55295] rfl ?_; (with_reducible refine (spec_l1In.calls a0 0 55295 false _ A2.out).mono ?_); rintro e w' ⟨rfl, ⟨nd, rfl⟩⟩; refine ⟨_, rfl, ?_⟩) | (go_at_call 112; (with_reducible refine (spec_l1In.calls a0 57344 65535 t169 _ A4.out).mono ?_); rintro e w' ⟨rfl, ⟨nd, rfl⟩⟩))
  go_ret
  exact ⟨vl_, dr_⟩

/-! ### spec_l12Codes: function 145 -/
def spec_l12Codes.l0 : Nat → List Int → Int → Option (Bool)
 | 0, _, _ => none
 | k + 1, x0, x3 => if x3 < (x0.length : Int) then (if 0 ≤ x3 then ((spec_l2Char.f (rd x0 x3)).bind fun t171 => (if t171 = true then (if (rd x0 x3) < 33 then (some false) else (if (rd x0 x3) = 127 then (some false) else (spec_l12Codes.l0 k x0 (wrap64 (x3 + 1))))) else (some false))) else (none)) else ((spec_l1In.f (x0.length : Int) 1 20).bind fun t174 => (some t174))
def spec_l12Codes.f (k : Nat) (l0 : List Int) : Option (Bool) := spec_l12Codes.l0 k l0 0
set_option maxHeartbeats 8000000 in
set_option maxRecDepth 100000 in
theorem spec_l12Codes.calls (k : Nat) (A0 : Option Addr) (c0 : Nat) (l0 : List Int) (r : Bool) (w : World) (hr0 : Kd.C (Kd.int .i64) w A0 l0.length l0) (hc0 : l0.length ≤ c0) (h : spec_l12Codes.f k l0 = some r) :
 Calls Try.prog 145 #[.slice A0 l0.length c0] w fun e w' => e = .returned (.bool r) ∧ Drawn0 w w' := by
 have HR0 := Aside0.mk hr0
 have HC0 := Aside0.mk hc0
 clear hr0 hc0
 have H : (spec_l12Codes.l0 k l0 0) = some r := h
 clear h
 have H' := Aside0.mk H
 clear H
 go_enter Try.func145, Try.ntmps145
 go_wp2
 go_loopg [3] k (fun kq v3 w' => ∃ (x3_1 : Int), v3 = .int .i64 x3_1 ∧ Aside0 (spec_l12Codes.l0 kq l0 x3_1 = some r) ∧ Aside0 (kq ≤ k) ∧ Drawn0 w w')
 case atStart => exact ⟨(0), vl_, H', ⟨Nat.le_refl _⟩, dr_⟩
 case round =>
  clear H'
  obtain ⟨x3_1, rfl, HA, HK1, ⟨m1, rfl⟩⟩ := hrel
  cases gk with
  | zero => exact absurd HA.out (by simp [spec_l12Codes.l0])
  | succ k1 =>
    have H := HA.out
    clear HA
    simp only [spec_l12Codes.l0] at H
    by_cases c2 : x3_1 < (l0.length : Int)
    ·
     rw [if_pos c2] at H
     have c2b0 : decide (x3_1 < (l0.length : Int)) = true := decide_eq_true c2
     clear c2
     by_cases c3 : 0 ≤ x3_1
     case neg => rw [if_neg c3] at H; exact absurd H (by simp)
     rw [if_pos c3] at H
     have c3b0 : decide (0 ≤ x3_1) = true := decide_eq_true c3
     clear c3
     replace H := Option.bind_eq_some_iff.mp H
     obtain ⟨t171, A40, H⟩ := H
     (try dsimp only at H)
     have A4 := Aside0.mk A40
     clear A40
     have p170 : 0 ≤ (x3_1 : Int) := od_
     have q170 : x3_1 < (l0.length : Int) := od_
     obtain ⟨ad170, e170, hx170_0⟩ := Kd.at_int HR0.out x3_1 p170 q170
     cases e170
     replace p170 := eq_true p170
     replace q170 := eq_true q170
     by_cases c5 : t171 = true
     ·
      subst c5
      (try rw [if_pos rfl] at H)
      by_cases c6 : (rd l0 x3_1) < 33
      ·
       rw [if_pos c6] at H
       have c6b0 : decide ((rd l0 x3_1) < 33) = true := decide_eq_true c6
       clear c6
       obtain rfl := Option.some.inj H
       go_wp2_with (first | ((with_reducible refine gate_callee (f := 153) rfl ?_); refine goesY_ (some 14) Try.func153 #[.int .i64 (rd l0 x3_1)] rfl ?_; (with_reducible refine (spec_l2Char.calls (rd l0 x3_1) true _ A4.out).mono ?_); rintro e w' ⟨rfl, ⟨nd, rfl⟩⟩; refine ⟨_, rfl, ?_⟩; have p172 : 0 ≤ (x3_1 : Int) := od_; have q172 : x3_1 < (l0.length : Int) := od_; obtain ⟨ad172, e172, hx172_0⟩ := Kd.at_int HR0.out x3_1 p172 q172; obtain rfl : ad170 = ad172 := (by injection e172); replace p172 := eq_true p172; replace q172 := eq_true q172))
       go_ret
       exact ⟨vl_, dr_⟩
      ·
       rw [if_neg c6] at H
       have c6b0 : decide ((rd l0 x3_1) < 33) = false := decide_eq_false c6
       clear c6
       by_cases c7 : (rd l0 x3_1) = 127
       ·
        rw [if_pos c7] at H
        have c7b0 : ((rd l0 x3_1) == 127) = true := beq_iff_eq.mpr c7
        have c7b1 : ((rd l0 x3_1) != 127) = false := bne_eq_false_iff_eq.mpr c7
        clear c7
        obtain rfl := Option.some.inj H
        go_wp2_with (first | ((with_reducible refine gate_callee (f := 153) rfl ?_); refine goesY_ (some 14) Try.func153 #[.int .i64 (rd l0 x3_1)] rfl ?_; (with_reducible refine (spec_l2Char.calls (rd l0 x3_1) true _ A4.out).mono ?_); rintro e w' ⟨rfl, ⟨nd, rfl⟩⟩; refine ⟨_, rfl, ?_⟩; have p172 : 0 ≤ (x3_1 : Int) := od_; have q172 : x3_1 < (l0.length : Int) := od_; obtain ⟨ad172, e172, hx172_0⟩ := Kd.at_int HR0.out x3_1 p172 q172; obtain rfl : ad170 = ad172 := (by injection e172); replace p172 := eq_true p172; replace q172 := eq_true q172; have p173 : 0 ≤ (x3_1 : Int) := od_; have q173 : x3_1 < (l0.length : Int) := od_; obtain ⟨ad173, e173, hx173_0⟩ := Kd.at_int HR0.out x3_1 p173 q173; obtain rfl : ad170 = ad173 := (by injection e173); replace p173 := eq_true p173; replace q173 := eq_true q173))
        go_ret
        exact ⟨vl_, dr_⟩
       ·
        rw [if_neg c7] at H
        have c7b0 : ((rd l0 x3_1) == 127) = false := beq_eq_false_iff_ne.mpr c7
        have c7b1 : ((rd l0 x3_1) != 127) = true := bne_iff_ne.mpr c7
        have H' := Aside0.mk H
        clear H
        go_wp2_with (first | ((with_reducible refine gate_callee (f := 153) rfl ?_); refine goesY_ (some 14) Try.func153 #[.int .i64 (rd l0 x3_1)] rfl ?_; (with_reducible refine (spec_l2Char.calls (rd l0 x3_1) true _ A4.out).mono ?_); rintro e w' ⟨rfl, ⟨nd, rfl⟩⟩; refine ⟨_, rfl, ?_⟩; have p172 : 0 ≤ (x3_1 : Int) := od_; have q172 : x3_1 < (l0.length : Int) := od_; obtain ⟨ad172, e172, hx172_0⟩ := Kd.at_int HR0.out x3_1 p172 q172; obtain rfl : ad170 = ad172 := (by injection e172); replace p172 := eq_true p172; replace q172 := eq_true q172; have p173 : 0 ≤ (x3_1 : Int) := od_; have q173 : x3_1 < (l0.length : Int) := od_; obtain ⟨ad173, e173, hx173_0⟩ := Kd.at_int HR0.out x3_1 p173 q173; obtain rfl : ad170 = ad173 := (by injection e173); replace p173 := eq_true p173; replace q173 := eq_true q173))
        go_roundg k1
        case measure => have := HK1.out; omega
        case rel => exact ⟨(wrap64 (x3_1 + 1)), vl_, H', ⟨by have := HK1.out; omega⟩, dr_⟩
     ·
      replace c5 := Bool.eq_false_iff.mpr c5
      subst c5
      (try rw [if_neg (show ¬ (false = true) by decide)] at H)
      obtain rfl := Option.some.inj H
      go_wp2_with (first | ((with_reducible refine gate_callee (f := 153) rfl ?_); refine goesY_ (some 14) Try.func153 #[.int .i64 (rd l0 x3_1)] rfl ?_; (with_reducible refine (spec_l2Char.calls (rd l0 x3_1) false _ A4.out).mono ?_); rintro e w' ⟨rfl, ⟨nd, rfl⟩⟩; refine ⟨_, rfl, ?_⟩))
      go_ret
      exact ⟨vl_, dr_⟩
    ·
     rw [if_neg c2] at H
     have c2b0 : decide (x3_1 < (l0.length : Int)) = false := decide_eq_false c2
     clear c2
     replace H := Option.bind_eq_some_iff.mp H
     obtain ⟨t174, A80, H⟩ := H
     replace H : (some t174) = some r := H
     have A8 := Aside0.mk A80
     clear A80
     obtain rfl := Option.some.inj H
     go_wp2_with (first | ((with_reducible refine gate_callee (f := 112) rfl ?_); refine goesY_ (some 32) Try.func112 #[.int .i64 (l0.length : Int), .int .i64 1, .int .i64 20] rfl ?_; (with_reducible refine (spec_l1In.calls (l0.length : Int) 1 20 t174 _ A8.out).mono ?_); rintro e w' ⟨rfl, ⟨nd, rfl⟩⟩; refine ⟨_, rfl, ?_⟩))
     go_ret
     exact ⟨vl_, dr_⟩

end Go.Proofs.Ytnehephjliankaa.PFnExactCmdFault

/- Functions of the program, each with what its call comes to. Conditions: each theorem's. -/
import Derived.Test.YtehdbobpbcjmeaaVFnJournalsZ
import Derived.Test.YtehdbobpbcjmeaaPFnJournalsx0
namespace Go.Proofs.Ytehdbobpbcjmeaa.PFnJournals
open Go.RowKit Go.Proofs.YtehdbobpbcjmeaaW.PrintWords Go.Proofs.YtehdbobpbcjmeaaW.PrintLast Go.Proofs.YtehdbobpbcjmeaaW.PrintMore
attribute [local go_sem] max2_int min2_int max_two min_two max_three min_three max_four min_four   -- for this text's walks alone
set_option linter.unusedVariables false
set_option linter.unusedSimpArgs false
set_option maxHeartbeats 8000000
set_option maxRecDepth 100000

/-! ### spec_l8Copies: function 70 -/
def spec_l8Copies.f (a0 : Int) : Option (Bool) := if a0 = 5 then (some true) else (some (a0 == 6))
theorem spec_l8Copies.calls (a0 : Int) (r : Bool) (w : World) (h : spec_l8Copies.f a0 = some r) :
 Calls Try.prog 70 #[.int .i64 a0] w fun e w' => e = .returned (.bool r) ∧ Drawn0 w w' := by
 have H := h; unfold spec_l8Copies.f at H; clear h
 by_cases c2 : a0 = 5
 ·
  rw [if_pos c2] at H; have c2b0 : (a0 == 5) = true := beq_iff_eq.mpr c2; have c2b1 : (a0 != 5) = false := bne_eq_false_iff_eq.mpr c2; clear c2; obtain rfl := Option.some.inj H
  go_enter Try.func70, Try.ntmps70
  go_wp2
  go_ret
  exact ⟨vl_, dr_⟩
 ·
  rw [if_neg c2] at H; have c2b0 : (a0 == 5) = false := beq_eq_false_iff_ne.mpr c2; have c2b1 : (a0 != 5) = true := bne_iff_ne.mpr c2; obtain rfl := Option.some.inj H
  go_enter Try.func70, Try.ntmps70
  go_wp2
  go_ret
  exact ⟨vl_, dr_⟩

/-! ### spec_l1In: function 72 -/
def spec_l1In.f (a0 : Int) (a1 : Int) (a2 : Int) : Option (Bool) := if a0 ≥ a1 then (some (decide (a0 ≤ a2))) else (some false)
theorem spec_l1In.calls (a0 : Int) (a1 : Int) (a2 : Int) (r : Bool) (w : World) (h : spec_l1In.f a0 a1 a2 = some r) :
 Calls Try.prog 72 #[.int .i64 a0, .int .i64 a1, .int .i64 a2] w fun e w' => e = .returned (.bool r) ∧ Drawn0 w w' := by
 have H := h; unfold spec_l1In.f at H; clear h
 by_cases c4 : a0 ≥ a1
 ·
  rw [if_pos c4] at H; have c4b0 : decide (a1 ≤ a0) = true := decide_eq_true c4; clear c4; obtain rfl := Option.some.inj H
  go_enter Try.func72, Try.ntmps72
  go_wp2
  go_ret
  exact ⟨vl_, dr_⟩
 ·
  rw [if_neg c4] at H; have c4b0 : decide (a1 ≤ a0) = false := decide_eq_false c4; clear c4; obtain rfl := Option.some.inj H
  go_enter Try.func72, Try.ntmps72
  go_wp2
  go_ret
  exact ⟨vl_, dr_⟩

/-! ### spec_l8Form: function 68 -/
mutual
def spec_l8Form.j0 : Nat → List (S37) → Bool → Option (Bool)
 | 0, _, _ => none
 | k + 1, x0, x23 => if x23 = true then (some false) else (if 0 < (x0.length : Int) then ((spec_l8Copies.f ((rd_T37 x0 0).f0)).bind fun t105 => (if t105 = true then (if ((rd_T37 x0 0).f0) = 4 then (spec_l8Form.j1 k x0 false) else (spec_l8Form.j1 k x0 (((rd_T37 x0 0).f4) != 0))) else (if ((rd_T37 x0 0).f0) = 4 then (spec_l8Form.j1 k x0 false) else (if (((rd_T37 x0 0).f3).length : Int) > 0 then (spec_l8Form.j1 k x0 true) else (spec_l8Form.j1 k x0 (((rd_T37 x0 0).f4) != 0)))))) else (none))
def spec_l8Form.j1 : Nat → List (S37) → Bool → Option (Bool)
 | 0, _, _ => none
 | k + 1, x0, x58 => if x58 = true then (some false) else (if 0 < (x0.length : Int) then (if ((rd_T37 x0 0).f0) = 3 then (some true) else (if ((rd_T37 x0 0).f6) = 0 then (if (((rd_T37 x0 0).f7).length : Int) > 0 then (some false) else (if ((rd_T37 x0 0).f0) = 4 then (some true) else (some (((rd_T37 x0 0).f5) == 0)))) else (some false))) else (none))
end
def spec_l8Form.f (k : Nat) (l0 : List (S37)) : Option (Bool) := if 0 < (l0.length : Int) then ((spec_l1In.f ((rd_T37 l0 0).f0) 1 7).bind fun t102 => (if t102 = true then ((spec_l8Copies.f ((rd_T37 l0 0).f0)).bind fun t103 => (if t103 = true then (spec_l8Form.j0 k l0 false) else (spec_l8Form.j0 k l0 (((rd_T37 l0 0).f2).toList != ([] : List UInt8))))) else (spec_l8Form.j0 k l0 true))) else (none)
theorem spec_l8Form.calls (k : Nat) (A0 : Option Addr) (c0 : Nat) (l0 : List (S37)) (r : Bool) (w : World) (hr0 : Kd.C k37 w A0 l0.length l0) (hc0 : l0.length ≤ c0) (h : spec_l8Form.f k l0 = some r) :
 Calls Try.prog 68 #[.pointer A0] w fun e w' => e = .returned (.bool r) ∧ Drawn0 w w' := by
 have HR0 := Aside0.mk hr0; have HC0 := Aside0.mk hc0; clear hr0 hc0; have H := h; unfold spec_l8Form.f at H; clear h; have HC2 := Aside0.mk H; clear H
 go_enter Try.func68, Try.ntmps68
 go_upto_region 1 with (fail)
 go_cut [23] (fun v23 wc => ∃ (kq : Nat) (x23_1 : Bool), v23 = .bool x23_1 ∧ Aside0 (spec_l8Form.j0 kq l0 x23_1 = some r) ∧ Aside0 (kq ≤ k) ∧ Drawn0 w wc)
 case first =>
  have H := HC2.out; clear HC2; obtain ⟨c3, H⟩ := ifc_ H; have c3b0 : decide (0 < (l0.length : Int)) = true := decide_eq_true c3; have c3b1 : decide (0 < l0.length) = true := decide_eq_true (by omega); clear c3; (first | rw [c3b0] | (simp only [i64_w, i32_w]; rw [c3b0]) | skip); obtain ⟨t102, A4, H⟩ := bd_ H; (try dsimp only at H); (try simp only [c3b0, c3b1]); have p101 : 0 ≤ (0 : Int) := (by omega); have q101 : 0 < (l0.length : Int) := od_; obtain ⟨ad101, A101_3, c101_3, A101_7, c101_7, e101, hx101_0, hx101_1, hx101_2, hx101_3, hx101_4, hx101_5, hx101_6, hx101_7, hl101_3, hi101_3, hl101_7, hi101_7⟩ := at_T37 HR0.out 0 p101 q101
  cases e101
  have qi101 : (0 < l0.length) = True := eq_true (by omega); (try simp only [Int.toNat_zero, Nat.zero_mul, Addr.add_zero'] at hx101_0 hx101_1 hx101_2 hx101_3 hx101_4 hx101_5 hx101_6 hx101_7); have HR101_3 := Aside0.mk hi101_3; have HC101_3 := Aside0.mk hl101_3; clear hi101_3 hl101_3; have HR101_7 := Aside0.mk hi101_7; have HC101_7 := Aside0.mk hl101_7; clear hi101_7 hl101_7; replace p101 := eq_true p101; replace q101 := eq_true q101
  by_cases c5 : t102 = true
  ·
   subst c5; (try rw [if_pos rfl] at H); obtain ⟨t103, A6, H⟩ := bd_ H; (try dsimp only at H)
   by_cases c7 : t103 = true
   ·
    subst c7; (try rw [if_pos rfl] at H); have H' := Aside0.mk H; clear H
    go_wp2_with (first | ((with_reducible refine gate_callee (f := 72) rfl ?_); refine goesY_ (some 7) Try.func72 #[.int .i64 ((rd_T37 l0 0).f0), .int .i64 1, .int .i64 7] rfl ?_; (with_reducible refine (spec_l1In.calls ((rd_T37 l0 0).f0) 1 7 true _ A4.out).mono ?_); rintro e w' ⟨rfl, ⟨nd, rfl⟩⟩; refine ⟨_, rfl, ?_⟩) | (go_at_call 70; (with_reducible refine (spec_l8Copies.calls ((rd_T37 l0 0).f0) true _ A6.out).mono ?_); rintro e w' ⟨rfl, ⟨nd, rfl⟩⟩))
    go_meet
    case rel => exact ⟨_, (false), vl_, H', ⟨le_⟩, dr_⟩
   ·
    replace c7 := Bool.eq_false_iff.mpr c7; subst c7; (try rw [if_neg (show ¬ (false = true) by decide)] at H); have H' := Aside0.mk H; clear H
    go_wp2_with (first | ((with_reducible refine gate_callee (f := 72) rfl ?_); refine goesY_ (some 7) Try.func72 #[.int .i64 ((rd_T37 l0 0).f0), .int .i64 1, .int .i64 7] rfl ?_; (with_reducible refine (spec_l1In.calls ((rd_T37 l0 0).f0) 1 7 true _ A4.out).mono ?_); rintro e w' ⟨rfl, ⟨nd, rfl⟩⟩; refine ⟨_, rfl, ?_⟩) | (go_at_call 70; (with_reducible refine (spec_l8Copies.calls ((rd_T37 l0 0).f0) false _ A6.out).mono ?_); rintro e w' ⟨rfl, ⟨nd, rfl⟩⟩))
    go_meet
    case rel => exact ⟨_, ((((rd_T37 l0 0).f2).toList != ([] : List UInt8))), vl_, H', ⟨le_⟩, dr_⟩
  ·
   replace c5 := Bool.eq_false_iff.mpr c5; subst c5; (try rw [if_neg (show ¬ (false = true) by decide)] at H); have H' := Aside0.mk H; clear H
   go_wp2_with (first | ((with_reducible refine gate_callee (f := 72) rfl ?_); refine goesY_ (some 7) Try.func72 #[.int .i64 ((rd_T37 l0 0).f0), .int .i64 1, .int .i64 7] rfl ?_; (with_reducible refine (spec_l1In.calls ((rd_T37 l0 0).f0) 1 7 false _ A4.out).mono ?_); rintro e w' ⟨rfl, ⟨nd, rfl⟩⟩; refine ⟨_, rfl, ?_⟩))
   go_meet
   case rel => exact ⟨_, (true), vl_, H', ⟨le_⟩, dr_⟩
 case rest =>
  clear HC2; (try clear q1); (try clear hx1); (try clear qi1); (try clear hx101_0); (try clear hx101_1); (try clear hx101_2); (try clear hx101_3); (try clear hx101_4); (try clear hx101_5); (try clear hx101_6); (try clear hx101_7); (try clear q101); obtain ⟨kq, x23_1, rfl, HA, HJ1, ⟨mc1, rfl⟩⟩ := hcut
  cases kq with
  | zero => exact absurd HA.out (by simp [spec_l8Form.j0])
  | succ kj1 =>
    have H := HA.out; clear HA; simp only [spec_l8Form.j0] at H
    by_cases c8 : x23_1 = true
    ·
     subst c8; (try rw [if_pos rfl] at H); obtain rfl := Option.some.inj H
     go_wp2
     go_ret
     exact ⟨vl_, dr_⟩
    ·
     replace c8 := Bool.eq_false_iff.mpr c8; subst c8; (try rw [if_neg (show ¬ (false = true) by decide)] at H); have HC9 := Aside0.mk H; clear H
     go_upto_region 3 with (fail)
     (try simp only [Act.put, List.setIfInBounds_toArray, List.set_cons_zero, List.set_cons_succ])
     go_cut [58] (fun v58 wc => ∃ (kq : Nat) (x58_8 : Bool), v58 = .bool x58_8 ∧ Aside0 (spec_l8Form.j1 kq l0 x58_8 = some r) ∧ Aside0 (kq ≤ kj1) ∧ Drawn0 w wc)
     case first =>
      have H := HC9.out; clear HC9; obtain ⟨c10, H⟩ := ifc_ H; have c10b0 : decide (0 < (l0.length : Int)) = true := decide_eq_true c10; have c10b1 : decide (0 < l0.length) = true := decide_eq_true (by omega); clear c10; (first | rw [c10b0] | (simp only [i64_w, i32_w]; rw [c10b0]) | skip); obtain ⟨t105, A11, H⟩ := bd_ H; (try dsimp only at H); have p104 : 0 ≤ (0 : Int) := (by omega); have q104 : 0 < (l0.length : Int) := od_; obtain ⟨ad104, A104_3, c104_3, A104_7, c104_7, e104, hx104_0, hx104_1, hx104_2, hx104_3, hx104_4, hx104_5, hx104_6, hx104_7, hl104_3, hi104_3, hl104_7, hi104_7⟩ := at_T37 HR0.out 0 p104 q104
      cases e104
      have qi104 : (0 < l0.length) = True := eq_true (by omega); (try simp only [Int.toNat_zero, Nat.zero_mul, Addr.add_zero'] at hx104_0 hx104_1 hx104_2 hx104_3 hx104_4 hx104_5 hx104_6 hx104_7); have HR104_3 := Aside0.mk hi104_3; have HC104_3 := Aside0.mk hl104_3; clear hi104_3 hl104_3; have HR104_7 := Aside0.mk hi104_7; have HC104_7 := Aside0.mk hl104_7; clear hi104_7 hl104_7; replace p104 := eq_true p104; replace q104 := eq_true q104
      by_cases c12 : t105 = true
      ·
       subst c12; (try rw [if_pos rfl] at H)
       by_cases c13 : ((rd_T37 l0 0).f0) = 4
       ·
        rw [if_pos c13] at H; have c13b0 : (((rd_T37 l0 0).f0) == 4) = true := beq_iff_eq.mpr c13; have c13b1 : (((rd_T37 l0 0).f0) != 4) = false := bne_eq_false_iff_eq.mpr c13; clear c13; have H' := Aside0.mk H; clear H; (try clear hx101_0 hx101_1 hx101_2 hx101_3 hx101_4 hx101_5 hx101_6 hx101_7); (try clear hx101_0 hx101_1 hx101_2 hx101_3 hx101_4 hx101_5 hx101_6 hx101_7); (try clear hx101_0 hx101_1 hx101_2 hx101_3 hx101_4 hx101_5 hx101_6 hx101_7)
        go_wp2_with (first | ((with_reducible refine gate_callee (f := 70) rfl ?_); refine goesY_ (some 28) Try.func70 #[.int .i64 ((rd_T37 l0 0).f0)] rfl ?_; (with_reducible refine (spec_l8Copies.calls ((rd_T37 l0 0).f0) true _ A11.out).mono ?_); rintro e w' ⟨rfl, ⟨nd, rfl⟩⟩; refine ⟨_, rfl, ?_⟩))
        go_meet
        case rel => exact ⟨_, (false), vl_, H', ⟨by have := HJ1.out; first | omega | exact Nat.le_refl _⟩, dr_⟩
       ·
        rw [if_neg c13] at H; have c13b0 : (((rd_T37 l0 0).f0) == 4) = false := beq_eq_false_iff_ne.mpr c13; have c13b1 : (((rd_T37 l0 0).f0) != 4) = true := bne_iff_ne.mpr c13; have H' := Aside0.mk H; clear H; (try clear hx101_0 hx101_1 hx101_2 hx101_3 hx101_4 hx101_5 hx101_6 hx101_7); (try clear hx101_0 hx101_1 hx101_2 hx101_3 hx101_4 hx101_5 hx101_6 hx101_7); (try clear hx101_0 hx101_1 hx101_2 hx101_3 hx101_4 hx101_5 hx101_6 hx101_7)
        go_wp2_with (first | ((with_reducible refine gate_callee (f := 70) rfl ?_); refine goesY_ (some 28) Try.func70 #[.int .i64 ((rd_T37 l0 0).f0)] rfl ?_; (with_reducible refine (spec_l8Copies.calls ((rd_T37 l0 0).f0) true _ A11.out).mono ?_); rintro e w' ⟨rfl, ⟨nd, rfl⟩⟩; refine ⟨_, rfl, ?_⟩))
        go_meet
        case rel => exact ⟨_, ((((rd_T37 l0 0).f4) != 0)), vl_, H', ⟨by have := HJ1.out; first | omega | exact Nat.le_refl _⟩, dr_⟩
      ·
       replace c12 := Bool.eq_false_iff.mpr c12; subst c12; (try rw [if_neg (show ¬ (false = true) by decide)] at H); (try clear hx101_0 hx101_1 hx101_2 hx101_3 hx101_4 hx101_5 hx101_6 hx101_7); (try clear hx101_0 hx101_1 hx101_2 hx101_3 hx101_4 hx101_5 hx101_6 hx101_7); (try clear hx101_0 hx101_1 hx101_2 hx101_3 hx101_4 hx101_5 hx101_6 hx101_7)
       by_cases c14 : ((rd_T37 l0 0).f0) = 4
       ·
        rw [if_pos c14] at H; have c14b0 : (((rd_T37 l0 0).f0) == 4) = true := beq_iff_eq.mpr c14; have c14b1 : (((rd_T37 l0 0).f0) != 4) = false := bne_eq_false_iff_eq.mpr c14; clear c14; have H' := Aside0.mk H; clear H; (try simp only [c14b0, c14b1])
        go_wp2_with (first | ((with_reducible refine gate_callee (f := 70) rfl ?_); refine goesY_ (some 28) Try.func70 #[.int .i64 ((rd_T37 l0 0).f0)] rfl ?_; (with_reducible refine (spec_l8Copies.calls ((rd_T37 l0 0).f0) false _ A11.out).mono ?_); rintro e w' ⟨rfl, ⟨nd, rfl⟩⟩; refine ⟨_, rfl, ?_⟩))
        go_meet
        case rel => exact ⟨_, (false), vl_, H', ⟨by have := HJ1.out; first | omega | exact Nat.le_refl _⟩, dr_⟩
       ·
        rw [if_neg c14] at H; have c14b0 : (((rd_T37 l0 0).f0) == 4) = false := beq_eq_false_iff_ne.mpr c14; have c14b1 : (((rd_T37 l0 0).f0) != 4) = true := bne_iff_ne.mpr c14; (try simp only [c14b0, c14b1])
        by_cases c15 : (((rd_T37 l0 0).f3).length : Int) > 0
        ·
         rw [if_pos c15] at H; have c15b0 : decide (0 < (((rd_T37 l0 0).f3).length : Int)) = true := decide_eq_true c15; have c15b1 : decide (0 < ((rd_T37 l0 0).f3).length) = true := decide_eq_true (by omega); clear c15; have H' := Aside0.mk H; clear H; (try simp only [c15b0, c15b1])
         go_wp2_with (first | ((with_reducible refine gate_callee (f := 70) rfl ?_); refine goesY_ (some 28) Try.func70 #[.int .i64 ((rd_T37 l0 0).f0)] rfl ?_; (with_reducible refine (spec_l8Copies.calls ((rd_T37 l0 0).f0) false _ A11.out).mono ?_); rintro e w' ⟨rfl, ⟨nd, rfl⟩⟩; refine ⟨_, rfl, ?_⟩))
         go_meet
         case rel => exact ⟨_, (true), vl_, H', ⟨by have := HJ1.out; first | omega | exact Nat.le_refl _⟩, dr_⟩
        ·
         rw [if_neg c15] at H; have c15b0 : decide (0 < (((rd_T37 l0 0).f3).length : Int)) = false := decide_eq_false c15; have c15b1 : decide (0 < ((rd_T37 l0 0).f3).length) = false := decide_eq_false (by omega); clear c15; have H' := Aside0.mk H; clear H; (try simp only [c15b0, c15b1])
         go_wp2_with (first | ((with_reducible refine gate_callee (f := 70) rfl ?_); refine goesY_ (some 28) Try.func70 #[.int .i64 ((rd_T37 l0 0).f0)] rfl ?_; (with_reducible refine (spec_l8Copies.calls ((rd_T37 l0 0).f0) false _ A11.out).mono ?_); rintro e w' ⟨rfl, ⟨nd, rfl⟩⟩; refine ⟨_, rfl, ?_⟩))
         go_meet
         case rel => exact ⟨_, ((((rd_T37 l0 0).f4) != 0)), vl_, H', ⟨by have := HJ1.out; first | omega | exact Nat.le_refl _⟩, dr_⟩
     case rest =>
      clear HC9; (try clear q1); (try clear hx1); (try clear qi1); (try clear c8); (try clear q10); (try clear hx10); (try clear qi10); (try clear hx101_0); (try clear hx101_1); (try clear hx101_2); (try clear hx101_3); (try clear hx101_4); (try clear hx101_5); (try clear hx101_6); (try clear hx101_7); (try clear hx104_0); (try clear hx104_1); (try clear hx104_2); (try clear hx104_3); (try clear hx104_4); (try clear hx104_5); (try clear hx104_6); (try clear hx104_7); (try clear q1); (try clear q101); (try clear q104); obtain ⟨kq, x58_8, rfl, HA, HJ8, ⟨mc8, rfl⟩⟩ := hcut
      cases kq with
      | zero => exact absurd HA.out (by simp [spec_l8Form.j1])
      | succ kj8 =>
        have H := HA.out; clear HA; simp only [spec_l8Form.j1] at H
        by_cases c16 : x58_8 = true
        ·
         subst c16; (try rw [if_pos rfl] at H); obtain rfl := Option.some.inj H
         go_wp2
         go_ret
         exact ⟨vl_, dr_⟩
        ·
         replace c16 := Bool.eq_false_iff.mpr c16; subst c16; (try rw [if_neg (show ¬ (false = true) by decide)] at H)
         by_cases c17 : 0 < (l0.length : Int)
         ·
          rw [if_pos c17] at H; have c17b0 : decide (0 < (l0.length : Int)) = true := decide_eq_true c17; have c17b1 : decide (0 < l0.length) = true := decide_eq_true (by omega); clear c17; (try simp only [c17b0, c17b1]); have p106 : 0 ≤ (0 : Int) := (by omega); have q106 : 0 < (l0.length : Int) := od_; obtain ⟨ad106, A106_3, c106_3, A106_7, c106_7, e106, hx106_0, hx106_1, hx106_2, hx106_3, hx106_4, hx106_5, hx106_6, hx106_7, hl106_3, hi106_3, hl106_7, hi106_7⟩ := at_T37 HR0.out 0 p106 q106
          cases e106
          have qi106 : (0 < l0.length) = True := eq_true (by omega); (try simp only [Int.toNat_zero, Nat.zero_mul, Addr.add_zero'] at hx106_0 hx106_1 hx106_2 hx106_3 hx106_4 hx106_5 hx106_6 hx106_7); have HR106_3 := Aside0.mk hi106_3; have HC106_3 := Aside0.mk hl106_3; clear hi106_3 hl106_3; have HR106_7 := Aside0.mk hi106_7; have HC106_7 := Aside0.mk hl106_7; clear hi106_7 hl106_7; replace p106 := eq_true p106; replace q106 := eq_true q106; (try clear hx101_0 hx101_1 hx101_2 hx101_3 hx101_4 hx101_5 hx101_6 hx101_7); (try clear hx101_0 hx101_1 hx101_2 hx101_3 hx101_4 hx101_5 hx101_6 hx101_7); (try clear hx101_0 hx101_1 hx101_2 hx101_3 hx101_4 hx101_5 hx101_6 hx101_7); (try clear hx104_0 hx104_1 hx104_2 hx104_3 hx104_4 hx104_5 hx104_6 hx104_7); (try clear hx104_0 hx104_1 hx104_2 hx104_3 hx104_4 hx104_5 hx104_6 hx104_7); (try clear hx104_0 hx104_1 hx104_2 hx104_3 hx104_4 hx104_5 hx104_6 hx104_7); (try clear hx104_0 hx104_1 hx104_2 hx104_3 hx104_4 hx104_5 hx104_6 hx104_7); (try clear hx104_0 hx104_1 hx104_2 hx104_3 hx104_4 hx104_5 hx104_6 hx104_7)
          by_cases c18 : ((rd_T37 l0 0).f0) = 3
          ·
           rw [if_pos c18] at H; have c18b0 : (((rd_T37 l0 0).f0) == 3) = true := beq_iff_eq.mpr c18; have c18b1 : (((rd_T37 l0 0).f0) != 3) = false := bne_eq_false_iff_eq.mpr c18; clear c18; obtain rfl := Option.some.inj H; (try simp only [c18b0, c18b1])
           go_wp2
           go_ret
           exact ⟨vl_, dr_⟩
          ·
           rw [if_neg c18] at H; have c18b0 : (((rd_T37 l0 0).f0) == 3) = false := beq_eq_false_iff_ne.mpr c18; have c18b1 : (((rd_T37 l0 0).f0) != 3) = true := bne_iff_ne.mpr c18; (try simp only [c18b0, c18b1])
           by_cases c19 : ((rd_T37 l0 0).f6) = 0
           ·
            rw [if_pos c19] at H; have c19b0 : (((rd_T37 l0 0).f6) == 0) = true := beq_iff_eq.mpr c19; have c19b1 : (((rd_T37 l0 0).f6) != 0) = false := bne_eq_false_iff_eq.mpr c19; clear c19; (try simp only [c19b0, c19b1])
            by_cases c20 : (((rd_T37 l0 0).f7).length : Int) > 0
            ·
             rw [if_pos c20] at H; have c20b0 : decide (0 < (((rd_T37 l0 0).f7).length : Int)) = true := decide_eq_true c20; have c20b1 : decide (0 < ((rd_T37 l0 0).f7).length) = true := decide_eq_true (by omega); clear c20; obtain rfl := Option.some.inj H; (try simp only [c20b0, c20b1])
             go_wp2
             go_ret
             exact ⟨vl_, dr_⟩
            ·
             rw [if_neg c20] at H; have c20b0 : decide (0 < (((rd_T37 l0 0).f7).length : Int)) = false := decide_eq_false c20; have c20b1 : decide (0 < ((rd_T37 l0 0).f7).length) = false := decide_eq_false (by omega); clear c20; (try simp only [c20b0, c20b1])
             by_cases c21 : ((rd_T37 l0 0).f0) = 4
             ·
              rw [if_pos c21] at H; have c21b0 : (((rd_T37 l0 0).f0) == 4) = true := beq_iff_eq.mpr c21; have c21b1 : (((rd_T37 l0 0).f0) != 4) = false := bne_eq_false_iff_eq.mpr c21; clear c21; obtain rfl := Option.some.inj H; (try simp only [c21b0, c21b1])
              go_wp2
              go_ret
              exact ⟨vl_, dr_⟩
             ·
              rw [if_neg c21] at H; have c21b0 : (((rd_T37 l0 0).f0) == 4) = false := beq_eq_false_iff_ne.mpr c21; have c21b1 : (((rd_T37 l0 0).f0) != 4) = true := bne_iff_ne.mpr c21; obtain rfl := Option.some.inj H; (try simp only [c21b0, c21b1])
              go_wp2
              go_ret
              exact ⟨vl_, dr_⟩
           ·
            rw [if_neg c19] at H; have c19b0 : (((rd_T37 l0 0).f6) == 0) = false := beq_eq_false_iff_ne.mpr c19; have c19b1 : (((rd_T37 l0 0).f6) != 0) = true := bne_iff_ne.mpr c19; obtain rfl := Option.some.inj H; (try simp only [c19b0, c19b1])
            go_wp2
            go_ret
            exact ⟨vl_, dr_⟩
         · rw [if_neg c17] at H
           exact absurd H (by simp)

/-! ### spec_l7Name: function 69 -/
def spec_l7Name.l0 : Nat → ByteArray → Int → Option (Bool)
 | 0, _, _ => none
 | k + 1, x0, x3 => if x3 < (x0.size : Int) then (if 0 ≤ x3 then (if (bt x0 x3) < 97 then (some false) else (if (bt x0 x3) > 122 then (some false) else (spec_l7Name.l0 k x0 (wrap64 (x3 + 1))))) else (none)) else ((spec_l1In.f (x0.size : Int) 1 8).bind fun t109 => (some t109))
def spec_l7Name.f (k : Nat) (a0 : ByteArray) : Option (Bool) := spec_l7Name.l0 k a0 0
theorem spec_l7Name.calls (k : Nat) (a0 : ByteArray) (r : Bool) (w : World) (h : spec_l7Name.f k a0 = some r) :
 Calls Try.prog 69 #[.string a0] w fun e w' => e = .returned (.bool r) ∧ Drawn0 w w' := by
 have H := h; unfold spec_l7Name.f at H; clear h; have H' := Aside0.mk H; clear H
 go_enter Try.func69, Try.ntmps69
 go_wp2
 go_loopg [3] k (fun kq v3 w' => ∃ (x3_1 : Int), v3 = .int .i64 x3_1 ∧ Aside0 (spec_l7Name.l0 kq a0 x3_1 = some r) ∧ Aside0 (kq ≤ k) ∧ Drawn0 w w')
 case atStart => exact ⟨(0), vl_, H', ⟨Nat.le_refl _⟩, dr_⟩
 case round =>
  clear H'; obtain ⟨x3_1, rfl, HA, HK1, ⟨m1, rfl⟩⟩ := hrel
  cases gk with
  | zero => exact absurd HA.out (by simp [spec_l7Name.l0])
  | succ k1 =>
    have H := HA.out; clear HA; simp only [spec_l7Name.l0] at H
    by_cases c2 : x3_1 < (a0.size : Int)
    ·
     rw [if_pos c2] at H; have c2b0 : decide (x3_1 < (a0.size : Int)) = true := decide_eq_true c2; clear c2
     by_cases c3 : 0 ≤ x3_1
     ·
      rw [if_pos c3] at H; have c3b0 : decide (0 ≤ x3_1) = true := decide_eq_true c3; clear c3; have p4 : 0 ≤ (x3_1 : Int) := od_; have q4 : x3_1 < (a0.size : Int) := od_; have hx4 := bt_at a0 x3_1; replace p4 := eq_true p4; replace q4 := eq_true q4
      by_cases c5 : (bt a0 x3_1) < 97
      ·
       rw [if_pos c5] at H; have c5b0 : decide ((bt a0 x3_1) < 97) = true := decide_eq_true c5; clear c5; obtain rfl := Option.some.inj H
       go_wp2
       go_ret
       exact ⟨vl_, dr_⟩
      ·
       rw [if_neg c5] at H; have c5b0 : decide ((bt a0 x3_1) < 97) = false := decide_eq_false c5; clear c5; have p6 : 0 ≤ (x3_1 : Int) := od_; have q6 : x3_1 < (a0.size : Int) := od_; have hx6 := bt_at a0 x3_1; replace p6 := eq_true p6; replace q6 := eq_true q6
       by_cases c7 : (bt a0 x3_1) > 122
       ·
        rw [if_pos c7] at H; have c7b0 : decide (122 < (bt a0 x3_1)) = true := decide_eq_true c7; clear c7; obtain rfl := Option.some.inj H
        go_wp2
        go_ret
        exact ⟨vl_, dr_⟩
       ·
        rw [if_neg c7] at H; have c7b0 : decide (122 < (bt a0 x3_1)) = false := decide_eq_false c7; clear c7; have H' := Aside0.mk H; clear H
        go_wp2
        go_roundg k1
        case measure => have := HK1.out; omega
        case rel => exact ⟨(wrap64 (x3_1 + 1)), vl_, H', ⟨by have := HK1.out; omega⟩, dr_⟩
     · rw [if_neg c3] at H
       exact absurd H (by simp)
    ·
     rw [if_neg c2] at H; have c2b0 : decide (x3_1 < (a0.size : Int)) = false := decide_eq_false c2; clear c2; replace H := Option.bind_eq_some_iff.mp H; obtain ⟨t109, A80, H⟩ := H; replace H : (some t109) = some r := H; have A8 := Aside0.mk A80; clear A80; obtain rfl := Option.some.inj H
     go_wp2_with (first | ((with_reducible refine gate_callee (f := 72) rfl ?_); refine goesY_ (some 22) Try.func72 #[.int .i64 (a0.size : Int), .int .i64 1, .int .i64 8] rfl ?_; (with_reducible refine (spec_l1In.calls (a0.size : Int) 1 8 t109 _ A8.out).mono ?_); rintro e w' ⟨rfl, ⟨nd, rfl⟩⟩; refine ⟨_, rfl, ?_⟩))
     go_ret
     exact ⟨vl_, dr_⟩

/-! ### spec_l8Uids: function 71 -/
def spec_l8Uids.l0 : Nat → List Int → Int → Option (Bool)
 | 0, _, _ => none
 | k + 1, x0, x3 => if x3 < (x0.length : Int) then (if 0 ≤ x3 then ((spec_l1In.f (rd x0 x3) 1 999).bind fun t111 => (if t111 = true then (if x3 > 0 then (if 0 ≤ (wrap64 (x3 - 1)) then (if (wrap64 (x3 - 1)) < (x0.length : Int) then (if (rd x0 x3) ≤ (rd x0 (wrap64 (x3 - 1))) then (some false) else (spec_l8Uids.l0 k x0 (wrap64 (x3 + 1)))) else (none)) else (none)) else (spec_l8Uids.l0 k x0 (wrap64 (x3 + 1)))) else (some false))) else (none)) else (some true)
def spec_l8Uids.f (k : Nat) (l0 : List Int) : Option (Bool) := spec_l8Uids.l0 k l0 0
theorem spec_l8Uids.calls (k : Nat) (A0 : Option Addr) (c0 : Nat) (l0 : List Int) (r : Bool) (w : World) (hr0 : Kd.C (Kd.int .i64) w A0 l0.length l0) (hc0 : l0.length ≤ c0) (h : spec_l8Uids.f k l0 = some r) :
 Calls Try.prog 71 #[.slice A0 l0.length c0] w fun e w' => e = .returned (.bool r) ∧ Drawn0 w w' := by
 have HR0 := Aside0.mk hr0; have HC0 := Aside0.mk hc0; clear hr0 hc0; have H := h; unfold spec_l8Uids.f at H; clear h; have H' := Aside0.mk H; clear H
 go_enter Try.func71, Try.ntmps71
 go_wp2
 (repeat (go_quiet (fail); try go_wp2))
 go_loopg [3] k (fun kq v3 w' => ∃ (x3_1 : Int), v3 = .int .i64 x3_1 ∧ Aside0 (spec_l8Uids.l0 kq l0 x3_1 = some r) ∧ Aside0 (kq ≤ k) ∧ Drawn0 w w')
 case atStart => exact ⟨(0), vl_, H', ⟨Nat.le_refl _⟩, dr_⟩
 case round =>
  clear H'; obtain ⟨x3_1, rfl, HA, HK1, ⟨m1, rfl⟩⟩ := hrel
  cases gk with
  | zero => exact absurd HA.out (by simp [spec_l8Uids.l0])
  | succ k1 =>
    have H := HA.out; clear HA; simp only [spec_l8Uids.l0] at H
    by_cases c2 : x3_1 < (l0.length : Int)
    ·
     rw [if_pos c2] at H; have c2b0 : decide (x3_1 < (l0.length : Int)) = true := decide_eq_true c2; clear c2; obtain ⟨c3, H⟩ := ifc_ H; have c3b0 : decide (0 ≤ x3_1) = true := decide_eq_true c3; clear c3; obtain ⟨t111, A4, H⟩ := bd_ H; (try dsimp only at H)
     by_cases c5 : t111 = true
     ·
      subst c5; (try rw [if_pos rfl] at H)
      by_cases c6 : x3_1 > 0
      ·
       rw [if_pos c6] at H; have c6b0 : decide (0 < x3_1) = true := decide_eq_true c6; clear c6; obtain ⟨ji7, hji7⟩ : ∃ j_ : Int, (wrap64 (x3_1 - 1)) = j_ := ⟨_, rfl⟩
       replace H : (if 0 ≤ (ji7) then (if (ji7) < (l0.length : Int) then (if (rd l0 x3_1) ≤ (rd l0 (ji7)) then (some false) else (spec_l8Uids.l0 k1 l0 (wrap64 (x3_1 + 1)))) else (none)) else (none)) = some r := by first | (rw [hji7] at H; exact H) | (simp only [hji7] at H ⊢; exact H)
       (try rw [hji7] at A4); have hji7w : (IntKind.i64.wrap (x3_1 - 1)) = ji7 := (i64_w _).trans hji7; obtain ⟨c8, H⟩ := ifc_ H; have c8b0 : decide (0 ≤ (ji7)) = true := decide_eq_true c8; clear c8; obtain ⟨c9, H⟩ := ifc_ H; have c9b0 : decide ((ji7) < (l0.length : Int)) = true := decide_eq_true c9; clear c9; have p110 : 0 ≤ (x3_1 : Int) := od_; have q110 : x3_1 < (l0.length : Int) := od_; obtain ⟨ad110, e110, hx110_0⟩ := Kd.at_int HR0.out x3_1 p110 q110
       cases e110
       replace p110 := eq_true p110; replace q110 := eq_true q110
       by_cases c10 : (rd l0 x3_1) ≤ (rd l0 (ji7))
       ·
        rw [if_pos c10] at H; have c10b0 : decide ((rd l0 x3_1) ≤ (rd l0 (ji7))) = true := decide_eq_true c10; clear c10; obtain rfl := Option.some.inj H
        go_wp2_with (first | (go_at_call 72; (with_reducible refine (spec_l1In.calls (rd l0 x3_1) 1 999 true _ A4.out).mono ?_); rintro e w' ⟨rfl, ⟨nd, rfl⟩⟩; (try first | exact ⟨rfl, _, World.drewN_drewN _ _ _⟩ | exact ⟨rfl, _, Eq.trans (World.drewN_drewN _ _ _) (congrArg (World.drewN _) (Nat.add_assoc _ _ _))⟩); have p112 : 0 ≤ (x3_1 : Int) := od_; have q112 : x3_1 < (l0.length : Int) := od_; obtain ⟨ad112, e112, hx112_0⟩ := Kd.at_int HR0.out x3_1 p112 q112; obtain rfl : ad110 = ad112 := (by injection e112); replace p112 := eq_true p112; replace q112 := eq_true q112; have p113 : 0 ≤ ((ji7) : Int) := od_; have q113 : (ji7) < (l0.length : Int) := od_; obtain ⟨ad113, e113, hx113_0⟩ := Kd.at_int HR0.out (ji7) p113 q113; obtain rfl : ad110 = ad113 := (by injection e113); replace p113 := eq_true p113; replace q113 := eq_true q113))
        (repeat (go_quiet (first | (go_at_call 72; (with_reducible refine (spec_l1In.calls (rd l0 x3_1) 1 999 true _ A4.out).mono ?_); rintro e w' ⟨rfl, ⟨nd, rfl⟩⟩; (try first | exact ⟨rfl, _, World.drewN_drewN _ _ _⟩ | exact ⟨rfl, _, Eq.trans (World.drewN_drewN _ _ _) (congrArg (World.drewN _) (Nat.add_assoc _ _ _))⟩); have p112 : 0 ≤ (x3_1 : Int) := od_; have q112 : x3_1 < (l0.length : Int) := od_; obtain ⟨ad112, e112, hx112_0⟩ := Kd.at_int HR0.out x3_1 p112 q112; obtain rfl : ad110 = ad112 := (by injection e112); replace p112 := eq_true p112; replace q112 := eq_true q112; have p113 : 0 ≤ ((ji7) : Int) := od_; have q113 : (ji7) < (l0.length : Int) := od_; obtain ⟨ad113, e113, hx113_0⟩ := Kd.at_int HR0.out (ji7) p113 q113; obtain rfl : ad110 = ad113 := (by injection e113); replace p113 := eq_true p113; replace q113 := eq_true q113)); try go_wp2_with (first | (go_at_call 72; (with_reducible refine (spec_l1In.calls (rd l0 x3_1) 1 999 true _ A4.out).mono ?_); rintro e w' ⟨rfl, ⟨nd, rfl⟩⟩; (try first | exact ⟨rfl, _, World.drewN_drewN _ _ _⟩ | exact ⟨rfl, _, Eq.trans (World.drewN_drewN _ _ _) (congrArg (World.drewN _) (Nat.add_assoc _ _ _))⟩); have p112 : 0 ≤ (x3_1 : Int) := od_; have q112 : x3_1 < (l0.length : Int) := od_; obtain ⟨ad112, e112, hx112_0⟩ := Kd.at_int HR0.out x3_1 p112 q112; obtain rfl : ad110 = ad112 := (by injection e112); replace p112 := eq_true p112; replace q112 := eq_true q112; have p113 : 0 ≤ ((ji7) : Int) := od_; have q113 : (ji7) < (l0.length : Int) := od_; obtain ⟨ad113, e113, hx113_0⟩ := Kd.at_int HR0.out (ji7) p113 q113; obtain rfl : ad110 = ad113 := (by injection e113); replace p113 := eq_true p113; replace q113 := eq_true q113))))
        go_ret
        exact ⟨by first | rfl | (simp; done) | (simp only [← hji7] <;> (first | rfl | simp)) | (simp [*]; done) | (simp; generalize ByteArray.toList _ = zq_; cases zq_ <;> rfl), dr_⟩
       ·
        rw [if_neg c10] at H; have c10b0 : decide ((rd l0 x3_1) ≤ (rd l0 (ji7))) = false := decide_eq_false c10; clear c10; have H' := Aside0.mk H; clear H
        go_wp2_with (first | (go_at_call 72; (with_reducible refine (spec_l1In.calls (rd l0 x3_1) 1 999 true _ A4.out).mono ?_); rintro e w' ⟨rfl, ⟨nd, rfl⟩⟩; (try first | exact ⟨rfl, _, World.drewN_drewN _ _ _⟩ | exact ⟨rfl, _, Eq.trans (World.drewN_drewN _ _ _) (congrArg (World.drewN _) (Nat.add_assoc _ _ _))⟩); have p112 : 0 ≤ (x3_1 : Int) := od_; have q112 : x3_1 < (l0.length : Int) := od_; obtain ⟨ad112, e112, hx112_0⟩ := Kd.at_int HR0.out x3_1 p112 q112; obtain rfl : ad110 = ad112 := (by injection e112); replace p112 := eq_true p112; replace q112 := eq_true q112; have p113 : 0 ≤ ((ji7) : Int) := od_; have q113 : (ji7) < (l0.length : Int) := od_; obtain ⟨ad113, e113, hx113_0⟩ := Kd.at_int HR0.out (ji7) p113 q113; obtain rfl : ad110 = ad113 := (by injection e113); replace p113 := eq_true p113; replace q113 := eq_true q113))
        (repeat (go_quiet (first | (go_at_call 72; (with_reducible refine (spec_l1In.calls (rd l0 x3_1) 1 999 true _ A4.out).mono ?_); rintro e w' ⟨rfl, ⟨nd, rfl⟩⟩; (try first | exact ⟨rfl, _, World.drewN_drewN _ _ _⟩ | exact ⟨rfl, _, Eq.trans (World.drewN_drewN _ _ _) (congrArg (World.drewN _) (Nat.add_assoc _ _ _))⟩); have p112 : 0 ≤ (x3_1 : Int) := od_; have q112 : x3_1 < (l0.length : Int) := od_; obtain ⟨ad112, e112, hx112_0⟩ := Kd.at_int HR0.out x3_1 p112 q112; obtain rfl : ad110 = ad112 := (by injection e112); replace p112 := eq_true p112; replace q112 := eq_true q112; have p113 : 0 ≤ ((ji7) : Int) := od_; have q113 : (ji7) < (l0.length : Int) := od_; obtain ⟨ad113, e113, hx113_0⟩ := Kd.at_int HR0.out (ji7) p113 q113; obtain rfl : ad110 = ad113 := (by injection e113); replace p113 := eq_true p113; replace q113 := eq_true q113)); try go_wp2_with (first | (go_at_call 72; (with_reducible refine (spec_l1In.calls (rd l0 x3_1) 1 999 true _ A4.out).mono ?_); rintro e w' ⟨rfl, ⟨nd, rfl⟩⟩; (try first | exact ⟨rfl, _, World.drewN_drewN _ _ _⟩ | exact ⟨rfl, _, Eq.trans (World.drewN_drewN _ _ _) (congrArg (World.drewN _) (Nat.add_assoc _ _ _))⟩); have p112 : 0 ≤ (x3_1 : Int) := od_; have q112 : x3_1 < (l0.length : Int) := od_; obtain ⟨ad112, e112, hx112_0⟩ := Kd.at_int HR0.out x3_1 p112 q112; obtain rfl : ad110 = ad112 := (by injection e112); replace p112 := eq_true p112; replace q112 := eq_true q112; have p113 : 0 ≤ ((ji7) : Int) := od_; have q113 : (ji7) < (l0.length : Int) := od_; obtain ⟨ad113, e113, hx113_0⟩ := Kd.at_int HR0.out (ji7) p113 q113; obtain rfl : ad110 = ad113 := (by injection e113); replace p113 := eq_true p113; replace q113 := eq_true q113))))
        go_roundg k1
        case measure => have := HK1.out; omega
        case rel => exact ⟨(wrap64 (x3_1 + 1)), vl_, H', ⟨by have := HK1.out; omega⟩, dr_⟩
      ·
       rw [if_neg c6] at H; have c6b0 : decide (0 < x3_1) = false := decide_eq_false c6; clear c6; have H' := Aside0.mk H; clear H; have p110 : 0 ≤ (x3_1 : Int) := od_; have q110 : x3_1 < (l0.length : Int) := od_; obtain ⟨ad110, e110, hx110_0⟩ := Kd.at_int HR0.out x3_1 p110 q110
       cases e110
       replace p110 := eq_true p110; replace q110 := eq_true q110
       go_wp2_with (first | (go_at_call 72; (with_reducible refine (spec_l1In.calls (rd l0 x3_1) 1 999 true _ A4.out).mono ?_); rintro e w' ⟨rfl, ⟨nd, rfl⟩⟩; (try first | exact ⟨rfl, _, World.drewN_drewN _ _ _⟩ | exact ⟨rfl, _, Eq.trans (World.drewN_drewN _ _ _) (congrArg (World.drewN _) (Nat.add_assoc _ _ _))⟩)))
       (repeat (go_quiet (first | (go_at_call 72; (with_reducible refine (spec_l1In.calls (rd l0 x3_1) 1 999 true _ A4.out).mono ?_); rintro e w' ⟨rfl, ⟨nd, rfl⟩⟩; (try first | exact ⟨rfl, _, World.drewN_drewN _ _ _⟩ | exact ⟨rfl, _, Eq.trans (World.drewN_drewN _ _ _) (congrArg (World.drewN _) (Nat.add_assoc _ _ _))⟩))); try go_wp2_with (first | (go_at_call 72; (with_reducible refine (spec_l1In.calls (rd l0 x3_1) 1 999 true _ A4.out).mono ?_); rintro e w' ⟨rfl, ⟨nd, rfl⟩⟩; (try first | exact ⟨rfl, _, World.drewN_drewN _ _ _⟩ | exact ⟨rfl, _, Eq.trans (World.drewN_drewN _ _ _) (congrArg (World.drewN _) (Nat.add_assoc _ _ _))⟩)))))
       go_roundg k1
       case measure => have := HK1.out; omega
       case rel => exact ⟨(wrap64 (x3_1 + 1)), vl_, H', ⟨by have := HK1.out; omega⟩, dr_⟩
     ·
      replace c5 := Bool.eq_false_iff.mpr c5; subst c5; (try rw [if_neg (show ¬ (false = true) by decide)] at H); obtain rfl := Option.some.inj H; have p110 : 0 ≤ (x3_1 : Int) := od_; have q110 : x3_1 < (l0.length : Int) := od_; obtain ⟨ad110, e110, hx110_0⟩ := Kd.at_int HR0.out x3_1 p110 q110
      cases e110
      replace p110 := eq_true p110; replace q110 := eq_true q110
      go_wp2_with (first | (go_at_call 72; (with_reducible refine (spec_l1In.calls (rd l0 x3_1) 1 999 false _ A4.out).mono ?_); rintro e w' ⟨rfl, ⟨nd, rfl⟩⟩; (try first | exact ⟨rfl, _, World.drewN_drewN _ _ _⟩ | exact ⟨rfl, _, Eq.trans (World.drewN_drewN _ _ _) (congrArg (World.drewN _) (Nat.add_assoc _ _ _))⟩)))
      (repeat (go_quiet (first | (go_at_call 72; (with_reducible refine (spec_l1In.calls (rd l0 x3_1) 1 999 false _ A4.out).mono ?_); rintro e w' ⟨rfl, ⟨nd, rfl⟩⟩; (try first | exact ⟨rfl, _, World.drewN_drewN _ _ _⟩ | exact ⟨rfl, _, Eq.trans (World.drewN_drewN _ _ _) (congrArg (World.drewN _) (Nat.add_assoc _ _ _))⟩))); try go_wp2_with (first | (go_at_call 72; (with_reducible refine (spec_l1In.calls (rd l0 x3_1) 1 999 false _ A4.out).mono ?_); rintro e w' ⟨rfl, ⟨nd, rfl⟩⟩; (try first | exact ⟨rfl, _, World.drewN_drewN _ _ _⟩ | exact ⟨rfl, _, Eq.trans (World.drewN_drewN _ _ _) (congrArg (World.drewN _) (Nat.add_assoc _ _ _))⟩)))))
      go_ret
      exact ⟨vl_, dr_⟩
    ·
     rw [if_neg c2] at H; have c2b0 : decide (x3_1 < (l0.length : Int)) = false := decide_eq_false c2; clear c2; obtain rfl := Option.some.inj H
     go_wp2
     (repeat (go_quiet (fail); try go_wp2_with (fail)))
     go_ret
     exact ⟨vl_, dr_⟩

end Go.Proofs.Ytehdbobpbcjmeaa.PFnJournals

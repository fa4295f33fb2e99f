/- Functions of the program as Lean functions, each with the proof that its call comes to what that function says (texts written by a program of this session). Conditions: those that stand in each theorem. -/
import Derived.Test.YtnehephjliankaaPFnExactCmdFaultx0
import Derived.Test.YtnehephjliankaaPFnExactCmdFaultx1
namespace Go.Proofs.Ytnehephjliankaa.PFnExactCmdFault
open Go.RowKit Go.Proofs.YtnehephjliankaaW.PrintWords Go.Proofs.YtnehephjliankaaW.PrintLast Go.Proofs.YtnehephjliankaaW.PrintMore
attribute [local go_sem] max2_int min2_int max_two min_two max_three min_three max_four min_four   -- for this text's walks alone
set_option linter.unusedVariables false
set_option linter.unusedSimpArgs false

/-! ### spec_l14Form: function 69 -/
mutual
def spec_l14Form.j0 : Nat → List (S33) → Bool → Option (Bool)
 | 0, _, _ => none
 | k + 1, x0, x39 => if x39 = true then (some false) else (if 0 < (x0.length : Int) then (if ((rd_T33 x0 0).f1) = 7 then (spec_l14Form.j1 k x0 false) else (if ((rd_T33 x0 0).f4) = 0 then (if ((rd_T33 x0 0).f1) = 6 then (spec_l14Form.j1 k x0 false) else (spec_l14Form.j1 k x0 (((rd_T33 x0 0).f5) != 0))) else (spec_l14Form.j1 k x0 true))) else (none))
def spec_l14Form.j1 : Nat → List (S33) → Bool → Option (Bool)
 | 0, _, _ => none
 | k + 1, x0, x65 => if x65 = true then (some false) else (if 0 < (x0.length : Int) then (if ((rd_T33 x0 0).f1) = 6 then (if ((rd_T33 x0 0).f1) = 11 then (spec_l14Form.j2 k x0 false) else (spec_l14Form.j2 k x0 (((rd_T33 x0 0).f8) != 0))) else (if ((rd_T33 x0 0).f6) = 0 then (if (((rd_T33 x0 0).f7).length : Int) > 0 then (spec_l14Form.j2 k x0 true) else (if ((rd_T33 x0 0).f1) = 11 then (spec_l14Form.j2 k x0 false) else (spec_l14Form.j2 k x0 (((rd_T33 x0 0).f8) != 0)))) else (spec_l14Form.j2 k x0 true))) else (none))
def spec_l14Form.j2 : Nat → List (S33) → Bool → Option (Bool)
 | 0, _, _ => none
 | k + 1, x0, x99 => if x99 = true then (some false) else (if 0 < (x0.length : Int) then ((spec_l14Pathed.f ((rd_T33 x0 0).f8)).bind fun t122 => (if t122 = true then (if ((rd_T33 x0 0).f1) = 13 then ((spec_l14Termed.f ((rd_T33 x0 0).f1)).bind fun t124 => (if t124 = true then (if ((rd_T33 x0 0).f1) = 14 then (some true) else (some (((rd_T33 x0 0).f13) == 0))) else (if (((rd_T33 x0 0).f12).length : Int) = 0 then (if ((rd_T33 x0 0).f1) = 14 then (some true) else (some (((rd_T33 x0 0).f13) == 0))) else (some false)))) else (if ((rd_T33 x0 0).f10) = 0 then (if (rd_T33 x0 0).f11 = true then (some false) else ((spec_l14Termed.f ((rd_T33 x0 0).f1)).bind fun t126 => (if t126 = true then (if ((rd_T33 x0 0).f1) = 14 then (some true) else (some (((rd_T33 x0 0).f13) == 0))) else (if (((rd_T33 x0 0).f12).length : Int) = 0 then (if ((rd_T33 x0 0).f1) = 14 then (some true) else (some (((rd_T33 x0 0).f13) == 0))) else (some false))))) else (some false))) else (if (((rd_T33 x0 0).f9).length : Int) > 0 then (some false) else (if ((rd_T33 x0 0).f1) = 13 then ((spec_l14Termed.f ((rd_T33 x0 0).f1)).bind fun t128 => (if t128 = true then (if ((rd_T33 x0 0).f1) = 14 then (some true) else (some (((rd_T33 x0 0).f13) == 0))) else (if (((rd_T33 x0 0).f12).length : Int) = 0 then (if ((rd_T33 x0 0).f1) = 14 then (some true) else (some (((rd_T33 x0 0).f13) == 0))) else (some false)))) else (if ((rd_T33 x0 0).f10) = 0 then (if (rd_T33 x0 0).f11 = true then (some false) else ((spec_l14Termed.f ((rd_T33 x0 0).f1)).bind fun t130 => (if t130 = true then (if ((rd_T33 x0 0).f1) = 14 then (some true) else (some (((rd_T33 x0 0).f13) == 0))) else (if (((rd_T33 x0 0).f12).length : Int) = 0 then (if ((rd_T33 x0 0).f1) = 14 then (some true) else (some (((rd_T33 x0 0).f13) == 0))) else (some false))))) else (some false)))))) else (none))
end
def spec_l14Form.f (k : Nat) (l0 : List (S33)) : Option (Bool) := if 0 < (l0.length : Int) then ((spec_l1In.f ((rd_T33 l0 0).f1) 1 14).bind fun t115 => (if t115 = true then ((spec_l14Named.f ((rd_T33 l0 0).f1)).bind fun t116 => (if t116 = true then ((spec_l14Ranged.f ((rd_T33 l0 0).f1)).bind fun t117 => (if t117 = true then (spec_l14Form.j0 k l0 false) else (spec_l14Form.j0 k l0 (decide ((((rd_T33 l0 0).f3).length : Int) > 0))))) else (if ((rd_T33 l0 0).f2).toList = ([] : List UInt8) then ((spec_l14Ranged.f ((rd_T33 l0 0).f1)).bind fun t118 => (if t118 = true then (spec_l14Form.j0 k l0 false) else (spec_l14Form.j0 k l0 (decide ((((rd_T33 l0 0).f3).length : Int) > 0))))) else (spec_l14Form.j0 k l0 true)))) else (spec_l14Form.j0 k l0 true))) else (none)
set_option maxHeartbeats 8000000 in
set_option maxRecDepth 100000 in
theorem spec_l14Form.calls (k : Nat) (A0 : Option Addr) (c0 : Nat) (l0 : List (S33)) (r : Bool) (w : World) (hr0 : Kd.C k33 w A0 l0.length l0) (hc0 : l0.length ≤ c0) (h : spec_l14Form.f k l0 = some r) :
 Calls Try.prog 69 #[.pointer A0] w fun e w' => e = .returned (.bool r) ∧ Drawn0 w w' := by
 have HR0 := Aside0.mk hr0
 have HC0 := Aside0.mk hc0
 clear hr0 hc0
 have H : (if 0 < (l0.length : Int) then ((spec_l1In.f ((rd_T33 l0 0).f1) 1 14).bind fun t115 => (if t115 = true then ((spec_l14Named.f ((rd_T33 l0 0).f1)).bind fun t116 => (if t116 = true then ((spec_l14Ranged.f ((rd_T33 l0 0).f1)).bind fun t117 => (if t117 = true then (spec_l14Form.j0 k l0 false) else (spec_l14Form.j0 k l0 (decide ((((rd_T33 l0 0).f3).length : Int) > 0))))) else (if ((rd_T33 l0 0).f2).toList = ([] : List UInt8) then ((spec_l14Ranged.f ((rd_T33 l0 0).f1)).bind fun t118 => (if t118 = true then (spec_l14Form.j0 k l0 false) else (spec_l14Form.j0 k l0 (decide ((((rd_T33 l0 0).f3).length : Int) > 0))))) else (spec_l14Form.j0 k l0 true)))) else (spec_l14Form.j0 k l0 true))) else (none)) = some r := h
 clear h
 have HC2 := Aside0.mk H
 clear H
 go_enter Try.func69, Try.ntmps69
 go_upto_region 1 with (fail)
 go_cut [39] (fun v39 wc => ∃ (kq : Nat) (x39_1 : Bool), v39 = .bool x39_1 ∧ Aside0 (spec_l14Form.j0 kq l0 x39_1 = some r) ∧ Aside0 (kq ≤ k) ∧ Drawn0 w wc)
 case first =>
  have H := HC2.out
  clear HC2
  by_cases c3 : 0 < (l0.length : Int)
  case neg => rw [if_neg c3] at H; exact absurd H (by simp)
  rw [if_pos c3] at H
  have c3b0 : decide (0 < (l0.length : Int)) = true := decide_eq_true c3
  have c3b1 : decide (0 < l0.length) = true := decide_eq_true (by omega)
  clear c3
  (first | rw [c3b0] | (simp only [i64_w, i32_w]; rw [c3b0]) | skip)
  replace H := Option.bind_eq_some_iff.mp H
  obtain ⟨t115, A40, H⟩ := H
  (try dsimp only at H)
  have A4 := Aside0.mk A40
  clear A40
  have p114 : 0 ≤ (0 : Int) := (by omega)
  have q114 : 0 < (l0.length : Int) := od_
  obtain ⟨ad114, A114_3, c114_3, A114_7, c114_7, A114_9, c114_9, A114_12, c114_12, e114, hx114_0, hx114_1, hx114_2, hx114_3, hx114_4, hx114_5, hx114_6, hx114_7, hx114_8, hx114_9, hx114_10, hx114_11, hx114_12, hx114_13, hl114_3, hi114_3, hl114_7, hi114_7, hl114_9, hi114_9, hl114_12, hi114_12⟩ := at_T33 HR0.out 0 p114 q114
  cases e114
  have qi114 : (0 < l0.length) = True := eq_true (by omega)
  (try simp only [Int.toNat_zero, Nat.zero_mul, Addr.add_zero'] at hx114_0 hx114_1 hx114_2 hx114_3 hx114_4 hx114_5 hx114_6 hx114_7 hx114_8 hx114_9 hx114_10 hx114_11 hx114_12 hx114_13)
  have HR114_3 := Aside0.mk hi114_3
  have HC114_3 := Aside0.mk hl114_3
  clear hi114_3 hl114_3
  have HR114_7 := Aside0.mk hi114_7
  have HC114_7 := Aside0.mk hl114_7
  clear hi114_7 hl114_7
  have HR114_9 := Aside0.mk hi114_9
  have HC114_9 := Aside0.mk hl114_9
  clear hi114_9 hl114_9
  have HR114_12 := Aside0.mk hi114_12
  have HC114_12 := Aside0.mk hl114_12
  clear hi114_12 hl114_12
  replace p114 := eq_true p114
  replace q114 := eq_true q114
  by_cases c5 : t115 = true
  ·
   subst c5
   (try rw [if_pos rfl] at H)
   replace H := Option.bind_eq_some_iff.mp H
   obtain ⟨t116, A60, H⟩ := H
   (try dsimp only at H)
   have A6 := Aside0.mk A60
   clear A60
   by_cases c7 : t116 = true
   ·
    subst c7
    (try rw [if_pos rfl] at H)
    replace H := Option.bind_eq_some_iff.mp H
    obtain ⟨t117, A80, H⟩ := H
    (try dsimp only at H)
    have A8 := Aside0.mk A80
    clear A80
    by_cases c9 : t117 = true
    ·
     subst c9
     (try rw [if_pos rfl] at H)
     have H' := Aside0.mk H
     clear H
     go_wp2_with (first | ((with_reducible refine gate_callee (f := 112) rfl ?_); refine goesY_ (some 7) Try.func112 #[.int .i64 ((rd_T33 l0 0).f1), .int .i64 1, .int .i64 14] rfl ?_; (with_reducible refine (spec_l1In.calls ((rd_T33 l0 0).f1) 1 14 true _ A4.out).mono ?_); rintro e w' ⟨rfl, ⟨nd, rfl⟩⟩; refine ⟨_, rfl, ?_⟩) | (go_at_call 70; (with_reducible refine (spec_l14Named.calls ((rd_T33 l0 0).f1) true _ A6.out).mono ?_); rintro e w' ⟨rfl, ⟨nd, rfl⟩⟩) | (go_at_call 72; (with_reducible refine (spec_l14Ranged.calls ((rd_T33 l0 0).f1) true _ A8.out).mono ?_); rintro e w' ⟨rfl, ⟨nd, rfl⟩⟩))
     go_meet
     case rel => exact ⟨_, (false), vl_, H', ⟨le_⟩, dr_⟩
    ·
     replace c9 := Bool.eq_false_iff.mpr c9
     subst c9
     (try rw [if_neg (show ¬ (false = true) by decide)] at H)
     have H' := Aside0.mk H
     clear H
     go_wp2_with (first | ((with_reducible refine gate_callee (f := 112) rfl ?_); refine goesY_ (some 7) Try.func112 #[.int .i64 ((rd_T33 l0 0).f1), .int .i64 1, .int .i64 14] rfl ?_; (with_reducible refine (spec_l1In.calls ((rd_T33 l0 0).f1) 1 14 true _ A4.out).mono ?_); rintro e w' ⟨rfl, ⟨nd, rfl⟩⟩; refine ⟨_, rfl, ?_⟩) | (go_at_call 70; (with_reducible refine (spec_l14Named.calls ((rd_T33 l0 0).f1) true _ A6.out).mono ?_); rintro e w' ⟨rfl, ⟨nd, rfl⟩⟩) | (go_at_call 72; (with_reducible refine (spec_l14Ranged.calls ((rd_T33 l0 0).f1) false _ A8.out).mono ?_); rintro e w' ⟨rfl, ⟨nd, rfl⟩⟩))
     go_meet
     case rel => exact ⟨_, (decide ((((rd_T33 l0 0).f3).length : Int) > 0)), vl_, H', ⟨le_⟩, dr_⟩
   ·
    replace c7 := Bool.eq_false_iff.mpr c7
    subst c7
    (try rw [if_neg (show ¬ (false = true) by decide)] at H)
    by_cases c10 : ((rd_T33 l0 0).f2).toList = ([] : List UInt8)
    ·
     rw [if_pos c10] at H
     have c10b0 : (((rd_T33 l0 0).f2).toList == ([] : List UInt8)) = true := beq_iff_eq.mpr c10
     have c10b1 : (((rd_T33 l0 0).f2).toList != ([] : List UInt8)) = false := bne_eq_false_iff_eq.mpr c10
     clear c10
     replace H := Option.bind_eq_some_iff.mp H
     obtain ⟨t118, A110, H⟩ := H
     (try dsimp only at H)
     have A11 := Aside0.mk A110
     clear A110
     by_cases c12 : t118 = true
     ·
      subst c12
      (try rw [if_pos rfl] at H)
      have H' := Aside0.mk H
      clear H
      go_wp2_with (first | ((with_reducible refine gate_callee (f := 112) rfl ?_); refine goesY_ (some 7) Try.func112 #[.int .i64 ((rd_T33 l0 0).f1), .int .i64 1, .int .i64 14] rfl ?_; (with_reducible refine (spec_l1In.calls ((rd_T33 l0 0).f1) 1 14 true _ A4.out).mono ?_); rintro e w' ⟨rfl, ⟨nd, rfl⟩⟩; refine ⟨_, rfl, ?_⟩) | (go_at_call 70; (with_reducible refine (spec_l14Named.calls ((rd_T33 l0 0).f1) false _ A6.out).mono ?_); rintro e w' ⟨rfl, ⟨nd, rfl⟩⟩) | (go_at_call 72; (with_reducible refine (spec_l14Ranged.calls ((rd_T33 l0 0).f1) true _ A11.out).mono ?_); rintro e w' ⟨rfl, ⟨nd, rfl⟩⟩))
      go_meet
      case rel => exact ⟨_, (false), vl_, H', ⟨le_⟩, dr_⟩
     ·
      replace c12 := Bool.eq_false_iff.mpr c12
      subst c12
      (try rw [if_neg (show ¬ (false = true) by decide)] at H)
      have H' := Aside0.mk H
      clear H
      go_wp2_with (first | ((with_reducible refine gate_callee (f := 112) rfl ?_); refine goesY_ (some 7) Try.func112 #[.int .i64 ((rd_T33 l0 0).f1), .int .i64 1, .int .i64 14] rfl ?_; (with_reducible refine (spec_l1In.calls ((rd_T33 l0 0).f1) 1 14 true _ A4.out).mono ?_); rintro e w' ⟨rfl, ⟨nd, rfl⟩⟩; refine ⟨_, rfl, ?_⟩) | (go_at_call 70; (with_reducible refine (spec_l14Named.calls ((rd_T33 l0 0).f1) false _ A6.out).mono ?_); rintro e w' ⟨rfl, ⟨nd, rfl⟩⟩) | (go_at_call 72; (with_reducible refine (spec_l14Ranged.calls ((rd_T33 l0 0).f1) false _ A11.out).mono ?_); rintro e w' ⟨rfl, ⟨nd, rfl⟩⟩))
      go_meet
      case rel => exact ⟨_, (decide ((((rd_T33 l0 0).f3).length : Int) > 0)), vl_, H', ⟨le_⟩, dr_⟩
    ·
     rw [if_neg c10] at H
     have c10b0 : (((rd_T33 l0 0).f2).toList == ([] : List UInt8)) = false := beq_eq_false_iff_ne.mpr c10
     have c10b1 : (((rd_T33 l0 0).f2).toList != ([] : List UInt8)) = true := bne_iff_ne.mpr c10
     have H' := Aside0.mk H
     clear H
     go_wp2_with (first | ((with_reducible refine gate_callee (f := 112) rfl ?_); refine goesY_ (some 7) Try.func112 #[.int .i64 ((rd_T33 l0 0).f1), .int .i64 1, .int .i64 14] rfl ?_; (with_reducible refine (spec_l1In.calls ((rd_T33 l0 0).f1) 1 14 true _ A4.out).mono ?_); rintro e w' ⟨rfl, ⟨nd, rfl⟩⟩; refine ⟨_, rfl, ?_⟩) | (go_at_call 70; (with_reducible refine (spec_l14Named.calls ((rd_T33 l0 0).f1) false _ A6.out).mono ?_); rintro e w' ⟨rfl, ⟨nd, rfl⟩⟩))
     go_meet
     case rel => exact ⟨_, (true), vl_, H', ⟨le_⟩, dr_⟩
  ·
   replace c5 := Bool.eq_false_iff.mpr c5
   subst c5
   (try rw [if_neg (show ¬ (false = true) by decide)] at H)
   have H' := Aside0.mk H
   clear H
   go_wp2_with (first | ((with_reducible refine gate_callee (f := 112) rfl ?_); refine goesY_ (some 7) Try.func112 #[.int .i64 ((rd_T33 l0 0).f1), .int .i64 1, .int .i64 14] rfl ?_; (with_reducible refine (spec_l1In.calls ((rd_T33 l0 0).f1) 1 14 false _ A4.out).mono ?_); rintro e w' ⟨rfl, ⟨nd, rfl⟩⟩; refine ⟨_, rfl, ?_⟩))
   go_meet
   case rel => exact ⟨_, (true), vl_, H', ⟨le_⟩, dr_⟩
 case rest =>
  clear HC2
  try clear q1
  try clear hx1
  try clear qi1
  try clear q11
  try clear hx11
  try clear qi11
  try clear hx114_0
  try clear hx114_1
  try clear hx114_10
  try clear hx114_11
  try clear hx114_12
  try clear hx114_13
  try clear hx114_2
  try clear hx114_3
  try clear hx114_4
  try clear hx114_5
  try clear hx114_6
  try clear hx114_7
  try clear hx114_8
  try clear hx114_9
  try clear q114
  obtain ⟨kq, x39_1, rfl, HA, HJ1, ⟨mc1, rfl⟩⟩ := hcut
  cases kq with
  | zero => exact absurd HA.out (by simp [spec_l14Form.j0])
  | succ kj1 =>
    have H := HA.out
    clear HA
    simp only [spec_l14Form.j0] at H
    by_cases c13 : x39_1 = true
    ·
     subst c13
     (try rw [if_pos rfl] at H)
     obtain rfl := Option.some.inj H
     go_wp2
     go_ret
     exact ⟨vl_, dr_⟩
    ·
     replace c13 := Bool.eq_false_iff.mpr c13
     subst c13
     (try rw [if_neg (show ¬ (false = true) by decide)] at H)
     have HC14 := Aside0.mk H
     clear H
     go_upto_region 3 with (fail)
     go_cut [65] (fun v65 wc => ∃ (kq : Nat) (x65_13 : Bool), v65 = .bool x65_13 ∧ Aside0 (spec_l14Form.j1 kq l0 x65_13 = some r) ∧ Aside0 (kq ≤ kj1) ∧ Drawn0 w wc)
     case first =>
      have H := HC14.out
      clear HC14
      by_cases c15 : 0 < (l0.length : Int)
      case neg => rw [if_neg c15] at H; exact absurd H (by simp)
      rw [if_pos c15] at H
      have c15b0 : decide (0 < (l0.length : Int)) = true := decide_eq_true c15
      have c15b1 : decide (0 < l0.length) = true := decide_eq_true (by omega)
      clear c15
      (first | rw [c15b0] | (simp only [i64_w, i32_w]; rw [c15b0]) | skip)
      have p119 : 0 ≤ (0 : Int) := (by omega)
      have q119 : 0 < (l0.length : Int) := od_
      obtain ⟨ad119, A119_3, c119_3, A119_7, c119_7, A119_9, c119_9, A119_12, c119_12, e119, hx119_0, hx119_1, hx119_2, hx119_3, hx119_4, hx119_5, hx119_6, hx119_7, hx119_8, hx119_9, hx119_10, hx119_11, hx119_12, hx119_13, hl119_3, hi119_3, hl119_7, hi119_7, hl119_9, hi119_9, hl119_12, hi119_12⟩ := at_T33 HR0.out 0 p119 q119
      cases e119
      have qi119 : (0 < l0.length) = True := eq_true (by omega)
      (try simp only [Int.toNat_zero, Nat.zero_mul, Addr.add_zero'] at hx119_0 hx119_1 hx119_2 hx119_3 hx119_4 hx119_5 hx119_6 hx119_7 hx119_8 hx119_9 hx119_10 hx119_11 hx119_12 hx119_13)
      have HR119_3 := Aside0.mk hi119_3
      have HC119_3 := Aside0.mk hl119_3
      clear hi119_3 hl119_3
      have HR119_7 := Aside0.mk hi119_7
      have HC119_7 := Aside0.mk hl119_7
      clear hi119_7 hl119_7
      have HR119_9 := Aside0.mk hi119_9
      have HC119_9 := Aside0.mk hl119_9
      clear hi119_9 hl119_9
      have HR119_12 := Aside0.mk hi119_12
      have HC119_12 := Aside0.mk hl119_12
      clear hi119_12 hl119_12
      replace p119 := eq_true p119
      replace q119 := eq_true q119
      by_cases c16 : ((rd_T33 l0 0).f1) = 7
      ·
       rw [if_pos c16] at H
       have c16b0 : (((rd_T33 l0 0).f1) == 7) = true := beq_iff_eq.mpr c16
       have c16b1 : (((rd_T33 l0 0).f1) != 7) = false := bne_eq_false_iff_eq.mpr c16
       clear c16
       have H' := Aside0.mk H
       clear H
       (try clear hx114_0 hx114_1 hx114_2 hx114_3 hx114_4 hx114_5 hx114_6 hx114_7 hx114_8 hx114_9 hx114_10 hx114_11 hx114_12 hx114_13)
       (try clear hx114_0 hx114_1 hx114_2 hx114_3 hx114_4 hx114_5 hx114_6 hx114_7 hx114_8 hx114_9 hx114_10 hx114_11 hx114_12 hx114_13)
       (try clear hx114_0 hx114_1 hx114_2 hx114_3 hx114_4 hx114_5 hx114_6 hx114_7 hx114_8 hx114_9 hx114_10 hx114_11 hx114_12 hx114_13)
       (try clear hx114_0 hx114_1 hx114_2 hx114_3 hx114_4 hx114_5 hx114_6 hx114_7 hx114_8 hx114_9 hx114_10 hx114_11 hx114_12 hx114_13)
       (try clear hx114_0 hx114_1 hx114_2 hx114_3 hx114_4 hx114_5 hx114_6 hx114_7 hx114_8 hx114_9 hx114_10 hx114_11 hx114_12 hx114_13)
       (try clear hx114_0 hx114_1 hx114_2 hx114_3 hx114_4 hx114_5 hx114_6 hx114_7 hx114_8 hx114_9 hx114_10 hx114_11 hx114_12 hx114_13)
       go_wp2
       go_meet
       case rel => exact ⟨_, (false), vl_, H', ⟨by have := HJ1.out; first | omega | exact Nat.le_refl _⟩, dr_⟩
      ·
       rw [if_neg c16] at H
       have c16b0 : (((rd_T33 l0 0).f1) == 7) = false := beq_eq_false_iff_ne.mpr c16
       have c16b1 : (((rd_T33 l0 0).f1) != 7) = true := bne_iff_ne.mpr c16
       by_cases c17 : ((rd_T33 l0 0).f4) = 0
       ·
        rw [if_pos c17] at H
        have c17b0 : (((rd_T33 l0 0).f4) == 0) = true := beq_iff_eq.mpr c17
        have c17b1 : (((rd_T33 l0 0).f4) != 0) = false := bne_eq_false_iff_eq.mpr c17
        clear c17
        by_cases c18 : ((rd_T33 l0 0).f1) = 6
        ·
         rw [if_pos c18] at H
         have c18b0 : (((rd_T33 l0 0).f1) == 6) = true := beq_iff_eq.mpr c18
         have c18b1 : (((rd_T33 l0 0).f1) != 6) = false := bne_eq_false_iff_eq.mpr c18
         clear c18
         have H' := Aside0.mk H
         clear H
         (try clear hx114_0 hx114_1 hx114_2 hx114_3 hx114_4 hx114_5 hx114_6 hx114_7 hx114_8 hx114_9 hx114_10 hx114_11 hx114_12 hx114_13)
         (try clear hx114_0 hx114_1 hx114_2 hx114_3 hx114_4 hx114_5 hx114_6 hx114_7 hx114_8 hx114_9 hx114_10 hx114_11 hx114_12 hx114_13)
         (try clear hx114_0 hx114_1 hx114_2 hx114_3 hx114_4 hx114_5 hx114_6 hx114_7 hx114_8 hx114_9 hx114_10 hx114_11 hx114_12 hx114_13)
         (try clear hx114_0 hx114_1 hx114_2 hx114_3 hx114_4 hx114_5 hx114_6 hx114_7 hx114_8 hx114_9 hx114_10 hx114_11 hx114_12 hx114_13)
         (try clear hx114_0 hx114_1 hx114_2 hx114_3 hx114_4 hx114_5 hx114_6 hx114_7 hx114_8 hx114_9 hx114_10 hx114_11 hx114_12 hx114_13)
         (try clear hx114_0 hx114_1 hx114_2 hx114_3 hx114_4 hx114_5 hx114_6 hx114_7 hx114_8 hx114_9 hx114_10 hx114_11 hx114_12 hx114_13)
         go_wp2
         go_meet
         case rel => exact ⟨_, (false), vl_, H', ⟨by have := HJ1.out; first | omega | exact Nat.le_refl _⟩, dr_⟩
        ·
         rw [if_neg c18] at H
         have c18b0 : (((rd_T33 l0 0).f1) == 6) = false := beq_eq_false_iff_ne.mpr c18
         have c18b1 : (((rd_T33 l0 0).f1) != 6) = true := bne_iff_ne.mpr c18
         have H' := Aside0.mk H
         clear H
         (try clear hx114_0 hx114_1 hx114_2 hx114_3 hx114_4 hx114_5 hx114_6 hx114_7 hx114_8 hx114_9 hx114_10 hx114_11 hx114_12 hx114_13)
         (try clear hx114_0 hx114_1 hx114_2 hx114_3 hx114_4 hx114_5 hx114_6 hx114_7 hx114_8 hx114_9 hx114_10 hx114_11 hx114_12 hx114_13)
         (try clear hx114_0 hx114_1 hx114_2 hx114_3 hx114_4 hx114_5 hx114_6 hx114_7 hx114_8 hx114_9 hx114_10 hx114_11 hx114_12 hx114_13)
         (try clear hx114_0 hx114_1 hx114_2 hx114_3 hx114_4 hx114_5 hx114_6 hx114_7 hx114_8 hx114_9 hx114_10 hx114_11 hx114_12 hx114_13)
         (try clear hx114_0 hx114_1 hx114_2 hx114_3 hx114_4 hx114_5 hx114_6 hx114_7 hx114_8 hx114_9 hx114_10 hx114_11 hx114_12 hx114_13)
         (try clear hx114_0 hx114_1 hx114_2 hx114_3 hx114_4 hx114_5 hx114_6 hx114_7 hx114_8 hx114_9 hx114_10 hx114_11 hx114_12 hx114_13)
         go_wp2
         go_meet
         case rel => exact ⟨_, ((((rd_T33 l0 0).f5) != 0)), vl_, H', ⟨by have := HJ1.out; first | omega | exact Nat.le_refl _⟩, dr_⟩
       ·
        rw [if_neg c17] at H
        have c17b0 : (((rd_T33 l0 0).f4) == 0) = false := beq_eq_false_iff_ne.mpr c17
        have c17b1 : (((rd_T33 l0 0).f4) != 0) = true := bne_iff_ne.mpr c17
        have H' := Aside0.mk H
        clear H
        (try clear hx114_0 hx114_1 hx114_2 hx114_3 hx114_4 hx114_5 hx114_6 hx114_7 hx114_8 hx114_9 hx114_10 hx114_11 hx114_12 hx114_13)
        (try clear hx114_0 hx114_1 hx114_2 hx114_3 hx114_4 hx114_5 hx114_6 hx114_7 hx114_8 hx114_9 hx114_10 hx114_11 hx114_12 hx114_13)
        (try clear hx114_0 hx114_1 hx114_2 hx114_3 hx114_4 hx114_5 hx114_6 hx114_7 hx114_8 hx114_9 hx114_10 hx114_11 hx114_12 hx114_13)
        (try clear hx114_0 hx114_1 hx114_2 hx114_3 hx114_4 hx114_5 hx114_6 hx114_7 hx114_8 hx114_9 hx114_10 hx114_11 hx114_12 hx114_13)
        (try clear hx114_0 hx114_1 hx114_2 hx114_3 hx114_4 hx114_5 hx114_6 hx114_7 hx114_8 hx114_9 hx114_10 hx114_11 hx114_12 hx114_13)
        (try clear hx114_0 hx114_1 hx114_2 hx114_3 hx114_4 hx114_5 hx114_6 hx114_7 hx114_8 hx114_9 hx114_10 hx114_11 hx114_12 hx114_13)
        go_wp2
        go_meet
        case rel => exact ⟨_, (true), vl_, H', ⟨by have := HJ1.out; first | omega | exact Nat.le_refl _⟩, dr_⟩
     case rest =>
      clear HC14
      try clear q1
      try clear hx1
      try clear qi1
      try clear q11
      try clear hx11
      try clear qi11
      try clear c13
      try clear hx114_0
      try clear hx114_1
      try clear hx114_10
      try clear hx114_11
      try clear hx114_12
      try clear hx114_13
      try clear hx114_2
      try clear hx114_3
      try clear hx114_4
      try clear hx114_5
      try clear hx114_6
      try clear hx114_7
      try clear hx114_8
      try clear hx114_9
      try clear hx119_0
      try clear hx119_1
      try clear hx119_10
      try clear hx119_11
      try clear hx119_12
      try clear hx119_13
      try clear hx119_2
      try clear hx119_3
      try clear hx119_4
      try clear hx119_5
      try clear hx119_6
      try clear hx119_7
      try clear hx119_8
      try clear hx119_9
      try clear q1
      try clear q11
      try clear q114
      try clear q119
      obtain ⟨kq, x65_13, rfl, HA, HJ13, ⟨mc13, rfl⟩⟩ := hcut
      cases kq with
      | zero => exact absurd HA.out (by simp [spec_l14Form.j1])
      | succ kj13 =>
        have H := HA.out
        clear HA
        simp only [spec_l14Form.j1] at H
        as_aux_lemma =>
        by_cases c19 : x65_13 = true
        ·
         subst c19
         (try rw [if_pos rfl] at H)
         obtain rfl := Option.some.inj H
         go_wp2
         go_ret
         exact ⟨vl_, dr_⟩
        ·
         replace c19 := Bool.eq_false_iff.mpr c19
         subst c19
         (try rw [if_neg (show ¬ (false = true) by decide)] at H)
         have HC20 := Aside0.mk H
         clear H
         go_upto_region 5 with (fail)
         go_cut [99] (fun v99 wc => ∃ (kq : Nat) (x99_19 : Bool), v99 = .bool x99_19 ∧ Aside0 (spec_l14Form.j2 kq l0 x99_19 = some r) ∧ Aside0 (kq ≤ kj13) ∧ Drawn0 w wc)
         case first =>
          have H := HC20.out
          clear HC20
          by_cases c21 : 0 < (l0.length : Int)
          case neg => rw [if_neg c21] at H; exact absurd H (by simp)
          rw [if_pos c21] at H
          have c21b0 : decide (0 < (l0.length : Int)) = true := decide_eq_true c21
          have c21b1 : decide (0 < l0.length) = true := decide_eq_true (by omega)
          clear c21
          (first | rw [c21b0] | (simp only [i64_w, i32_w]; rw [c21b0]) | skip)
          have p120 : 0 ≤ (0 : Int) := (by omega)
          have q120 : 0 < (l0.length : Int) := od_
          obtain ⟨ad120, A120_3, c120_3, A120_7, c120_7, A120_9, c120_9, A120_12, c120_12, e120, hx120_0, hx120_1, hx120_2, hx120_3, hx120_4, hx120_5, hx120_6, hx120_7, hx120_8, hx120_9, hx120_10, hx120_11, hx120_12, hx120_13, hl120_3, hi120_3, hl120_7, hi120_7, hl120_9, hi120_9, hl120_12, hi120_12⟩ := at_T33 HR0.out 0 p120 q120
          cases e120
          have qi120 : (0 < l0.length) = True := eq_true (by omega)
          (try simp only [Int.toNat_zero, Nat.zero_mul, Addr.add_zero'] at hx120_0 hx120_1 hx120_2 hx120_3 hx120_4 hx120_5 hx120_6 hx120_7 hx120_8 hx120_9 hx120_10 hx120_11 hx120_12 hx120_13)
          have HR120_3 := Aside0.mk hi120_3
          have HC120_3 := Aside0.mk hl120_3
          clear hi120_3 hl120_3
          have HR120_7 := Aside0.mk hi120_7
          have HC120_7 := Aside0.mk hl120_7
          clear hi120_7 hl120_7
          have HR120_9 := Aside0.mk hi120_9
          have HC120_9 := Aside0.mk hl120_9
          clear hi120_9 hl120_9
          have HR120_12 := Aside0.mk hi120_12
          have HC120_12 := Aside0.mk hl120_12
          clear hi120_12 hl120_12
          replace p120 := eq_true p120
          replace q120 := eq_true q120
          by_cases c22 : ((rd_T33 l0 0).f1) = 6
          ·
           rw [if_pos c22] at H
           have c22b0 : (((rd_T33 l0 0).f1) == 6) = true := beq_iff_eq.mpr c22
           have c22b1 : (((rd_T33 l0 0).f1) != 6) = false := bne_eq_false_iff_eq.mpr c22
           clear c22
           by_cases c23 : ((rd_T33 l0 0).f1) = 11
           ·
            rw [if_pos c23] at H
            have c23b0 : (((rd_T33 l0 0).f1) == 11) = true := beq_iff_eq.mpr c23
            have c23b1 : (((rd_T33 l0 0).f1) != 11) = false := bne_eq_false_iff_eq.mpr c23
            clear c23
            have H' := Aside0.mk H
            clear H
            (try clear hx114_0 hx114_1 hx114_2 hx114_3 hx114_4 hx114_5 hx114_6 hx114_7 hx114_8 hx114_9 hx114_10 hx114_11 hx114_12 hx114_13)
            (try clear hx114_0 hx114_1 hx114_2 hx114_3 hx114_4 hx114_5 hx114_6 hx114_7 hx114_8 hx114_9 hx114_10 hx114_11 hx114_12 hx114_13)
            (try clear hx114_0 hx114_1 hx114_2 hx114_3 hx114_4 hx114_5 hx114_6 hx114_7 hx114_8 hx114_9 hx114_10 hx114_11 hx114_12 hx114_13)
            (try clear hx114_0 hx114_1 hx114_2 hx114_3 hx114_4 hx114_5 hx114_6 hx114_7 hx114_8 hx114_9 hx114_10 hx114_11 hx114_12 hx114_13)
            (try clear hx114_0 hx114_1 hx114_2 hx114_3 hx114_4 hx114_5 hx114_6 hx114_7 hx114_8 hx114_9 hx114_10 hx114_11 hx114_12 hx114_13)
            (try clear hx114_0 hx114_1 hx114_2 hx114_3 hx114_4 hx114_5 hx114_6 hx114_7 hx114_8 hx114_9 hx114_10 hx114_11 hx114_12 hx114_13)
            (try clear hx119_0 hx119_1 hx119_2 hx119_3 hx119_4 hx119_5 hx119_6 hx119_7 hx119_8 hx119_9 hx119_10 hx119_11 hx119_12 hx119_13)
            (try clear hx119_0 hx119_1 hx119_2 hx119_3 hx119_4 hx119_5 hx119_6 hx119_7 hx119_8 hx119_9 hx119_10 hx119_11 hx119_12 hx119_13)
            (try clear hx119_0 hx119_1 hx119_2 hx119_3 hx119_4 hx119_5 hx119_6 hx119_7 hx119_8 hx119_9 hx119_10 hx119_11 hx119_12 hx119_13)
            (try clear hx119_0 hx119_1 hx119_2 hx119_3 hx119_4 hx119_5 hx119_6 hx119_7 hx119_8 hx119_9 hx119_10 hx119_11 hx119_12 hx119_13)
            go_wp2
            go_meet
            case rel => exact ⟨_, (false), vl_, H', ⟨by have := HJ1.out; have := HJ13.out; first | omega | exact Nat.le_refl _⟩, dr_⟩
           ·
            rw [if_neg c23] at H
            have c23b0 : (((rd_T33 l0 0).f1) == 11) = false := beq_eq_false_iff_ne.mpr c23
            have c23b1 : (((rd_T33 l0 0).f1) != 11) = true := bne_iff_ne.mpr c23
            have H' := Aside0.mk H
            clear H
            (try clear hx114_0 hx114_1 hx114_2 hx114_3 hx114_4 hx114_5 hx114_6 hx114_7 hx114_8 hx114_9 hx114_10 hx114_11 hx114_12 hx114_13)
            (try clear hx114_0 hx114_1 hx114_2 hx114_3 hx114_4 hx114_5 hx114_6 hx114_7 hx114_8 hx114_9 hx114_10 hx114_11 hx114_12 hx114_13)
            (try clear hx114_0 hx114_1 hx114_2 hx114_3 hx114_4 hx114_5 hx114_6 hx114_7 hx114_8 hx114_9 hx114_10 hx114_11 hx114_12 hx114_13)
            (try clear hx114_0 hx114_1 hx114_2 hx114_3 hx114_4 hx114_5 hx114_6 hx114_7 hx114_8 hx114_9 hx114_10 hx114_11 hx114_12 hx114_13)
            (try clear hx114_0 hx114_1 hx114_2 hx114_3 hx114_4 hx114_5 hx114_6 hx114_7 hx114_8 hx114_9 hx114_10 hx114_11 hx114_12 hx114_13)
            (try clear hx114_0 hx114_1 hx114_2 hx114_3 hx114_4 hx114_5 hx114_6 hx114_7 hx114_8 hx114_9 hx114_10 hx114_11 hx114_12 hx114_13)
            (try clear hx119_0 hx119_1 hx119_2 hx119_3 hx119_4 hx119_5 hx119_6 hx119_7 hx119_8 hx119_9 hx119_10 hx119_11 hx119_12 hx119_13)
            (try clear hx119_0 hx119_1 hx119_2 hx119_3 hx119_4 hx119_5 hx119_6 hx119_7 hx119_8 hx119_9 hx119_10 hx119_11 hx119_12 hx119_13)
            (try clear hx119_0 hx119_1 hx119_2 hx119_3 hx119_4 hx119_5 hx119_6 hx119_7 hx119_8 hx119_9 hx119_10 hx119_11 hx119_12 hx119_13)
            (try clear hx119_0 hx119_1 hx119_2 hx119_3 hx119_4 hx119_5 hx119_6 hx119_7 hx119_8 hx119_9 hx119_10 hx119_11 hx119_12 hx119_13)
            go_wp2
            go_meet
            case rel => exact ⟨_, ((((rd_T33 l0 0).f8) != 0)), vl_, H', ⟨by have := HJ1.out; have := HJ13.out; first | omega | exact Nat.le_refl _⟩, dr_⟩
          ·
           rw [if_neg c22] at H
           have c22b0 : (((rd_T33 l0 0).f1) == 6) = false := beq_eq_false_iff_ne.mpr c22
           have c22b1 : (((rd_T33 l0 0).f1) != 6) = true := bne_iff_ne.mpr c22
           by_cases c24 : ((rd_T33 l0 0).f6) = 0
           ·
            rw [if_pos c24] at H
            have c24b0 : (((rd_T33 l0 0).f6) == 0) = true := beq_iff_eq.mpr c24
            have c24b1 : (((rd_T33 l0 0).f6) != 0) = false := bne_eq_false_iff_eq.mpr c24
            clear c24
            by_cases c25 : (((rd_T33 l0 0).f7).length : Int) > 0
            ·
             rw [if_pos c25] at H
             have c25b0 : decide (0 < (((rd_T33 l0 0).f7).length : Int)) = true := decide_eq_true c25
             have c25b1 : decide (0 < ((rd_T33 l0 0).f7).length) = true := decide_eq_true (by omega)
             clear c25
             have H' := Aside0.mk H
             clear H
             (try clear hx114_0 hx114_1 hx114_2 hx114_3 hx114_4 hx114_5 hx114_6 hx114_7 hx114_8 hx114_9 hx114_10 hx114_11 hx114_12 hx114_13)
             (try clear hx114_0 hx114_1 hx114_2 hx114_3 hx114_4 hx114_5 hx114_6 hx114_7 hx114_8 hx114_9 hx114_10 hx114_11 hx114_12 hx114_13)
             (try clear hx114_0 hx114_1 hx114_2 hx114_3 hx114_4 hx114_5 hx114_6 hx114_7 hx114_8 hx114_9 hx114_10 hx114_11 hx114_12 hx114_13)
             (try clear hx114_0 hx114_1 hx114_2 hx114_3 hx114_4 hx114_5 hx114_6 hx114_7 hx114_8 hx114_9 hx114_10 hx114_11 hx114_12 hx114_13)
             (try clear hx114_0 hx114_1 hx114_2 hx114_3 hx114_4 hx114_5 hx114_6 hx114_7 hx114_8 hx114_9 hx114_10 hx114_11 hx114_12 hx114_13)
             (try clear hx114_0 hx114_1 hx114_2 hx114_3 hx114_4 hx114_5 hx114_6 hx114_7 hx114_8 hx114_9 hx114_10 hx114_11 hx114_12 hx114_13)
             (try clear hx119_0 hx119_1 hx119_2 hx119_3 hx119_4 hx119_5 hx119_6 hx119_7 hx119_8 hx119_9 hx119_10 hx119_11 hx119_12 hx119_13)
             (try clear hx119_0 hx119_1 hx119_2 hx119_3 hx119_4 hx119_5 hx119_6 hx119_7 hx119_8 hx119_9 hx119_10 hx119_11 hx119_12 hx119_13)
             (try clear hx119_0 hx119_1 hx119_2 hx119_3 hx119_4 hx119_5 hx119_6 hx119_7 hx119_8 hx119_9 hx119_10 hx119_11 hx119_12 hx119_13)
             (try clear hx119_0 hx119_1 hx119_2 hx119_3 hx119_4 hx119_5 hx119_6 hx119_7 hx119_8 hx119_9 hx119_10 hx119_11 hx119_12 hx119_13)
             go_wp2
             go_meet
             case rel => exact ⟨_, (true), vl_, H', ⟨by have := HJ1.out; have := HJ13.out; first | omega | exact Nat.le_refl _⟩, dr_⟩
            ·
             rw [if_neg c25] at H
             have c25b0 : decide (0 < (((rd_T33 l0 0).f7).length : Int)) = false := decide_eq_false c25
             have c25b1 : decide (0 < ((rd_T33 l0 0).f7).length) = false := decide_eq_false (by omega)
             clear c25
             by_cases c26 : ((rd_T33 l0 0).f1) = 11
             ·
              rw [if_pos c26] at H
              have c26b0 : (((rd_T33 l0 0).f1) == 11) = true := beq_iff_eq.mpr c26
              have c26b1 : (((rd_T33 l0 0).f1) != 11) = false := bne_eq_false_iff_eq.mpr c26
              clear c26
              have H' := Aside0.mk H
              clear H
              (try clear hx114_0 hx114_1 hx114_2 hx114_3 hx114_4 hx114_5 hx114_6 hx114_7 hx114_8 hx114_9 hx114_10 hx114_11 hx114_12 hx114_13)
              (try clear hx114_0 hx114_1 hx114_2 hx114_3 hx114_4 hx114_5 hx114_6 hx114_7 hx114_8 hx114_9 hx114_10 hx114_11 hx114_12 hx114_13)
              (try clear hx114_0 hx114_1 hx114_2 hx114_3 hx114_4 hx114_5 hx114_6 hx114_7 hx114_8 hx114_9 hx114_10 hx114_11 hx114_12 hx114_13)
              (try clear hx114_0 hx114_1 hx114_2 hx114_3 hx114_4 hx114_5 hx114_6 hx114_7 hx114_8 hx114_9 hx114_10 hx114_11 hx114_12 hx114_13)
              (try clear hx114_0 hx114_1 hx114_2 hx114_3 hx114_4 hx114_5 hx114_6 hx114_7 hx114_8 hx114_9 hx114_10 hx114_11 hx114_12 hx114_13)
              (try clear hx114_0 hx114_1 hx114_2 hx114_3 hx114_4 hx114_5 hx114_6 hx114_7 hx114_8 hx114_9 hx114_10 hx114_11 hx114_12 hx114_13)
              (try clear hx119_0 hx119_1 hx119_2 hx119_3 hx119_4 hx119_5 hx119_6 hx119_7 hx119_8 hx119_9 hx119_10 hx119_11 hx119_12 hx119_13)
              (try clear hx119_0 hx119_1 hx119_2 hx119_3 hx119_4 hx119_5 hx119_6 hx119_7 hx119_8 hx119_9 hx119_10 hx119_11 hx119_12 hx119_13)
              (try clear hx119_0 hx119_1 hx119_2 hx119_3 hx119_4 hx119_5 hx119_6 hx119_7 hx119_8 hx119_9 hx119_10 hx119_11 hx119_12 hx119_13)
              (try clear hx119_0 hx119_1 hx119_2 hx119_3 hx119_4 hx119_5 hx119_6 hx119_7 hx119_8 hx119_9 hx119_10 hx119_11 hx119_12 hx119_13)
              go_wp2
              go_meet
              case rel => exact ⟨_, (false), vl_, H', ⟨by have := HJ1.out; have := HJ13.out; first | omega | exact Nat.le_refl _⟩, dr_⟩
             ·
              rw [if_neg c26] at H
              have c26b0 : (((rd_T33 l0 0).f1) == 11) = false := beq_eq_false_iff_ne.mpr c26
              have c26b1 : (((rd_T33 l0 0).f1) != 11) = true := bne_iff_ne.mpr c26
              have H' := Aside0.mk H
              clear H
              (try clear hx114_0 hx114_1 hx114_2 hx114_3 hx114_4 hx114_5 hx114_6 hx114_7 hx114_8 hx114_9 hx114_10 hx114_11 hx114_12 hx114_13)
              (try clear hx114_0 hx114_1 hx114_2 hx114_3 hx114_4 hx114_5 hx114_6 hx114_7 hx114_8 hx114_9 hx114_10 hx114_11 hx114_12 hx114_13)
              (try clear hx114_0 hx114_1 hx114_2 hx114_3 hx114_4 hx114_5 hx114_6 hx114_7 hx114_8 hx114_9 hx114_10 hx114_11 hx114_12 hx114_13)
              (try clear hx114_0 hx114_1 hx114_2 hx114_3 hx114_4 hx114_5 hx114_6 hx114_7 hx114_8 hx114_9 hx114_10 hx114_11 hx114_12 hx114_13)
              (try clear hx114_0 hx114_1 hx114_2 hx114_3 hx114_4 hx114_5 hx114_6 hx114_7 hx114_8 hx114_9 hx114_10 hx114_11 hx114_12 hx114_13)
              (try clear hx114_0 hx114_1 hx114_2 hx114_3 hx114_4 hx114_5 hx114_6 hx114_7 hx114_8 hx114_9 hx114_10 hx114_11 hx114_12 hx114_13)
              (try clear hx119_0 hx119_1 hx119_2 hx119_3 hx119_4 hx119_5 hx119_6 hx119_7 hx119_8 hx119_9 hx119_10 hx119_11 hx119_12 hx119_13)
              (try clear hx119_0 hx119_1 hx119_2 hx119_3 hx119_4 hx119_5 hx119_6 hx119_7 hx119_8 hx119_9 hx119_10 hx119_11 hx119_12 hx119_13)
              (try clear hx119_0 hx119_1 hx119_2 hx119_3 hx119_4 hx119_5 hx119_6 hx119_7 hx119_8 hx119_9 hx119_10 hx119_11 hx119_12 hx119_13)
              (try clear hx119_0 hx119_1 hx119_2 hx119_3 hx119_4 hx119_5 hx119_6 hx119_7 hx119_8 hx119_9 hx119_10 hx119_11 hx119_12 hx119_13)
              go_wp2
              go_meet
              case rel => exact ⟨_, ((((rd_T33 l0 0).f8) != 0)), vl_, H', ⟨by have := HJ1.out; have := HJ13.out; first | omega | exact Nat.le_refl _⟩, dr_⟩
           ·
            rw [if_neg c24] at H
            have c24b0 : (((rd_T33 l0 0).f6) == 0) = false := beq_eq_false_iff_ne.mpr c24
            have c24b1 : (((rd_T33 l0 0).f6) != 0) = true := bne_iff_ne.mpr c24
            have H' := Aside0.mk H
            clear H
            (try clear hx114_0 hx114_1 hx114_2 hx114_3 hx114_4 hx114_5 hx114_6 hx114_7 hx114_8 hx114_9 hx114_10 hx114_11 hx114_12 hx114_13)
            (try clear hx114_0 hx114_1 hx114_2 hx114_3 hx114_4 hx114_5 hx114_6 hx114_7 hx114_8 hx114_9 hx114_10 hx114_11 hx114_12 hx114_13)
            (try clear hx114_0 hx114_1 hx114_2 hx114_3 hx114_4 hx114_5 hx114_6 hx114_7 hx114_8 hx114_9 hx114_10 hx114_11 hx114_12 hx114_13)
            (try clear hx114_0 hx114_1 hx114_2 hx114_3 hx114_4 hx114_5 hx114_6 hx114_7 hx114_8 hx114_9 hx114_10 hx114_11 hx114_12 hx114_13)
            (try clear hx114_0 hx114_1 hx114_2 hx114_3 hx114_4 hx114_5 hx114_6 hx114_7 hx114_8 hx114_9 hx114_10 hx114_11 hx114_12 hx114_13)
            (try clear hx114_0 hx114_1 hx114_2 hx114_3 hx114_4 hx114_5 hx114_6 hx114_7 hx114_8 hx114_9 hx114_10 hx114_11 hx114_12 hx114_13)
            (try clear hx119_0 hx119_1 hx119_2 hx119_3 hx119_4 hx119_5 hx119_6 hx119_7 hx119_8 hx119_9 hx119_10 hx119_11 hx119_12 hx119_13)
            (try clear hx119_0 hx119_1 hx119_2 hx119_3 hx119_4 hx119_5 hx119_6 hx119_7 hx119_8 hx119_9 hx119_10 hx119_11 hx119_12 hx119_13)
            (try clear hx119_0 hx119_1 hx119_2 hx119_3 hx119_4 hx119_5 hx119_6 hx119_7 hx119_8 hx119_9 hx119_10 hx119_11 hx119_12 hx119_13)
            (try clear hx119_0 hx119_1 hx119_2 hx119_3 hx119_4 hx119_5 hx119_6 hx119_7 hx119_8 hx119_9 hx119_10 hx119_11 hx119_12 hx119_13)
            go_wp2
            go_meet
            case rel => exact ⟨_, (true), vl_, H', ⟨by have := HJ1.out; have := HJ13.out; first | omega | exact Nat.le_refl _⟩, dr_⟩
         case rest =>
          clear HC20
          try clear q1
          try clear hx1
          try clear qi1
          try clear q11
          try clear hx11
          try clear qi11
          try clear q12
          try clear hx12
          try clear qi12
          try clear c13
          try clear c19
          try clear hx114_0
          try clear hx114_1
          try clear hx114_10
          try clear hx114_11
          try clear hx114_12
          try clear hx114_13
          try clear hx114_2
          try clear hx114_3
          try clear hx114_4
          try clear hx114_5
          try clear hx114_6
          try clear hx114_7
          try clear hx114_8
          try clear hx114_9
          try clear hx119_0
          try clear hx119_1
          try clear hx119_10
          try clear hx119_11
          try clear hx119_12
          try clear hx119_13
          try clear hx119_2
          try clear hx119_3
          try clear hx119_4
          try clear hx119_5
          try clear hx119_6
          try clear hx119_7
          try clear hx119_8
          try clear hx119_9
          try clear hx120_0
          try clear hx120_1
          try clear hx120_10
          try clear hx120_11
          try clear hx120_12
          try clear hx120_13
          try clear hx120_2
          try clear hx120_3
          try clear hx120_4
          try clear hx120_5
          try clear hx120_6
          try clear hx120_7
          try clear hx120_8
          try clear hx120_9
          try clear q1
          try clear q11
          try clear q114
          try clear q119
          try clear q120
          obtain ⟨kq, x99_19, rfl, HA, HJ19, ⟨mc19, rfl⟩⟩ := hcut
          cases kq with
          | zero => exact absurd HA.out (by simp [spec_l14Form.j2])
          | succ kj19 =>
            have H := HA.out
            clear HA
            simp only [spec_l14Form.j2] at H
            as_aux_lemma =>
            by_cases c27 : x99_19 = true
            ·
             subst c27
             (try rw [if_pos rfl] at H)
             obtain rfl := Option.some.inj H
             go_wp2
             go_ret
             exact ⟨vl_, dr_⟩
            ·
             replace c27 := Bool.eq_false_iff.mpr c27
             subst c27
             (try rw [if_neg (show ¬ (false = true) by decide)] at H)
             by_cases c28 : 0 < (l0.length : Int)
             ·
              rw [if_pos c28] at H
              have c28b0 : decide (0 < (l0.length : Int)) = true := decide_eq_true c28
              have c28b1 : decide (0 < l0.length) = true := decide_eq_true (by omega)
              clear c28
              replace H := Option.bind_eq_some_iff.mp H
              obtain ⟨t122, A290, H⟩ := H
              (try dsimp only at H)
              have A29 := Aside0.mk A290
              clear A290
              as_aux_lemma =>
              by_cases c30 : t122 = true
              ·
               subst c30
               (try rw [if_pos rfl] at H)
               by_cases c31 : ((rd_T33 l0 0).f1) = 13
               ·
                rw [if_pos c31] at H
                have c31b0 : (((rd_T33 l0 0).f1) == 13) = true := beq_iff_eq.mpr c31
                have c31b1 : (((rd_T33 l0 0).f1) != 13) = false := bne_eq_false_iff_eq.mpr c31
                clear c31
                replace H := Option.bind_eq_some_iff.mp H
                obtain ⟨t124, A320, H⟩ := H
                (try dsimp only at H)
                have A32 := Aside0.mk A320
                clear A320
                have p121 : 0 ≤ (0 : Int) := (by omega)
                have q121 : 0 < (l0.length : Int) := od_
                obtain ⟨ad121, A121_3, c121_3, A121_7, c121_7, A121_9, c121_9, A121_12, c121_12, e121, hx121_0, hx121_1, hx121_2, hx121_3, hx121_4, hx121_5, hx121_6, hx121_7, hx121_8, hx121_9, hx121_10, hx121_11, hx121_12, hx121_13, hl121_3, hi121_3, hl121_7, hi121_7, hl121_9, hi121_9, hl121_12, hi121_12⟩ := at_T33 HR0.out 0 p121 q121
                cases e121
                have qi121 : (0 < l0.length) = True := eq_true (by omega)
                (try simp only [Int.toNat_zero, Nat.zero_mul, Addr.add_zero'] at hx121_0 hx121_1 hx121_2 hx121_3 hx121_4 hx121_5 hx121_6 hx121_7 hx121_8 hx121_9 hx121_10 hx121_11 hx121_12 hx121_13)
                have HR121_3 := Aside0.mk hi121_3
                have HC121_3 := Aside0.mk hl121_3
                clear hi121_3 hl121_3
                have HR121_7 := Aside0.mk hi121_7
                have HC121_7 := Aside0.mk hl121_7
                clear hi121_7 hl121_7
                have HR121_9 := Aside0.mk hi121_9
                have HC121_9 := Aside0.mk hl121_9
                clear hi121_9 hl121_9
                have HR121_12 := Aside0.mk hi121_12
                have HC121_12 := Aside0.mk hl121_12
                clear hi121_12 hl121_12
                replace p121 := eq_true p121
                replace q121 := eq_true q121
                by_cases c33 : t124 = true
                ·
                 subst c33
                 (try rw [if_pos rfl] at H)
                 by_cases c34 : ((rd_T33 l0 0).f1) = 14
                 ·
                  rw [if_pos c34] at H
                  have c34b0 : (((rd_T33 l0 0).f1) == 14) = true := beq_iff_eq.mpr c34
                  have c34b1 : (((rd_T33 l0 0).f1) != 14) = false := bne_eq_false_iff_eq.mpr c34
                  clear c34
                  obtain rfl := Option.some.inj H
                  (try clear hx114_0 hx114_1 hx114_2 hx114_3 hx114_4 hx114_5 hx114_6 hx114_7 hx114_8 hx114_9 hx114_10 hx114_11 hx114_12 hx114_13)
                  (try clear hx114_0 hx114_1 hx114_2 hx114_3 hx114_4 hx114_5 hx114_6 hx114_7 hx114_8 hx114_9 hx114_10 hx114_11 hx114_12 hx114_13)
                  (try clear hx114_0 hx114_1 hx114_2 hx114_3 hx114_4 hx114_5 hx114_6 hx114_7 hx114_8 hx114_9 hx114_10 hx114_11 hx114_12 hx114_13)
                  (try clear hx114_0 hx114_1 hx114_2 hx114_3 hx114_4 hx114_5 hx114_6 hx114_7 hx114_8 hx114_9 hx114_10 hx114_11 hx114_12 hx114_13)
                  (try clear hx114_0 hx114_1 hx114_2 hx114_3 hx114_4 hx114_5 hx114_6 hx114_7 hx114_8 hx114_9 hx114_10 hx114_11 hx114_12 hx114_13)
                  (try clear hx114_0 hx114_1 hx114_2 hx114_3 hx114_4 hx114_5 hx114_6 hx114_7 hx114_8 hx114_9 hx114_10 hx114_11 hx114_12 hx114_13)
                  (try clear hx119_0 hx119_1 hx119_2 hx119_3 hx119_4 hx119_5 hx119_6 hx119_7 hx119_8 hx119_9 hx119_10 hx119_11 hx119_12 hx119_13)
                  (try clear hx119_0 hx119_1 hx119_2 hx119_3 hx119_4 hx119_5 hx119_6 hx119_7 hx119_8 hx119_9 hx119_10 hx119_11 hx119_12 hx119_13)
                  (try clear hx119_0 hx119_1 hx119_2 hx119_3 hx119_4 hx119_5 hx119_6 hx119_7 hx119_8 hx119_9 hx119_10 hx119_11 hx119_12 hx119_13)
                  (try clear hx119_0 hx119_1 hx119_2 hx119_3 hx119_4 hx119_5 hx119_6 hx119_7 hx119_8 hx119_9 hx119_10 hx119_11 hx119_12 hx119_13)
                  (try clear hx120_0 hx120_1 hx120_2 hx120_3 hx120_4 hx120_5 hx120_6 hx120_7 hx120_8 hx120_9 hx120_10 hx120_11 hx120_12 hx120_13)
                  (try clear hx120_0 hx120_1 hx120_2 hx120_3 hx120_4 hx120_5 hx120_6 hx120_7 hx120_8 hx120_9 hx120_10 hx120_11 hx120_12 hx120_13)
                  (try clear hx120_0 hx120_1 hx120_2 hx120_3 hx120_4 hx120_5 hx120_6 hx120_7 hx120_8 hx120_9 hx120_10 hx120_11 hx120_12 hx120_13)
                  (try clear hx120_0 hx120_1 hx120_2 hx120_3 hx120_4 hx120_5 hx120_6 hx120_7 hx120_8 hx120_9 hx120_10 hx120_11 hx120_12 hx120_13)
                  (try clear hx120_0 hx120_1 hx120_2 hx120_3 hx120_4 hx120_5 hx120_6 hx120_7 hx120_8 hx120_9 hx120_10 hx120_11 hx120_12 hx120_13)
                  (try clear hx120_0 hx120_1 hx120_2 hx120_3 hx120_4 hx120_5 hx120_6 hx120_7 hx120_8 hx120_9 hx120_10 hx120_11 hx120_12 hx120_13)
                  go_wp2_with (first | ((with_reducible refine gate_callee (f := 120) rfl ?_); refine goesY_ (some 104) Try.func120 #[.int .i64 ((rd_T33 l0 0).f8)] rfl ?_; (with_reducible refine (spec_l14Pathed.calls ((rd_T33 l0 0).f8) true _ A29.out).mono ?_); rintro e w' ⟨rfl, ⟨nd, rfl⟩⟩; refine ⟨_, rfl, ?_⟩) | ((with_reducible refine gate_callee (f := 75) rfl ?_); refine goesY_ (some 138) Try.func75 #[.int .i64 ((rd_T33 l0 0).f1)] rfl ?_; (with_reducible refine (spec_l14Termed.calls ((rd_T33 l0 0).f1) true _ A32.out).mono ?_); rintro e w' ⟨rfl, ⟨nd, rfl⟩⟩; refine ⟨_, rfl, ?_⟩))
                  go_ret
                  exact ⟨vl_, dr_⟩
                 ·
                  rw [if_neg c34] at H
                  have c34b0 : (((rd_T33 l0 0).f1) == 14) = false := beq_eq_false_iff_ne.mpr c34
                  have c34b1 : (((rd_T33 l0 0).f1) != 14) = true := bne_iff_ne.mpr c34
                  obtain rfl := Option.some.inj H
                  (try clear hx114_0 hx114_1 hx114_2 hx114_3 hx114_4 hx114_5 hx114_6 hx114_7 hx114_8 hx114_9 hx114_10 hx114_11 hx114_12 hx114_13)
                  (try clear hx114_0 hx114_1 hx114_2 hx114_3 hx114_4 hx114_5 hx114_6 hx114_7 hx114_8 hx114_9 hx114_10 hx114_11 hx114_12 hx114_13)
                  (try clear hx114_0 hx114_1 hx114_2 hx114_3 hx114_4 hx114_5 hx114_6 hx114_7 hx114_8 hx114_9 hx114_10 hx114_11 hx114_12 hx114_13)
                  (try clear hx114_0 hx114_1 hx114_2 hx114_3 hx114_4 hx114_5 hx114_6 hx114_7 hx114_8 hx114_9 hx114_10 hx114_11 hx114_12 hx114_13)
                  (try clear hx114_0 hx114_1 hx114_2 hx114_3 hx114_4 hx114_5 hx114_6 hx114_7 hx114_8 hx114_9 hx114_10 hx114_11 hx114_12 hx114_13)
                  (try clear hx119_0 hx119_1 hx119_2 hx119_3 hx119_4 hx119_5 hx119_6 hx119_7 hx119_8 hx119_9 hx119_10 hx119_11 hx119_12 hx119_13)
                  (try clear hx119_0 hx119_1 hx119_2 hx119_3 hx119_4 hx119_5 hx119_6 hx119_7 hx119_8 hx119_9 hx119_10 hx119_11 hx119_12 hx119_13)
                  (try clear hx119_0 hx119_1 hx119_2 hx119_3 hx119_4 hx119_5 hx119_6 hx119_7 hx119_8 hx119_9 hx119_10 hx119_11 hx119_12 hx119_13)
                  (try clear hx119_0 hx119_1 hx119_2 hx119_3 hx119_4 hx119_5 hx119_6 hx119_7 hx119_8 hx119_9 hx119_10 hx119_11 hx119_12 hx119_13)
                  (try clear hx120_0 hx120_1 hx120_2 hx120_3 hx120_4 hx120_5 hx120_6 hx120_7 hx120_8 hx120_9 hx120_10 hx120_11 hx120_12 hx120_13)
                  (try clear hx120_0 hx120_1 hx120_2 hx120_3 hx120_4 hx120_5 hx120_6 hx120_7 hx120_8 hx120_9 hx120_10 hx120_11 hx120_12 hx120_13)
                  (try clear hx120_0 hx120_1 hx120_2 hx120_3 hx120_4 hx120_5 hx120_6 hx120_7 hx120_8 hx120_9 hx120_10 hx120_11 hx120_12 hx120_13)
                  (try clear hx120_0 hx120_1 hx120_2 hx120_3 hx120_4 hx120_5 hx120_6 hx120_7 hx120_8 hx120_9 hx120_10 hx120_11 hx120_12 hx120_13)
                  (try clear hx120_0 hx120_1 hx120_2 hx120_3 hx120_4 hx120_5 hx120_6 hx120_7 hx120_8 hx120_9 hx120_10 hx120_11 hx120_12 hx120_13)
                  (try clear hx120_0 hx120_1 hx120_2 hx120_3 hx120_4 hx120_5 hx120_6 hx120_7 hx120_8 hx120_9 hx120_10 hx120_11 hx120_12 hx120_13)
                  go_wp2_with (first | ((with_reducible refine gate_callee (f := 120) rfl ?_); refine goesY_ (some 104) Try.func120 #[.int .i64 ((rd_T33 l0 0).f8)] rfl ?_; (with_reducible refine (spec_l14Pathed.calls ((rd_T33 l0 0).f8) true _ A29.out).mono ?_); rintro e w' ⟨rfl, ⟨nd, rfl⟩⟩; refine ⟨_, rfl, ?_⟩) | ((with_reducible refine gate_callee (f := 75) rfl ?_); refine goesY_ (some 138) Try.func75 #[.int .i64 ((rd_T33 l0 0).f1)] rfl ?_; (with_reducible refine (spec_l14Termed.calls ((rd_T33 l0 0).f1) true _ A32.out).mono ?_); rintro e w' ⟨rfl, ⟨nd, rfl⟩⟩; refine ⟨_, rfl, ?_⟩))
                  go_ret
                  exact ⟨vl_, dr_⟩
                ·
                 replace c33 := Bool.eq_false_iff.mpr c33
                 subst c33
                 (try rw [if_neg (show ¬ (false = true) by decide)] at H)
                 by_cases c35 : (((rd_T33 l0 0).f12).length : Int) = 0
                 ·
                  rw [if_pos c35] at H
                  have c35b0 : ((((rd_T33 l0 0).f12).length : Int) == 0) = true := beq_iff_eq.mpr c35
                  have c35b1 : ((((rd_T33 l0 0).f12).length : Int) != 0) = false := bne_eq_false_iff_eq.mpr c35
                  clear c35
                  by_cases c36 : ((rd_T33 l0 0).f1) = 14
                  ·
                   rw [if_pos c36] at H
                   have c36b0 : (((rd_T33 l0 0).f1) == 14) = true := beq_iff_eq.mpr c36
                   have c36b1 : (((rd_T33 l0 0).f1) != 14) = false := bne_eq_false_iff_eq.mpr c36
                   clear c36
                   obtain rfl := Option.some.inj H
                   (try clear hx114_0 hx114_1 hx114_2 hx114_3 hx114_4 hx114_5 hx114_6 hx114_7 hx114_8 hx114_9 hx114_10 hx114_11 hx114_12 hx114_13)
                   (try clear hx114_0 hx114_1 hx114_2 hx114_3 hx114_4 hx114_5 hx114_6 hx114_7 hx114_8 hx114_9 hx114_10 hx114_11 hx114_12 hx114_13)
                   (try clear hx114_0 hx114_1 hx114_2 hx114_3 hx114_4 hx114_5 hx114_6 hx114_7 hx114_8 hx114_9 hx114_10 hx114_11 hx114_12 hx114_13)
                   (try clear hx114_0 hx114_1 hx114_2 hx114_3 hx114_4 hx114_5 hx114_6 hx114_7 hx114_8 hx114_9 hx114_10 hx114_11 hx114_12 hx114_13)
                   (try clear hx119_0 hx119_1 hx119_2 hx119_3 hx119_4 hx119_5 hx119_6 hx119_7 hx119_8 hx119_9 hx119_10 hx119_11 hx119_12 hx119_13)
                   (try clear hx119_0 hx119_1 hx119_2 hx119_3 hx119_4 hx119_5 hx119_6 hx119_7 hx119_8 hx119_9 hx119_10 hx119_11 hx119_12 hx119_13)
                   (try clear hx119_0 hx119_1 hx119_2 hx119_3 hx119_4 hx119_5 hx119_6 hx119_7 hx119_8 hx119_9 hx119_10 hx119_11 hx119_12 hx119_13)
                   (try clear hx119_0 hx119_1 hx119_2 hx119_3 hx119_4 hx119_5 hx119_6 hx119_7 hx119_8 hx119_9 hx119_10 hx119_11 hx119_12 hx119_13)
                   (try clear hx120_0 hx120_1 hx120_2 hx120_3 hx120_4 hx120_5 hx120_6 hx120_7 hx120_8 hx120_9 hx120_10 hx120_11 hx120_12 hx120_13)
                   (try clear hx120_0 hx120_1 hx120_2 hx120_3 hx120_4 hx120_5 hx120_6 hx120_7 hx120_8 hx120_9 hx120_10 hx120_11 hx120_12 hx120_13)
                   (try clear hx120_0 hx120_1 hx120_2 hx120_3 hx120_4 hx120_5 hx120_6 hx120_7 hx120_8 hx120_9 hx120_10 hx120_11 hx120_12 hx120_13)
                   (try clear hx120_0 hx120_1 hx120_2 hx120_3 hx120_4 hx120_5 hx120_6 hx120_7 hx120_8 hx120_9 hx120_10 hx120_11 hx120_12 hx120_13)
                   (try clear hx120_0 hx120_1 hx120_2 hx120_3 hx120_4 hx120_5 hx120_6 hx120_7 hx120_8 hx120_9 hx120_10 hx120_11 hx120_12 hx120_13)
                   (try clear hx120_0 hx120_1 hx120_2 hx120_3 hx120_4 hx120_5 hx120_6 hx120_7 hx120_8 hx120_9 hx120_10 hx120_11 hx120_12 hx120_13)
                   go_wp2_with (first | ((with_reducible refine gate_callee (f := 120) rfl ?_); refine goesY_ (some 104) Try.func120 #[.int .i64 ((rd_T33 l0 0).f8)] rfl ?_; (with_reducible refine (spec_l14Pathed.calls ((rd_T33 l0 0).f8) true _ A29.out).mono ?_); rintro e w' ⟨rfl, ⟨nd, rfl⟩⟩; refine ⟨_, rfl, ?_⟩) | ((with_reducible refine gate_callee (f := 75) rfl ?_); refine goesY_ (some 138) Try.func75 #[.int .i64 ((rd_T33 l0 0).f1)] rfl ?_; (with_reducible refine (spec_l14Termed.calls ((rd_T33 l0 0).f1) false _ A32.out).mono ?_); rintro e w' ⟨rfl, ⟨nd, rfl⟩⟩; refine ⟨_, rfl, ?_⟩))
                   go_ret
                   exact ⟨vl_, dr_⟩
                  ·
                   rw [if_neg c36] at H
                   have c36b0 : (((rd_T33 l0 0).f1) == 14) = false := beq_eq_false_iff_ne.mpr c36
                   have c36b1 : (((rd_T33 l0 0).f1) != 14) = true := bne_iff_ne.mpr c36
                   obtain rfl := Option.some.inj H
                   (try clear hx114_0 hx114_1 hx114_2 hx114_3 hx114_4 hx114_5 hx114_6 hx114_7 hx114_8 hx114_9 hx114_10 hx114_11 hx114_12 hx114_13)
                   (try clear hx114_0 hx114_1 hx114_2 hx114_3 hx114_4 hx114_5 hx114_6 hx114_7 hx114_8 hx114_9 hx114_10 hx114_11 hx114_12 hx114_13)
                   (try clear hx114_0 hx114_1 hx114_2 hx114_3 hx114_4 hx114_5 hx114_6 hx114_7 hx114_8 hx114_9 hx114_10 hx114_11 hx114_12 hx114_13)
                   (try clear hx119_0 hx119_1 hx119_2 hx119_3 hx119_4 hx119_5 hx119_6 hx119_7 hx119_8 hx119_9 hx119_10 hx119_11 hx119_12 hx119_13)
                   (try clear hx119_0 hx119_1 hx119_2 hx119_3 hx119_4 hx119_5 hx119_6 hx119_7 hx119_8 hx119_9 hx119_10 hx119_11 hx119_12 hx119_13)
                   (try clear hx119_0 hx119_1 hx119_2 hx119_3 hx119_4 hx119_5 hx119_6 hx119_7 hx119_8 hx119_9 hx119_10 hx119_11 hx119_12 hx119_13)
                   (try clear hx119_0 hx119_1 hx119_2 hx119_3 hx119_4 hx119_5 hx119_6 hx119_7 hx119_8 hx119_9 hx119_10 hx119_11 hx119_12 hx119_13)
                   (try clear hx120_0 hx120_1 hx120_2 hx120_3 hx120_4 hx120_5 hx120_6 hx120_7 hx120_8 hx120_9 hx120_10 hx120_11 hx120_12 hx120_13)
                   (try clear hx120_0 hx120_1 hx120_2 hx120_3 hx120_4 hx120_5 hx120_6 hx120_7 hx120_8 hx120_9 hx120_10 hx120_11 hx120_12 hx120_13)
                   (try clear hx120_0 hx120_1 hx120_2 hx120_3 hx120_4 hx120_5 hx120_6 hx120_7 hx120_8 hx120_9 hx120_10 hx120_11 hx120_12 hx120_13)
                   (try clear hx120_0 hx120_1 hx120_2 hx120_3 hx120_4 hx120_5 hx120_6 hx120_7 hx120_8 hx120_9 hx120_10 hx120_11 hx120_12 hx120_13)
                   (try clear hx120_0 hx120_1 hx120_2 hx120_3 hx120_4 hx120_5 hx120_6 hx120_7 hx120_8 hx120_9 hx120_10 hx120_11 hx120_12 hx120_13)
                   (try clear hx120_0 hx120_1 hx120_2 hx120_3 hx120_4 hx120_5 hx120_6 hx120_7 hx120_8 hx120_9 hx120_10 hx120_11 hx120_12 hx120_13)
                   go_wp2_with (first | ((with_reducible refine gate_callee (f := 120) rfl ?_); refine goesY_ (some 104) Try.func120 #[.int .i64 ((rd_T33 l0 0).f8)] rfl ?_; (with_reducible refine (spec_l14Pathed.calls ((rd_T33 l0 0).f8) true _ A29.out).mono ?_); rintro e w' ⟨rfl, ⟨nd, rfl⟩⟩; refine ⟨_, rfl, ?_⟩) | ((with_reducible refine gate_callee (f := 75) rfl ?_); refine goesY_ (some 138) Try.func75 #[.int .i64 ((rd_T33 l0 0).f1)] rfl ?_; (with_reducible refine (spec_l14Termed.calls ((rd_T33 l0 0).f1) false _ A32.out).mono ?_); rintro e w' ⟨rfl, ⟨nd, rfl⟩⟩; refine ⟨_, rfl, ?_⟩))
                   go_ret
                   exact ⟨vl_, dr_⟩
                 ·
                  rw [if_neg c35] at H
                  have c35b0 : ((((rd_T33 l0 0).f12).length : Int) == 0) = false := beq_eq_false_iff_ne.mpr c35
                  have c35b1 : ((((rd_T33 l0 0).f12).length : Int) != 0) = true := bne_iff_ne.mpr c35
                  have c35b2 : ¬ (((rd_T33 l0 0).f12) = []) := fun h_ => c35 (by rw [h_]; rfl)
                  obtain rfl := Option.some.inj H
                  (try clear hx114_0 hx114_1 hx114_2 hx114_3 hx114_4 hx114_5 hx114_6 hx114_7 hx114_8 hx114_9 hx114_10 hx114_11 hx114_12 hx114_13)
                  (try clear hx114_0 hx114_1 hx114_2 hx114_3 hx114_4 hx114_5 hx114_6 hx114_7 hx114_8 hx114_9 hx114_10 hx114_11 hx114_12 hx114_13)
                  (try clear hx119_0 hx119_1 hx119_2 hx119_3 hx119_4 hx119_5 hx119_6 hx119_7 hx119_8 hx119_9 hx119_10 hx119_11 hx119_12 hx119_13)
                  (try clear hx119_0 hx119_1 hx119_2 hx119_3 hx119_4 hx119_5 hx119_6 hx119_7 hx119_8 hx119_9 hx119_10 hx119_11 hx119_12 hx119_13)
                  (try clear hx119_0 hx119_1 hx119_2 hx119_3 hx119_4 hx119_5 hx119_6 hx119_7 hx119_8 hx119_9 hx119_10 hx119_11 hx119_12 hx119_13)
                  (try clear hx119_0 hx119_1 hx119_2 hx119_3 hx119_4 hx119_5 hx119_6 hx119_7 hx119_8 hx119_9 hx119_10 hx119_11 hx119_12 hx119_13)
                  (try clear hx120_0 hx120_1 hx120_2 hx120_3 hx120_4 hx120_5 hx120_6 hx120_7 hx120_8 hx120_9 hx120_10 hx120_11 hx120_12 hx120_13)
                  (try clear hx120_0 hx120_1 hx120_2 hx120_3 hx120_4 hx120_5 hx120_6 hx120_7 hx120_8 hx120_9 hx120_10 hx120_11 hx120_12 hx120_13)
                  (try clear hx120_0 hx120_1 hx120_2 hx120_3 hx120_4 hx120_5 hx120_6 hx120_7 hx120_8 hx120_9 hx120_10 hx120_11 hx120_12 hx120_13)
                  (try clear hx120_0 hx120_1 hx120_2 hx120_3 hx120_4 hx120_5 hx120_6 hx120_7 hx120_8 hx120_9 hx120_10 hx120_11 hx120_12 hx120_13)
                  (try clear hx120_0 hx120_1 hx120_2 hx120_3 hx120_4 hx120_5 hx120_6 hx120_7 hx120_8 hx120_9 hx120_10 hx120_11 hx120_12 hx120_13)
                  (try clear hx120_0 hx120_1 hx120_2 hx120_3 hx120_4 hx120_5 hx120_6 hx120_7 hx120_8 hx120_9 hx120_10 hx120_11 hx120_12 hx120_13)
                  go_wp2_with (first | ((with_reducible refine gate_callee (f := 120) rfl ?_); refine goesY_ (some 104) Try.func120 #[.int .i64 ((rd_T33 l0 0).f8)] rfl ?_; (with_reducible refine (spec_l14Pathed.calls ((rd_T33 l0 0).f8) true _ A29.out).mono ?_); rintro e w' ⟨rfl, ⟨nd, rfl⟩⟩; refine ⟨_, rfl, ?_⟩) | ((with_reducible refine gate_callee (f := 75) rfl ?_); refine goesY_ (some 138) Try.func75 #[.int .i64 ((rd_T33 l0 0).f1)] rfl ?_; (with_reducible refine (spec_l14Termed.calls ((rd_T33 l0 0).f1) false _ A32.out).mono ?_); rintro e w' ⟨rfl, ⟨nd, rfl⟩⟩; refine ⟨_, rfl, ?_⟩))
                  go_ret
                  exact ⟨vl_, dr_⟩
               ·
                rw [if_neg c31] at H
                have c31b0 : (((rd_T33 l0 0).f1) == 13) = false := beq_eq_false_iff_ne.mpr c31
                have c31b1 : (((rd_T33 l0 0).f1) != 13) = true := bne_iff_ne.mpr c31
                by_cases c37 : ((rd_T33 l0 0).f10) = 0
                ·
                 rw [if_pos c37] at H
                 have c37b0 : (((rd_T33 l0 0).f10) == 0) = true := beq_iff_eq.mpr c37
                 have c37b1 : (((rd_T33 l0 0).f10) != 0) = false := bne_eq_false_iff_eq.mpr c37
                 clear c37
                 obtain ⟨bq38, hbq38⟩ : ∃ b_ : Bool, b_ = ((rd_T33 l0 0).f11) := ⟨_, rfl⟩
                 replace H : (if bq38 = true then (some false) else ((spec_l14Termed.f ((rd_T33 l0 0).f1)).bind fun t126 => (if t126 = true then (if ((rd_T33 l0 0).f1) = 14 then (some true) else (some (((rd_T33 l0 0).f13) == 0))) else (if (((rd_T33 l0 0).f12).length : Int) = 0 then (if ((rd_T33 l0 0).f1) = 14 then (some true) else (some (((rd_T33 l0 0).f13) == 0))) else (some false))))) = some r := by rw [← hbq38] at H; exact H
                 have Nbq38 := Aside0.mk hbq38
                 clear hbq38
                 have p121 : 0 ≤ (0 : Int) := (by omega)
                 have q121 : 0 < (l0.length : Int) := od_
                 obtain ⟨ad121, A121_3, c121_3, A121_7, c121_7, A121_9, c121_9, A121_12, c121_12, e121, hx121_0, hx121_1, hx121_2, hx121_3, hx121_4, hx121_5, hx121_6, hx121_7, hx121_8, hx121_9, hx121_10, hx121_11, hx121_12, hx121_13, hl121_3, hi121_3, hl121_7, hi121_7, hl121_9, hi121_9, hl121_12, hi121_12⟩ := at_T33 HR0.out 0 p121 q121
                 (try rw [← Nbq38.out] at hx121_11)
                 cases e121
                 have qi121 : (0 < l0.length) = True := eq_true (by omega)
                 (try simp only [Int.toNat_zero, Nat.zero_mul, Addr.add_zero'] at hx121_0 hx121_1 hx121_2 hx121_3 hx121_4 hx121_5 hx121_6 hx121_7 hx121_8 hx121_9 hx121_10 hx121_11 hx121_12 hx121_13)
                 have HR121_3 := Aside0.mk hi121_3
                 have HC121_3 := Aside0.mk hl121_3
                 clear hi121_3 hl121_3
                 have HR121_7 := Aside0.mk hi121_7
                 have HC121_7 := Aside0.mk hl121_7
                 clear hi121_7 hl121_7
                 have HR121_9 := Aside0.mk hi121_9
                 have HC121_9 := Aside0.mk hl121_9
                 clear hi121_9 hl121_9
                 have HR121_12 := Aside0.mk hi121_12
                 have HC121_12 := Aside0.mk hl121_12
                 clear hi121_12 hl121_12
                 replace p121 := eq_true p121
                 replace q121 := eq_true q121
                 by_cases c39 : bq38 = true
                 ·
                  subst c39
                  (try rw [if_pos rfl] at H)
                  obtain rfl := Option.some.inj H
                  (try clear hx114_0 hx114_1 hx114_2 hx114_3 hx114_4 hx114_5 hx114_6 hx114_7 hx114_8 hx114_9 hx114_10 hx114_11 hx114_12 hx114_13)
                  (try clear hx119_0 hx119_1 hx119_2 hx119_3 hx119_4 hx119_5 hx119_6 hx119_7 hx119_8 hx119_9 hx119_10 hx119_11 hx119_12 hx119_13)
                  (try clear hx119_0 hx119_1 hx119_2 hx119_3 hx119_4 hx119_5 hx119_6 hx119_7 hx119_8 hx119_9 hx119_10 hx119_11 hx119_12 hx119_13)
                  (try clear hx119_0 hx119_1 hx119_2 hx119_3 hx119_4 hx119_5 hx119_6 hx119_7 hx119_8 hx119_9 hx119_10 hx119_11 hx119_12 hx119_13)
                  (try clear hx119_0 hx119_1 hx119_2 hx119_3 hx119_4 hx119_5 hx119_6 hx119_7 hx119_8 hx119_9 hx119_10 hx119_11 hx119_12 hx119_13)
                  (try clear hx120_0 hx120_1 hx120_2 hx120_3 hx120_4 hx120_5 hx120_6 hx120_7 hx120_8 hx120_9 hx120_10 hx120_11 hx120_12 hx120_13)
                  (try clear hx120_0 hx120_1 hx120_2 hx120_3 hx120_4 hx120_5 hx120_6 hx120_7 hx120_8 hx120_9 hx120_10 hx120_11 hx120_12 hx120_13)
                  (try clear hx120_0 hx120_1 hx120_2 hx120_3 hx120_4 hx120_5 hx120_6 hx120_7 hx120_8 hx120_9 hx120_10 hx120_11 hx120_12 hx120_13)
                  (try clear hx120_0 hx120_1 hx120_2 hx120_3 hx120_4 hx120_5 hx120_6 hx120_7 hx120_8 hx120_9 hx120_10 hx120_11 hx120_12 hx120_13)
                  (try clear hx120_0 hx120_1 hx120_2 hx120_3 hx120_4 hx120_5 hx120_6 hx120_7 hx120_8 hx120_9 hx120_10 hx120_11 hx120_12 hx120_13)
                  (try clear hx120_0 hx120_1 hx120_2 hx120_3 hx120_4 hx120_5 hx120_6 hx120_7 hx120_8 hx120_9 hx120_10 hx120_11 hx120_12 hx120_13)
                  go_wp2_with (first | ((with_reducible refine gate_callee (f := 120) rfl ?_); refine goesY_ (some 104) Try.func120 #[.int .i64 ((rd_T33 l0 0).f8)] rfl ?_; (with_reducible refine (spec_l14Pathed.calls ((rd_T33 l0 0).f8) true _ A29.out).mono ?_); rintro e w' ⟨rfl, ⟨nd, rfl⟩⟩; refine ⟨_, rfl, ?_⟩))
                  go_ret
                  exact ⟨vl_, dr_⟩
                 ·
                  replace c39 := Bool.eq_false_iff.mpr c39
                  subst c39
                  (try rw [if_neg (show ¬ (false = true) by decide)] at H)
                  replace H := Option.bind_eq_some_iff.mp H
                  obtain ⟨t126, A400, H⟩ := H
                  (try dsimp only at H)
                  have A40 := Aside0.mk A400
                  clear A400
                  by_cases c41 : t126 = true
                  ·
                   subst c41
                   (try rw [if_pos rfl] at H)
                   by_cases c42 : ((rd_T33 l0 0).f1) = 14
                   ·
                    rw [if_pos c42] at H
                    have c42b0 : (((rd_T33 l0 0).f1) == 14) = true := beq_iff_eq.mpr c42
                    have c42b1 : (((rd_T33 l0 0).f1) != 14) = false := bne_eq_false_iff_eq.mpr c42
                    clear c42
                    obtain rfl := Option.some.inj H
                    (try clear hx119_0 hx119_1 hx119_2 hx119_3 hx119_4 hx119_5 hx119_6 hx119_7 hx119_8 hx119_9 hx119_10 hx119_11 hx119_12 hx119_13)
                    (try clear hx119_0 hx119_1 hx119_2 hx119_3 hx119_4 hx119_5 hx119_6 hx119_7 hx119_8 hx119_9 hx119_10 hx119_11 hx119_12 hx119_13)
                    (try clear hx119_0 hx119_1 hx119_2 hx119_3 hx119_4 hx119_5 hx119_6 hx119_7 hx119_8 hx119_9 hx119_10 hx119_11 hx119_12 hx119_13)
                    (try clear hx119_0 hx119_1 hx119_2 hx119_3 hx119_4 hx119_5 hx119_6 hx119_7 hx119_8 hx119_9 hx119_10 hx119_11 hx119_12 hx119_13)
                    (try clear hx120_0 hx120_1 hx120_2 hx120_3 hx120_4 hx120_5 hx120_6 hx120_7 hx120_8 hx120_9 hx120_10 hx120_11 hx120_12 hx120_13)
                    (try clear hx120_0 hx120_1 hx120_2 hx120_3 hx120_4 hx120_5 hx120_6 hx120_7 hx120_8 hx120_9 hx120_10 hx120_11 hx120_12 hx120_13)
                    (try clear hx120_0 hx120_1 hx120_2 hx120_3 hx120_4 hx120_5 hx120_6 hx120_7 hx120_8 hx120_9 hx120_10 hx120_11 hx120_12 hx120_13)
                    (try clear hx120_0 hx120_1 hx120_2 hx120_3 hx120_4 hx120_5 hx120_6 hx120_7 hx120_8 hx120_9 hx120_10 hx120_11 hx120_12 hx120_13)
                    (try clear hx120_0 hx120_1 hx120_2 hx120_3 hx120_4 hx120_5 hx120_6 hx120_7 hx120_8 hx120_9 hx120_10 hx120_11 hx120_12 hx120_13)
                    (try clear hx120_0 hx120_1 hx120_2 hx120_3 hx120_4 hx120_5 hx120_6 hx120_7 hx120_8 hx120_9 hx120_10 hx120_11 hx120_12 hx120_13)
                    go_wp2_with (first | ((with_reducible refine gate_callee (f := 120) rfl ?_); refine goesY_ (some 104) Try.func120 #[.int .i64 ((rd_T33 l0 0).f8)] rfl ?_; (with_reducible refine (spec_l14Pathed.calls ((rd_T33 l0 0).f8) true _ A29.out).mono ?_); rintro e w' ⟨rfl, ⟨nd, rfl⟩⟩; refine ⟨_, rfl, ?_⟩) | ((with_reducible refine gate_callee (f := 75) rfl ?_); refine goesY_ (some 138) Try.func75 #[.int .i64 ((rd_T33 l0 0).f1)] rfl ?_; (with_reducible refine (spec_l14Termed.calls ((rd_T33 l0 0).f1) true _ A40.out).mono ?_); rintro e w' ⟨rfl, ⟨nd, rfl⟩⟩; refine ⟨_, rfl, ?_⟩))
                    go_ret
                    exact ⟨vl_, dr_⟩
                   ·
                    rw [if_neg c42] at H
                    have c42b0 : (((rd_T33 l0 0).f1) == 14) = false := beq_eq_false_iff_ne.mpr c42
                    have c42b1 : (((rd_T33 l0 0).f1) != 14) = true := bne_iff_ne.mpr c42
                    obtain rfl := Option.some.inj H
                    (try clear hx119_0 hx119_1 hx119_2 hx119_3 hx119_4 hx119_5 hx119_6 hx119_7 hx119_8 hx119_9 hx119_10 hx119_11 hx119_12 hx119_13)
                    (try clear hx119_0 hx119_1 hx119_2 hx119_3 hx119_4 hx119_5 hx119_6 hx119_7 hx119_8 hx119_9 hx119_10 hx119_11 hx119_12 hx119_13)
                    (try clear hx119_0 hx119_1 hx119_2 hx119_3 hx119_4 hx119_5 hx119_6 hx119_7 hx119_8 hx119_9 hx119_10 hx119_11 hx119_12 hx119_13)
                    (try clear hx120_0 hx120_1 hx120_2 hx120_3 hx120_4 hx120_5 hx120_6 hx120_7 hx120_8 hx120_9 hx120_10 hx120_11 hx120_12 hx120_13)
                    (try clear hx120_0 hx120_1 hx120_2 hx120_3 hx120_4 hx120_5 hx120_6 hx120_7 hx120_8 hx120_9 hx120_10 hx120_11 hx120_12 hx120_13)
                    (try clear hx120_0 hx120_1 hx120_2 hx120_3 hx120_4 hx120_5 hx120_6 hx120_7 hx120_8 hx120_9 hx120_10 hx120_11 hx120_12 hx120_13)
                    (try clear hx120_0 hx120_1 hx120_2 hx120_3 hx120_4 hx120_5 hx120_6 hx120_7 hx120_8 hx120_9 hx120_10 hx120_11 hx120_12 hx120_13)
                    (try clear hx120_0 hx120_1 hx120_2 hx120_3 hx120_4 hx120_5 hx120_6 hx120_7 hx120_8 hx120_9 hx120_10 hx120_11 hx120_12 hx120_13)
                    (try clear hx120_0 hx120_1 hx120_2 hx120_3 hx120_4 hx120_5 hx120_6 hx120_7 hx120_8 hx120_9 hx120_10 hx120_11 hx120_12 hx120_13)
                    go_wp2_with (first | ((with_reducible refine gate_callee (f := 120) rfl ?_); refine goesY_ (some 104) Try.func120 #[.int .i64 ((rd_T33 l0 0).f8)] rfl ?_; (with_reducible refine (spec_l14Pathed.calls ((rd_T33 l0 0).f8) true _ A29.out).mono ?_); rintro e w' ⟨rfl, ⟨nd, rfl⟩⟩; refine ⟨_, rfl, ?_⟩) | ((with_reducible refine gate_callee (f := 75) rfl ?_); refine goesY_ (some 138) Try.func75 #[.int .i64 ((rd_T33 l0 0).f1)] rfl ?_; (with_reducible refine (spec_l14Termed.calls ((rd_T33 l0 0).f1) true _ A40.out).mono ?_); rintro e w' ⟨rfl, ⟨nd, rfl⟩⟩; refine ⟨_, rfl, ?_⟩))
                    go_ret
                    exact ⟨vl_, dr_⟩
                  ·
                   replace c41 := Bool.eq_false_iff.mpr c41
                   subst c41
                   (try rw [if_neg (show ¬ (false = true) by decide)] at H)
                   by_cases c43 : (((rd_T33 l0 0).f12).length : Int) = 0
                   ·
                    rw [if_pos c43] at H
                    have c43b0 : ((((rd_T33 l0 0).f12).length : Int) == 0) = true := beq_iff_eq.mpr c43
                    have c43b1 : ((((rd_T33 l0 0).f12).length : Int) != 0) = false := bne_eq_false_iff_eq.mpr c43
                    clear c43
                    by_cases c44 : ((rd_T33 l0 0).f1) = 14
                    ·
                     rw [if_pos c44] at H
                     have c44b0 : (((rd_T33 l0 0).f1) == 14) = true := beq_iff_eq.mpr c44
                     have c44b1 : (((rd_T33 l0 0).f1) != 14) = false := bne_eq_false_iff_eq.mpr c44
                     clear c44
                     obtain rfl := Option.some.inj H
                     (try clear hx119_0 hx119_1 hx119_2 hx119_3 hx119_4 hx119_5 hx119_6 hx119_7 hx119_8 hx119_9 hx119_10 hx119_11 hx119_12 hx119_13)
                     (try clear hx119_0 hx119_1 hx119_2 hx119_3 hx119_4 hx119_5 hx119_6 hx119_7 hx119_8 hx119_9 hx119_10 hx119_11 hx119_12 hx119_13)
                     (try clear hx120_0 hx120_1 hx120_2 hx120_3 hx120_4 hx120_5 hx120_6 hx120_7 hx120_8 hx120_9 hx120_10 hx120_11 hx120_12 hx120_13)
                     (try clear hx120_0 hx120_1 hx120_2 hx120_3 hx120_4 hx120_5 hx120_6 hx120_7 hx120_8 hx120_9 hx120_10 hx120_11 hx120_12 hx120_13)
                     (try clear hx120_0 hx120_1 hx120_2 hx120_3 hx120_4 hx120_5 hx120_6 hx120_7 hx120_8 hx120_9 hx120_10 hx120_11 hx120_12 hx120_13)
                     (try clear hx120_0 hx120_1 hx120_2 hx120_3 hx120_4 hx120_5 hx120_6 hx120_7 hx120_8 hx120_9 hx120_10 hx120_11 hx120_12 hx120_13)
                     (try clear hx120_0 hx120_1 hx120_2 hx120_3 hx120_4 hx120_5 hx120_6 hx120_7 hx120_8 hx120_9 hx120_10 hx120_11 hx120_12 hx120_13)
                     (try clear hx120_0 hx120_1 hx120_2 hx120_3 hx120_4 hx120_5 hx120_6 hx120_7 hx120_8 hx120_9 hx120_10 hx120_11 hx120_12 hx120_13)
                     go_wp2_with (first | ((with_reducible refine gate_callee (f := 120) rfl ?_); refine goesY_ (some 104) Try.func120 #[.int .i64 ((rd_T33 l0 0).f8)] rfl ?_; (with_reducible refine (spec_l14Pathed.calls ((rd_T33 l0 0).f8) true _ A29.out).mono ?_); rintro e w' ⟨rfl, ⟨nd, rfl⟩⟩; refine ⟨_, rfl, ?_⟩) | ((with_reducible refine gate_callee (f := 75) rfl ?_); refine goesY_ (some 138) Try.func75 #[.int .i64 ((rd_T33 l0 0).f1)] rfl ?_; (with_reducible refine (spec_l14Termed.calls ((rd_T33 l0 0).f1) false _ A40.out).mono ?_); rintro e w' ⟨rfl, ⟨nd, rfl⟩⟩; refine ⟨_, rfl, ?_⟩))
                     go_ret
                     exact ⟨vl_, dr_⟩
                    ·
                     rw [if_neg c44] at H
                     have c44b0 : (((rd_T33 l0 0).f1) == 14) = false := beq_eq_false_iff_ne.mpr c44
                     have c44b1 : (((rd_T33 l0 0).f1) != 14) = true := bne_iff_ne.mpr c44
                     obtain rfl := Option.some.inj H
                     (try clear hx119_0 hx119_1 hx119_2 hx119_3 hx119_4 hx119_5 hx119_6 hx119_7 hx119_8 hx119_9 hx119_10 hx119_11 hx119_12 hx119_13)
                     (try clear hx120_0 hx120_1 hx120_2 hx120_3 hx120_4 hx120_5 hx120_6 hx120_7 hx120_8 hx120_9 hx120_10 hx120_11 hx120_12 hx120_13)
                     (try clear hx120_0 hx120_1 hx120_2 hx120_3 hx120_4 hx120_5 hx120_6 hx120_7 hx120_8 hx120_9 hx120_10 hx120_11 hx120_12 hx120_13)
                     (try clear hx120_0 hx120_1 hx120_2 hx120_3 hx120_4 hx120_5 hx120_6 hx120_7 hx120_8 hx120_9 hx120_10 hx120_11 hx120_12 hx120_13)
                     (try clear hx120_0 hx120_1 hx120_2 hx120_3 hx120_4 hx120_5 hx120_6 hx120_7 hx120_8 hx120_9 hx120_10 hx120_11 hx120_12 hx120_13)
                     (try clear hx120_0 hx120_1 hx120_2 hx120_3 hx120_4 hx120_5 hx120_6 hx120_7 hx120_8 hx120_9 hx120_10 hx120_11 hx120_12 hx120_13)
                     (try clear hx120_0 hx120_1 hx120_2 hx120_3 hx120_4 hx120_5 hx120_6 hx120_7 hx120_8 hx120_9 hx120_10 hx120_11 hx120_12 hx120_13)
                     go_wp2_with (first | ((with_reducible refine gate_callee (f := 120) rfl ?_); refine goesY_ (some 104) Try.func120 #[.int .i64 ((rd_T33 l0 0).f8)] rfl ?_; (with_reducible refine (spec_l14Pathed.calls ((rd_T33 l0 0).f8) true _ A29.out).mono ?_); rintro e w' ⟨rfl, ⟨nd, rfl⟩⟩; refine ⟨_, rfl, ?_⟩) | ((with_reducible refine gate_callee (f := 75) rfl ?_); refine goesY_ (some 138) Try.func75 #[.int .i64 ((rd_T33 l0 0).f1)] rfl ?_; (with_reducible refine (spec_l14Termed.calls ((rd_T33 l0 0).f1) false _ A40.out).mono ?_); rintro e w' ⟨rfl, ⟨nd, rfl⟩⟩; refine ⟨_, rfl, ?_⟩))
                     go_ret
                     exact ⟨vl_, dr_⟩
                   ·
                    rw [if_neg c43] at H
                    have c43b0 : ((((rd_T33 l0 0).f12).length : Int) == 0) = false := beq_eq_false_iff_ne.mpr c43
                    have c43b1 : ((((rd_T33 l0 0).f12).length : Int) != 0) = true := bne_iff_ne.mpr c43
                    have c43b2 : ¬ (((rd_T33 l0 0).f12) = []) := fun h_ => c43 (by rw [h_]; rfl)
                    obtain rfl := Option.some.inj H
                    (try clear hx120_0 hx120_1 hx120_2 hx120_3 hx120_4 hx120_5 hx120_6 hx120_7 hx120_8 hx120_9 hx120_10 hx120_11 hx120_12 hx120_13)
                    (try clear hx120_0 hx120_1 hx120_2 hx120_3 hx120_4 hx120_5 hx120_6 hx120_7 hx120_8 hx120_9 hx120_10 hx120_11 hx120_12 hx120_13)
                    (try clear hx120_0 hx120_1 hx120_2 hx120_3 hx120_4 hx120_5 hx120_6 hx120_7 hx120_8 hx120_9 hx120_10 hx120_11 hx120_12 hx120_13)
                    (try clear hx120_0 hx120_1 hx120_2 hx120_3 hx120_4 hx120_5 hx120_6 hx120_7 hx120_8 hx120_9 hx120_10 hx120_11 hx120_12 hx120_13)
                    (try clear hx120_0 hx120_1 hx120_2 hx120_3 hx120_4 hx120_5 hx120_6 hx120_7 hx120_8 hx120_9 hx120_10 hx120_11 hx120_12 hx120_13)
                    (try clear hx120_0 hx120_1 hx120_2 hx120_3 hx120_4 hx120_5 hx120_6 hx120_7 hx120_8 hx120_9 hx120_10 hx120_11 hx120_12 hx120_13)
                    go_wp2_with (first | ((with_reducible refine gate_callee (f := 120) rfl ?_); refine goesY_ (some 104) Try.func120 #[.int .i64 ((rd_T33 l0 0).f8)] rfl ?_; (with_reducible refine (spec_l14Pathed.calls ((rd_T33 l0 0).f8) true _ A29.out).mono ?_); rintro e w' ⟨rfl, ⟨nd, rfl⟩⟩; refine ⟨_, rfl, ?_⟩) | ((with_reducible refine gate_callee (f := 75) rfl ?_); refine goesY_ (some 138) Try.func75 #[.int .i64 ((rd_T33 l0 0).f1)] rfl ?_; (with_reducible refine (spec_l14Termed.calls ((rd_T33 l0 0).f1) false _ A40.out).mono ?_); rintro e w' ⟨rfl, ⟨nd, rfl⟩⟩; refine ⟨_, rfl, ?_⟩))
                    go_ret
                    exact ⟨vl_, dr_⟩
                ·
                 rw [if_neg c37] at H
                 have c37b0 : (((rd_T33 l0 0).f10) == 0) = false := beq_eq_false_iff_ne.mpr c37
                 have c37b1 : (((rd_T33 l0 0).f10) != 0) = true := bne_iff_ne.mpr c37
                 obtain rfl := Option.some.inj H
                 have p121 : 0 ≤ (0 : Int) := (by omega)
                 have q121 : 0 < (l0.length : Int) := od_
                 obtain ⟨ad121, A121_3, c121_3, A121_7, c121_7, A121_9, c121_9, A121_12, c121_12, e121, hx121_0, hx121_1, hx121_2, hx121_3, hx121_4, hx121_5, hx121_6, hx121_7, hx121_8, hx121_9, hx121_10, hx121_11, hx121_12, hx121_13, hl121_3, hi121_3, hl121_7, hi121_7, hl121_9, hi121_9, hl121_12, hi121_12⟩ := at_T33 HR0.out 0 p121 q121
                 cases e121
                 have qi121 : (0 < l0.length) = True := eq_true (by omega)
                 (try simp only [Int.toNat_zero, Nat.zero_mul, Addr.add_zero'] at hx121_0 hx121_1 hx121_2 hx121_3 hx121_4 hx121_5 hx121_6 hx121_7 hx121_8 hx121_9 hx121_10 hx121_11 hx121_12 hx121_13)
                 have HR121_3 := Aside0.mk hi121_3
                 have HC121_3 := Aside0.mk hl121_3
                 clear hi121_3 hl121_3
                 have HR121_7 := Aside0.mk hi121_7
                 have HC121_7 := Aside0.mk hl121_7
                 clear hi121_7 hl121_7
                 have HR121_9 := Aside0.mk hi121_9
                 have HC121_9 := Aside0.mk hl121_9
                 clear hi121_9 hl121_9
                 have HR121_12 := Aside0.mk hi121_12
                 have HC121_12 := Aside0.mk hl121_12
                 clear hi121_12 hl121_12
                 replace p121 := eq_true p121
                 replace q121 := eq_true q121
                 (try clear hx120_0 hx120_1 hx120_2 hx120_3 hx120_4 hx120_5 hx120_6 hx120_7 hx120_8 hx120_9 hx120_10 hx120_11 hx120_12 hx120_13)
                 (try clear hx120_0 hx120_1 hx120_2 hx120_3 hx120_4 hx120_5 hx120_6 hx120_7 hx120_8 hx120_9 hx120_10 hx120_11 hx120_12 hx120_13)
                 (try clear hx120_0 hx120_1 hx120_2 hx120_3 hx120_4 hx120_5 hx120_6 hx120_7 hx120_8 hx120_9 hx120_10 hx120_11 hx120_12 hx120_13)
                 (try clear hx120_0 hx120_1 hx120_2 hx120_3 hx120_4 hx120_5 hx120_6 hx120_7 hx120_8 hx120_9 hx120_10 hx120_11 hx120_12 hx120_13)
                 (try clear hx120_0 hx120_1 hx120_2 hx120_3 hx120_4 hx120_5 hx120_6 hx120_7 hx120_8 hx120_9 hx120_10 hx120_11 hx120_12 hx120_13)
                 go_wp2_with (first | ((with_reducible refine gate_callee (f := 120) rfl ?_); refine goesY_ (some 104) Try.func120 #[.int .i64 ((rd_T33 l0 0).f8)] rfl ?_; (with_reducible refine (spec_l14Pathed.calls ((rd_T33 l0 0).f8) true _ A29.out).mono ?_); rintro e w' ⟨rfl, ⟨nd, rfl⟩⟩; refine ⟨_, rfl, ?_⟩))
                 go_ret
                 exact ⟨vl_, dr_⟩
              ·
               replace c30 := Bool.eq_false_iff.mpr c30
               subst c30
               (try rw [if_neg (show ¬ (false = true) by decide)] at H)
               by_cases c45 : (((rd_T33 l0 0).f9).length : Int) > 0
               ·
                rw [if_pos c45] at H
                have c45b0 : decide (0 < (((rd_T33 l0 0).f9).length : Int)) = true := decide_eq_true c45
                have c45b1 : decide (0 < ((rd_T33 l0 0).f9).length) = true := decide_eq_true (by omega)
                clear c45
                obtain rfl := Option.some.inj H
                have p121 : 0 ≤ (0 : Int) := (by omega)
                have q121 : 0 < (l0.length : Int) := od_
                obtain ⟨ad121, A121_3, c121_3, A121_7, c121_7, A121_9, c121_9, A121_12, c121_12, e121, hx121_0, hx121_1, hx121_2, hx121_3, hx121_4, hx121_5, hx121_6, hx121_7, hx121_8, hx121_9, hx121_10, hx121_11, hx121_12, hx121_13, hl121_3, hi121_3, hl121_7, hi121_7, hl121_9, hi121_9, hl121_12, hi121_12⟩ := at_T33 HR0.out 0 p121 q121
                cases e121
                have qi121 : (0 < l0.length) = True := eq_true (by omega)
                (try simp only [Int.toNat_zero, Nat.zero_mul, Addr.add_zero'] at hx121_0 hx121_1 hx121_2 hx121_3 hx121_4 hx121_5 hx121_6 hx121_7 hx121_8 hx121_9 hx121_10 hx121_11 hx121_12 hx121_13)
                have HR121_3 := Aside0.mk hi121_3
                have HC121_3 := Aside0.mk hl121_3
                clear hi121_3 hl121_3
                have HR121_7 := Aside0.mk hi121_7
                have HC121_7 := Aside0.mk hl121_7
                clear hi121_7 hl121_7
                have HR121_9 := Aside0.mk hi121_9
                have HC121_9 := Aside0.mk hl121_9
                clear hi121_9 hl121_9
                have HR121_12 := Aside0.mk hi121_12
                have HC121_12 := Aside0.mk hl121_12
                clear hi121_12 hl121_12
                replace p121 := eq_true p121
                replace q121 := eq_true q121
                (try clear hx120_0 hx120_1 hx120_2 hx120_3 hx120_4 hx120_5 hx120_6 hx120_7 hx120_8 hx120_9 hx120_10 hx120_11 hx120_12 hx120_13)
                (try clear hx120_0 hx120_1 hx120_2 hx120_3 hx120_4 hx120_5 hx120_6 hx120_7 hx120_8 hx120_9 hx120_10 hx120_11 hx120_12 hx120_13)
                (try clear hx120_0 hx120_1 hx120_2 hx120_3 hx120_4 hx120_5 hx120_6 hx120_7 hx120_8 hx120_9 hx120_10 hx120_11 hx120_12 hx120_13)
                (try clear hx120_0 hx120_1 hx120_2 hx120_3 hx120_4 hx120_5 hx120_6 hx120_7 hx120_8 hx120_9 hx120_10 hx120_11 hx120_12 hx120_13)
                go_wp2_with (first | ((with_reducible refine gate_callee (f := 120) rfl ?_); refine goesY_ (some 104) Try.func120 #[.int .i64 ((rd_T33 l0 0).f8)] rfl ?_; (with_reducible refine (spec_l14Pathed.calls ((rd_T33 l0 0).f8) false _ A29.out).mono ?_); rintro e w' ⟨rfl, ⟨nd, rfl⟩⟩; refine ⟨_, rfl, ?_⟩))
                go_ret
                exact ⟨vl_, dr_⟩
               ·
                rw [if_neg c45] at H
                have c45b0 : decide (0 < (((rd_T33 l0 0).f9).length : Int)) = false := decide_eq_false c45
                have c45b1 : decide (0 < ((rd_T33 l0 0).f9).length) = false := decide_eq_false (by omega)
                clear c45
                by_cases c46 : ((rd_T33 l0 0).f1) = 13
                ·
                 rw [if_pos c46] at H
                 have c46b0 : (((rd_T33 l0 0).f1) == 13) = true := beq_iff_eq.mpr c46
                 have c46b1 : (((rd_T33 l0 0).f1) != 13) = false := bne_eq_false_iff_eq.mpr c46
                 clear c46
                 replace H := Option.bind_eq_some_iff.mp H
                 obtain ⟨t128, A470, H⟩ := H
                 (try dsimp only at H)
                 have A47 := Aside0.mk A470
                 clear A470
                 have p121 : 0 ≤ (0 : Int) := (by omega)
                 have q121 : 0 < (l0.length : Int) := od_
                 obtain ⟨ad121, A121_3, c121_3, A121_7, c121_7, A121_9, c121_9, A121_12, c121_12, e121, hx121_0, hx121_1, hx121_2, hx121_3, hx121_4, hx121_5, hx121_6, hx121_7, hx121_8, hx121_9, hx121_10, hx121_11, hx121_12, hx121_13, hl121_3, hi121_3, hl121_7, hi121_7, hl121_9, hi121_9, hl121_12, hi121_12⟩ := at_T33 HR0.out 0 p121 q121
                 cases e121
                 have qi121 : (0 < l0.length) = True := eq_true (by omega)
                 (try simp only [Int.toNat_zero, Nat.zero_mul, Addr.add_zero'] at hx121_0 hx121_1 hx121_2 hx121_3 hx121_4 hx121_5 hx121_6 hx121_7 hx121_8 hx121_9 hx121_10 hx121_11 hx121_12 hx121_13)
                 have HR121_3 := Aside0.mk hi121_3
                 have HC121_3 := Aside0.mk hl121_3
                 clear hi121_3 hl121_3
                 have HR121_7 := Aside0.mk hi121_7
                 have HC121_7 := Aside0.mk hl121_7
                 clear hi121_7 hl121_7
                 have HR121_9 := Aside0.mk hi121_9
                 have HC121_9 := Aside0.mk hl121_9
                 clear hi121_9 hl121_9
                 have HR121_12 := Aside0.mk hi121_12
                 have HC121_12 := Aside0.mk hl121_12
                 clear hi121_12 hl121_12
                 replace p121 := eq_true p121
                 replace q121 := eq_true q121
                 by_cases c48 : t128 = true
                 ·
                  subst c48
                  (try rw [if_pos rfl] at H)
                  by_cases c49 : ((rd_T33 l0 0).f1) = 14
                  ·
                   rw [if_pos c49] at H
                   have c49b0 : (((rd_T33 l0 0).f1) == 14) = true := beq_iff_eq.mpr c49
                   have c49b1 : (((rd_T33 l0 0).f1) != 14) = false := bne_eq_false_iff_eq.mpr c49
                   clear c49
                   obtain rfl := Option.some.inj H
                   (try clear hx120_0 hx120_1 hx120_2 hx120_3 hx120_4 hx120_5 hx120_6 hx120_7 hx120_8 hx120_9 hx120_10 hx120_11 hx120_12 hx120_13)
                   (try clear hx120_0 hx120_1 hx120_2 hx120_3 hx120_4 hx120_5 hx120_6 hx120_7 hx120_8 hx120_9 hx120_10 hx120_11 hx120_12 hx120_13)
                   (try clear hx120_0 hx120_1 hx120_2 hx120_3 hx120_4 hx120_5 hx120_6 hx120_7 hx120_8 hx120_9 hx120_10 hx120_11 hx120_12 hx120_13)
                   go_wp2_with (first | ((with_reducible refine gate_callee (f := 120) rfl ?_); refine goesY_ (some 104) Try.func120 #[.int .i64 ((rd_T33 l0 0).f8)] rfl ?_; (with_reducible refine (spec_l14Pathed.calls ((rd_T33 l0 0).f8) false _ A29.out).mono ?_); rintro e w' ⟨rfl, ⟨nd, rfl⟩⟩; refine ⟨_, rfl, ?_⟩) | ((with_reducible refine gate_callee (f := 75) rfl ?_); refine goesY_ (some 138) Try.func75 #[.int .i64 ((rd_T33 l0 0).f1)] rfl ?_; (with_reducible refine (spec_l14Termed.calls ((rd_T33 l0 0).f1) true _ A47.out).mono ?_); rintro e w' ⟨rfl, ⟨nd, rfl⟩⟩; refine ⟨_, rfl, ?_⟩))
                   go_ret
                   exact ⟨vl_, dr_⟩
                  ·
                   rw [if_neg c49] at H
                   have c49b0 : (((rd_T33 l0 0).f1) == 14) = false := beq_eq_false_iff_ne.mpr c49
                   have c49b1 : (((rd_T33 l0 0).f1) != 14) = true := bne_iff_ne.mpr c49
                   obtain rfl := Option.some.inj H
                   (try clear hx120_0 hx120_1 hx120_2 hx120_3 hx120_4 hx120_5 hx120_6 hx120_7 hx120_8 hx120_9 hx120_10 hx120_11 hx120_12 hx120_13)
                   (try clear hx120_0 hx120_1 hx120_2 hx120_3 hx120_4 hx120_5 hx120_6 hx120_7 hx120_8 hx120_9 hx120_10 hx120_11 hx120_12 hx120_13)
                   go_wp2_with (first | ((with_reducible refine gate_callee (f := 120) rfl ?_); refine goesY_ (some 104) Try.func120 #[.int .i64 ((rd_T33 l0 0).f8)] rfl ?_; (with_reducible refine (spec_l14Pathed.calls ((rd_T33 l0 0).f8) false _ A29.out).mono ?_); rintro e w' ⟨rfl, ⟨nd, rfl⟩⟩; refine ⟨_, rfl, ?_⟩) | ((with_reducible refine gate_callee (f := 75) rfl ?_); refine goesY_ (some 138) Try.func75 #[.int .i64 ((rd_T33 l0 0).f1)] rfl ?_; (with_reducible refine (spec_l14Termed.calls ((rd_T33 l0 0).f1) true _ A47.out).mono ?_); rintro e w' ⟨rfl, ⟨nd, rfl⟩⟩; refine ⟨_, rfl, ?_⟩))
                   go_ret
                   exact ⟨vl_, dr_⟩
                 ·
                  replace c48 := Bool.eq_false_iff.mpr c48
                  subst c48
                  (try rw [if_neg (show ¬ (false = true) by decide)] at H)
                  by_cases c50 : (((rd_T33 l0 0).f12).length : Int) = 0
                  ·
                   rw [if_pos c50] at H
                   have c50b0 : ((((rd_T33 l0 0).f12).length : Int) == 0) = true := beq_iff_eq.mpr c50
                   have c50b1 : ((((rd_T33 l0 0).f12).length : Int) != 0) = false := bne_eq_false_iff_eq.mpr c50
                   clear c50
                   by_cases c51 : ((rd_T33 l0 0).f1) = 14
                   ·
                    rw [if_pos c51] at H
                    have c51b0 : (((rd_T33 l0 0).f1) == 14) = true := beq_iff_eq.mpr c51
                    have c51b1 : (((rd_T33 l0 0).f1) != 14) = false := bne_eq_false_iff_eq.mpr c51
                    clear c51
                    obtain rfl := Option.some.inj H
                    (try clear hx120_0 hx120_1 hx120_2 hx120_3 hx120_4 hx120_5 hx120_6 hx120_7 hx120_8 hx120_9 hx120_10 hx120_11 hx120_12 hx120_13)
                    go_wp2_with (first | ((with_reducible refine gate_callee (f := 120) rfl ?_); refine goesY_ (some 104) Try.func120 #[.int .i64 ((rd_T33 l0 0).f8)] rfl ?_; (with_reducible refine (spec_l14Pathed.calls ((rd_T33 l0 0).f8) false _ A29.out).mono ?_); rintro e w' ⟨rfl, ⟨nd, rfl⟩⟩; refine ⟨_, rfl, ?_⟩) | ((with_reducible refine gate_callee (f := 75) rfl ?_); refine goesY_ (some 138) Try.func75 #[.int .i64 ((rd_T33 l0 0).f1)] rfl ?_; (with_reducible refine (spec_l14Termed.calls ((rd_T33 l0 0).f1) false _ A47.out).mono ?_); rintro e w' ⟨rfl, ⟨nd, rfl⟩⟩; refine ⟨_, rfl, ?_⟩))
                    go_ret
                    exact ⟨vl_, dr_⟩
                   ·
                    rw [if_neg c51] at H
                    have c51b0 : (((rd_T33 l0 0).f1) == 14) = false := beq_eq_false_iff_ne.mpr c51
                    have c51b1 : (((rd_T33 l0 0).f1) != 14) = true := bne_iff_ne.mpr c51
                    obtain rfl := Option.some.inj H
                    go_wp2_with (first | ((with_reducible refine gate_callee (f := 120) rfl ?_); refine goesY_ (some 104) Try.func120 #[.int .i64 ((rd_T33 l0 0).f8)] rfl ?_; (with_reducible refine (spec_l14Pathed.calls ((rd_T33 l0 0).f8) false _ A29.out).mono ?_); rintro e w' ⟨rfl, ⟨nd, rfl⟩⟩; refine ⟨_, rfl, ?_⟩) | ((with_reducible refine gate_callee (f := 75) rfl ?_); refine goesY_ (some 138) Try.func75 #[.int .i64 ((rd_T33 l0 0).f1)] rfl ?_; (with_reducible refine (spec_l14Termed.calls ((rd_T33 l0 0).f1) false _ A47.out).mono ?_); rintro e w' ⟨rfl, ⟨nd, rfl⟩⟩; refine ⟨_, rfl, ?_⟩))
                    go_ret
                    exact ⟨vl_, dr_⟩
                  ·
                   rw [if_neg c50] at H
                   have c50b0 : ((((rd_T33 l0 0).f12).length : Int) == 0) = false := beq_eq_false_iff_ne.mpr c50
                   have c50b1 : ((((rd_T33 l0 0).f12).length : Int) != 0) = true := bne_iff_ne.mpr c50
                   have c50b2 : ¬ (((rd_T33 l0 0).f12) = []) := fun h_ => c50 (by rw [h_]; rfl)
                   obtain rfl := Option.some.inj H
                   go_wp2_with (first | ((with_reducible refine gate_callee (f := 120) rfl ?_); refine goesY_ (some 104) Try.func120 #[.int .i64 ((rd_T33 l0 0).f8)] rfl ?_; (with_reducible refine (spec_l14Pathed.calls ((rd_T33 l0 0).f8) false _ A29.out).mono ?_); rintro e w' ⟨rfl, ⟨nd, rfl⟩⟩; refine ⟨_, rfl, ?_⟩) | ((with_reducible refine gate_callee (f := 75) rfl ?_); refine goesY_ (some 138) Try.func75 #[.int .i64 ((rd_T33 l0 0).f1)] rfl ?_; (with_reducible refine (spec_l14Termed.calls ((rd_T33 l0 0).f1) false _ A47.out).mono ?_); rintro e w' ⟨rfl, ⟨nd, rfl⟩⟩; refine ⟨_, rfl, ?_⟩))
                   go_ret
                   exact ⟨vl_, dr_⟩
                ·
                 rw [if_neg c46] at H
                 have c46b0 : (((rd_T33 l0 0).f1) == 13) = false := beq_eq_false_iff_ne.mpr c46
                 have c46b1 : (((rd_T33 l0 0).f1) != 13) = true := bne_iff_ne.mpr c46
                 by_cases c52 : ((rd_T33 l0 0).f10) = 0
                 ·
                  rw [if_pos c52] at H
                  have c52b0 : (((rd_T33 l0 0).f10) == 0) = true := beq_iff_eq.mpr c52
                  have c52b1 : (((rd_T33 l0 0).f10) != 0) = false := bne_eq_false_iff_eq.mpr c52
                  clear c52
                  obtain ⟨bq53, hbq53⟩ : ∃ b_ : Bool, b_ = ((rd_T33 l0 0).f11) := ⟨_, rfl⟩
                  replace H : (if bq53 = true then (some false) else ((spec_l14Termed.f ((rd_T33 l0 0).f1)).bind fun t130 => (if t130 = true then (if ((rd_T33 l0 0).f1) = 14 then (some true) else (some (((rd_T33 l0 0).f13) == 0))) else (if (((rd_T33 l0 0).f12).length : Int) = 0 then (if ((rd_T33 l0 0).f1) = 14 then (some true) else (some (((rd_T33 l0 0).f13) == 0))) else (some false))))) = some r := by rw [← hbq53] at H; exact H
                  have Nbq53 := Aside0.mk hbq53
                  clear hbq53
                  have p121 : 0 ≤ (0 : Int) := (by omega)
                  have q121 : 0 < (l0.length : Int) := od_
                  obtain ⟨ad121, A121_3, c121_3, A121_7, c121_7, A121_9, c121_9, A121_12, c121_12, e121, hx121_0, hx121_1, hx121_2, hx121_3, hx121_4, hx121_5, hx121_6, hx121_7, hx121_8, hx121_9, hx121_10, hx121_11, hx121_12, hx121_13, hl121_3, hi121_3, hl121_7, hi121_7, hl121_9, hi121_9, hl121_12, hi121_12⟩ := at_T33 HR0.out 0 p121 q121
                  (try rw [← Nbq53.out] at hx121_11)
                  cases e121
                  have qi121 : (0 < l0.length) = True := eq_true (by omega)
                  (try simp only [Int.toNat_zero, Nat.zero_mul, Addr.add_zero'] at hx121_0 hx121_1 hx121_2 hx121_3 hx121_4 hx121_5 hx121_6 hx121_7 hx121_8 hx121_9 hx121_10 hx121_11 hx121_12 hx121_13)
                  have HR121_3 := Aside0.mk hi121_3
                  have HC121_3 := Aside0.mk hl121_3
                  clear hi121_3 hl121_3
                  have HR121_7 := Aside0.mk hi121_7
                  have HC121_7 := Aside0.mk hl121_7
                  clear hi121_7 hl121_7
                  have HR121_9 := Aside0.mk hi121_9
                  have HC121_9 := Aside0.mk hl121_9
                  clear hi121_9 hl121_9
                  have HR121_12 := Aside0.mk hi121_12
                  have HC121_12 := Aside0.mk hl121_12
                  clear hi121_12 hl121_12
                  replace p121 := eq_true p121
                  replace q121 := eq_true q121
                  by_cases c54 : bq53 = true
                  ·
                   subst c54
                   (try rw [if_pos rfl] at H)
                   obtain rfl := Option.some.inj H
                   go_wp2_with (first | ((with_reducible refine gate_callee (f := 120) rfl ?_); refine goesY_ (some 104) Try.func120 #[.int .i64 ((rd_T33 l0 0).f8)] rfl ?_; (with_reducible refine (spec_l14Pathed.calls ((rd_T33 l0 0).f8) false _ A29.out).mono ?_); rintro e w' ⟨rfl, ⟨nd, rfl⟩⟩; refine ⟨_, rfl, ?_⟩))
                   go_ret
                   exact ⟨vl_, dr_⟩
                  ·
                   replace c54 := Bool.eq_false_iff.mpr c54
                   subst c54
                   (try rw [if_neg (show ¬ (false = true) by decide)] at H)
                   replace H := Option.bind_eq_some_iff.mp H
                   obtain ⟨t130, A550, H⟩ := H
                   (try dsimp only at H)
                   have A55 := Aside0.mk A550
                   clear A550
                   by_cases c56 : t130 = true
                   ·
                    subst c56
                    (try rw [if_pos rfl] at H)
                    by_cases c57 : ((rd_T33 l0 0).f1) = 14
                    ·
                     rw [if_pos c57] at H
                     have c57b0 : (((rd_T33 l0 0).f1) == 14) = true := beq_iff_eq.mpr c57
                     have c57b1 : (((rd_T33 l0 0).f1) != 14) = false := bne_eq_false_iff_eq.mpr c57
                     clear c57
                     obtain rfl := Option.some.inj H
                     go_wp2_with (first | ((with_reducible refine gate_callee (f := 120) rfl ?_); refine goesY_ (some 104) Try.func120 #[.int .i64 ((rd_T33 l0 0).f8)] rfl ?_; (with_reducible refine (spec_l14Pathed.calls ((rd_T33 l0 0).f8) false _ A29.out).mono ?_); rintro e w' ⟨rfl, ⟨nd, rfl⟩⟩; refine ⟨_, rfl, ?_⟩) | ((with_reducible refine gate_callee (f := 75) rfl ?_); refine goesY_ (some 138) Try.func75 #[.int .i64 ((rd_T33 l0 0).f1)] rfl ?_; (with_reducible refine (spec_l14Termed.calls ((rd_T33 l0 0).f1) true _ A55.out).mono ?_); rintro e w' ⟨rfl, ⟨nd, rfl⟩⟩; refine ⟨_, rfl, ?_⟩))
                     go_ret
                     exact ⟨vl_, dr_⟩
                    ·
                     rw [if_neg c57] at H
                     have c57b0 : (((rd_T33 l0 0).f1) == 14) = false := beq_eq_false_iff_ne.mpr c57
                     have c57b1 : (((rd_T33 l0 0).f1) != 14) = true := bne_iff_ne.mpr c57
                     obtain rfl := Option.some.inj H
                     go_wp2_with (first | ((with_reducible refine gate_callee (f := 120) rfl ?_); refine goesY_ (some 104) Try.func120 #[.int .i64 ((rd_T33 l0 0).f8)] rfl ?_; (with_reducible refine (spec_l14Pathed.calls ((rd_T33 l0 0).f8) false _ A29.out).mono ?_); rintro e w' ⟨rfl, ⟨nd, rfl⟩⟩; refine ⟨_, rfl, ?_⟩) | ((with_reducible refine gate_callee (f := 75) rfl ?_); refine goesY_ (some 138) Try.func75 #[.int .i64 ((rd_T33 l0 0).f1)] rfl ?_; (with_reducible refine (spec_l14Termed.calls ((rd_T33 l0 0).f1) true _ A55.out).mono ?_); rintro e w' ⟨rfl, ⟨nd, rfl⟩⟩; refine ⟨_, rfl, ?_⟩))
                     go_ret
                     exact ⟨vl_, dr_⟩
                   ·
                    replace c56 := Bool.eq_false_iff.mpr c56
                    subst c56
                    (try rw [if_neg (show ¬ (false = true) by decide)] at H)
                    by_cases c58 : (((rd_T33 l0 0).f12).length : Int) = 0
                    ·
                     rw [if_pos c58] at H
                     have c58b0 : ((((rd_T33 l0 0).f12).length : Int) == 0) = true := beq_iff_eq.mpr c58
                     have c58b1 : ((((rd_T33 l0 0).f12).length : Int) != 0) = false := bne_eq_false_iff_eq.mpr c58
                     clear c58
                     by_cases c59 : ((rd_T33 l0 0).f1) = 14
                     ·
                      rw [if_pos c59] at H
                      have c59b0 : (((rd_T33 l0 0).f1) == 14) = true := beq_iff_eq.mpr c59
                      have c59b1 : (((rd_T33 l0 0).f1) != 14) = false := bne_eq_false_iff_eq.mpr c59
                      clear c59
                      obtain rfl := Option.some.inj H
                      go_wp2_with (first | ((with_reducible refine gate_callee (f := 120) rfl ?_); refine goesY_ (some 104) Try.func120 #[.int .i64 ((rd_T33 l0 0).f8)] rfl ?_; (with_reducible refine (spec_l14Pathed.calls ((rd_T33 l0 0).f8) false _ A29.out).mono ?_); rintro e w' ⟨rfl, ⟨nd, rfl⟩⟩; refine ⟨_, rfl, ?_⟩) | ((with_reducible refine gate_callee (f := 75) rfl ?_); refine goesY_ (some 138) Try.func75 #[.int .i64 ((rd_T33 l0 0).f1)] rfl ?_; (with_reducible refine (spec_l14Termed.calls ((rd_T33 l0 0).f1) false _ A55.out).mono ?_); rintro e w' ⟨rfl, ⟨nd, rfl⟩⟩; refine ⟨_, rfl, ?_⟩))
                      go_ret
                      exact ⟨vl_, dr_⟩
                     ·
                      rw [if_neg c59] at H
                      have c59b0 : (((rd_T33 l0 0).f1) == 14) = false := beq_eq_false_iff_ne.mpr c59
                      have c59b1 : (((rd_T33 l0 0).f1) != 14) = true := bne_iff_ne.mpr c59
                      obtain rfl := Option.some.inj H
                      go_wp2_with (first | ((with_reducible refine gate_callee (f := 120) rfl ?_); refine goesY_ (some 104) Try.func120 #[.int .i64 ((rd_T33 l0 0).f8)] rfl ?_; (with_reducible refine (spec_l14Pathed.calls ((rd_T33 l0 0).f8) false _ A29.out).mono ?_); rintro e w' ⟨rfl, ⟨nd, rfl⟩⟩; refine ⟨_, rfl, ?_⟩) | ((with_reducible refine gate_callee (f := 75) rfl ?_); refine goesY_ (some 138) Try.func75 #[.int .i64 ((rd_T33 l0 0).f1)] rfl ?_; (with_reducible refine (spec_l14Termed.calls ((rd_T33 l0 0).f1) false _ A55.out).mono ?_); rintro e w' ⟨rfl, ⟨nd, rfl⟩⟩; refine ⟨_, rfl, ?_⟩))
                      go_ret
                      exact ⟨vl_, dr_⟩
                    ·
                     rw [if_neg c58] at H
                     have c58b0 : ((((rd_T33 l0 0).f12).length : Int) == 0) = false := beq_eq_false_iff_ne.mpr c58
                     have c58b1 : ((((rd_T33 l0 0).f12).length : Int) != 0) = true := bne_iff_ne.mpr c58
                     have c58b2 : ¬ (((rd_T33 l0 0).f12) = []) := fun h_ => c58 (by rw [h_]; rfl)
                     obtain rfl := Option.some.inj H
                     go_wp2_with (first | ((with_reducible refine gate_callee (f := 120) rfl ?_); refine goesY_ (some 104) Try.func120 #[.int .i64 ((rd_T33 l0 0).f8)] rfl ?_; (with_reducible refine (spec_l14Pathed.calls ((rd_T33 l0 0).f8) false _ A29.out).mono ?_); rintro e w' ⟨rfl, ⟨nd, rfl⟩⟩; refine ⟨_, rfl, ?_⟩) | ((with_reducible refine gate_callee (f := 75) rfl ?_); refine goesY_ (some 138) Try.func75 #[.int .i64 ((rd_T33 l0 0).f1)] rfl ?_; (with_reducible refine (spec_l14Termed.calls ((rd_T33 l0 0).f1) false _ A55.out).mono ?_); rintro e w' ⟨rfl, ⟨nd, rfl⟩⟩; refine ⟨_, rfl, ?_⟩))
                     go_ret
                     exact ⟨vl_, dr_⟩
                 ·
                  rw [if_neg c52] at H
                  have c52b0 : (((rd_T33 l0 0).f10) == 0) = false := beq_eq_false_iff_ne.mpr c52
                  have c52b1 : (((rd_T33 l0 0).f10) != 0) = true := bne_iff_ne.mpr c52
                  obtain rfl := Option.some.inj H
                  have p121 : 0 ≤ (0 : Int) := (by omega)
                  have q121 : 0 < (l0.length : Int) := od_
                  obtain ⟨ad121, A121_3, c121_3, A121_7, c121_7, A121_9, c121_9, A121_12, c121_12, e121, hx121_0, hx121_1, hx121_2, hx121_3, hx121_4, hx121_5, hx121_6, hx121_7, hx121_8, hx121_9, hx121_10, hx121_11, hx121_12, hx121_13, hl121_3, hi121_3, hl121_7, hi121_7, hl121_9, hi121_9, hl121_12, hi121_12⟩ := at_T33 HR0.out 0 p121 q121
                  cases e121
                  have qi121 : (0 < l0.length) = True := eq_true (by omega)
                  (try simp only [Int.toNat_zero, Nat.zero_mul, Addr.add_zero'] at hx121_0 hx121_1 hx121_2 hx121_3 hx121_4 hx121_5 hx121_6 hx121_7 hx121_8 hx121_9 hx121_10 hx121_11 hx121_12 hx121_13)
                  have HR121_3 := Aside0.mk hi121_3
                  have HC121_3 := Aside0.mk hl121_3
                  clear hi121_3 hl121_3
                  have HR121_7 := Aside0.mk hi121_7
                  have HC121_7 := Aside0.mk hl121_7
                  clear hi121_7 hl121_7
                  have HR121_9 := Aside0.mk hi121_9
                  have HC121_9 := Aside0.mk hl121_9
                  clear hi121_9 hl121_9
                  have HR121_12 := Aside0.mk hi121_12
                  have HC121_12 := Aside0.mk hl121_12
                  clear hi121_12 hl121_12
                  replace p121 := eq_true p121
                  replace q121 := eq_true q121
                  go_wp2_with (first | ((with_reducible refine gate_callee (f := 120) rfl ?_); refine goesY_ (some 104) Try.func120 #[.int .i64 ((rd_T33 l0 0).f8)] rfl ?_; (with_reducible refine (spec_l14Pathed.calls ((rd_T33 l0 0).f8) false _ A29.out).mono ?_); rintro e w' ⟨rfl, ⟨nd, rfl⟩⟩; refine ⟨_, rfl, ?_⟩))
                  go_ret
                  exact ⟨vl_, dr_⟩
             · rw [if_neg c28] at H
               exact absurd H (by simp)

end Go.Proofs.Ytnehephjliankaa.PFnExactCmdFault

/- Functions of the program as Lean functions, each with the proof that its call comes to what that function says (texts written by a program of this session). Conditions: those that stand in each theorem. -/
import Derived.Test.YtnehephjliankaaPFnExactCmdFaultx0
import Derived.Test.YtnehephjliankaaPFnExactCmdFaultx1
import Derived.Test.YtnehephjliankaaPFnExactCmdFaultx3
import Derived.Test.YtnehephjliankaaPFnExactCmdFaultx4
namespace Go.Proofs.Ytnehephjliankaa.PFnExactCmdFault
open Go.RowKit Go.Proofs.YtnehephjliankaaW.PrintWords Go.Proofs.YtnehephjliankaaW.PrintLast Go.Proofs.YtnehephjliankaaW.PrintMore
attribute [local go_sem] max2_int min2_int max_two min_two max_three min_three max_four min_four   -- for this text's walks alone
set_option linter.unusedVariables false
set_option linter.unusedSimpArgs false

/-! ### spec_l12Value: function 125 -/
mutual
def spec_l12Value.j0 : Nat → List (S104) → Bool → Int → Bool → Option (Int)
 | 0, _, _, _, _ => none
 | k + 1, x0, x3, x7, x36 => if x36 = true then (if 0 < (x0.length : Int) then ((spec_l1In.f ((rd_T104 x0 0).f1) 0 9999).bind fun t178 => (if t178 = true then (some 0) else (some 3))) else (none)) else (if x7 = 5 then (if 0 < (x0.length : Int) then ((spec_l1In.f ((rd_T104 x0 0).f1) 0 400).bind fun t180 => (if t180 = true then (some 0) else (some 3))) else (none)) else (if x7 = 6 then (spec_l12Value.j1 k x0 x3 x7 (x7 == 6)) else (spec_l12Value.j1 k x0 x3 x7 (x7 == 7))))
def spec_l12Value.j1 : Nat → List (S104) → Bool → Int → Bool → Option (Int)
 | 0, _, _, _, _ => none
 | k + 1, x0, x3, x7, x51 => if x51 = true then (if 0 < (x0.length : Int) then ((spec_l12Codes.f k ((rd_T104 x0 0).f2)).bind fun t182 => (if t182 = true then (some 0) else (some 3))) else (none)) else (if x7 = 8 then (if 0 < (x0.length : Int) then ((spec_l11Fault.f k ((rd_T104 x0 0).f3)).bind fun t184 => (some t184)) else (none)) else (if x3 = true then (some 0) else (some 3)))
end
def spec_l12Value.f (k : Nat) (l0 : List (S104)) : Option (Int) := if 0 < (l0.length : Int) then (if ((rd_T104 l0 0).f0) = 2 then (if ((rd_T104 l0 0).f1) = 1 then (some 0) else (if ((rd_T104 l0 0).f1) = 2 then (some 0) else (if ((rd_T104 l0 0).f1) = 4 then (some 0) else (if (((rd_T104 l0 0).f1) = 8) then (some 0) else (some 3))))) else (if ((rd_T104 l0 0).f0) = 3 then (spec_l12Value.j0 k l0 true ((rd_T104 l0 0).f0) (((rd_T104 l0 0).f0) == 3)) else (spec_l12Value.j0 k l0 true ((rd_T104 l0 0).f0) (((rd_T104 l0 0).f0) == 4)))) else (none)
set_option maxHeartbeats 8000000 in
set_option maxRecDepth 100000 in
theorem spec_l12Value.calls (k : Nat) (A0 : Option Addr) (c0 : Nat) (l0 : List (S104)) (r : Int) (w : World) (hr0 : Kd.C k104 w A0 l0.length l0) (hc0 : l0.length ≤ c0) (h : spec_l12Value.f k l0 = some r) :
 Calls Try.prog 125 #[.pointer A0] w fun e w' => e = .returned (.int .i64 r) ∧ Drawn0 w w' := by
 have HR0 := Aside0.mk hr0
 have HC0 := Aside0.mk hc0
 clear hr0 hc0
 have H : (if 0 < (l0.length : Int) then (if ((rd_T104 l0 0).f0) = 2 then (if ((rd_T104 l0 0).f1) = 1 then (some 0) else (if ((rd_T104 l0 0).f1) = 2 then (some 0) else (if ((rd_T104 l0 0).f1) = 4 then (some 0) else (if (((rd_T104 l0 0).f1) = 8) then (some 0) else (some 3))))) else (if ((rd_T104 l0 0).f0) = 3 then (spec_l12Value.j0 k l0 true ((rd_T104 l0 0).f0) (((rd_T104 l0 0).f0) == 3)) else (spec_l12Value.j0 k l0 true ((rd_T104 l0 0).f0) (((rd_T104 l0 0).f0) == 4)))) else (none)) = some r := h
 clear h
 by_cases c2 : 0 < (l0.length : Int)
 ·
  rw [if_pos c2] at H
  have c2b0 : decide (0 < (l0.length : Int)) = true := decide_eq_true c2
  have c2b1 : decide (0 < l0.length) = true := decide_eq_true (by omega)
  clear c2
  have p175 : 0 ≤ (0 : Int) := (by omega)
  have q175 : 0 < (l0.length : Int) := od_
  obtain ⟨ad175, A175_2, c175_2, A175_3, c175_3, e175, hx175_0, hx175_1, hx175_2, hx175_3, hx175_4, hx175_5, hl175_2, hi175_2, hl175_3, hi175_3⟩ := at_T104 HR0.out 0 p175 q175
  cases e175
  have qi175 : (0 < l0.length) = True := eq_true (by omega)
  (try simp only [Int.toNat_zero, Nat.zero_mul, Addr.add_zero'] at hx175_0 hx175_1 hx175_2 hx175_3 hx175_4 hx175_5)
  have HR175_2 := Aside0.mk hi175_2
  have HC175_2 := Aside0.mk hl175_2
  clear hi175_2 hl175_2
  have HR175_3 := Aside0.mk hi175_3
  have HC175_3 := Aside0.mk hl175_3
  clear hi175_3 hl175_3
  replace p175 := eq_true p175
  replace q175 := eq_true q175
  by_cases c3 : ((rd_T104 l0 0).f0) = 2
  ·
   rw [if_pos c3] at H
   have c3b0 : (((rd_T104 l0 0).f0) == 2) = true := beq_iff_eq.mpr c3
   have c3b1 : (((rd_T104 l0 0).f0) != 2) = false := bne_eq_false_iff_eq.mpr c3
   clear c3
   (try simp only [c3b0, c3b1])
   have p176 : 0 ≤ (0 : Int) := (by omega)
   have q176 : 0 < (l0.length : Int) := od_
   obtain ⟨ad176, A176_2, c176_2, A176_3, c176_3, e176, hx176_0, hx176_1, hx176_2, hx176_3, hx176_4, hx176_5, hl176_2, hi176_2, hl176_3, hi176_3⟩ := at_T104 HR0.out 0 p176 q176
   obtain rfl : ad175 = ad176 := (by injection e176)
   have qi176 : (0 < l0.length) = True := eq_true (by omega)
   (try simp only [Int.toNat_zero, Nat.zero_mul, Addr.add_zero'] at hx176_0 hx176_1 hx176_2 hx176_3 hx176_4 hx176_5)
   have HR176_2 := Aside0.mk hi176_2
   have HC176_2 := Aside0.mk hl176_2
   clear hi176_2 hl176_2
   have HR176_3 := Aside0.mk hi176_3
   have HC176_3 := Aside0.mk hl176_3
   clear hi176_3 hl176_3
   replace p176 := eq_true p176
   replace q176 := eq_true q176
   have ea_ := Option.some.inj (hx175_2.symm.trans hx176_2)
   injection ea_ with ea_ en_ ec_
   subst ea_
   subst ec_
   clear en_
   have ea_ := Option.some.inj (hx175_3.symm.trans hx176_3)
   injection ea_ with ea_ en_ ec_
   subst ea_
   subst ec_
   clear en_
   (try clear hx176_0)
   (try clear hx176_1)
   (try clear hx176_2)
   (try clear hx176_3)
   (try clear hx176_4)
   (try clear hx176_5)
   (try clear qi176)
   go_enter Try.func125, Try.ntmps125
   by_cases c4 : ((rd_T104 l0 0).f1) = 1
   ·
    rw [if_pos c4] at H
    have c4b0 : (((rd_T104 l0 0).f1) == 1) = true := beq_iff_eq.mpr c4
    have c4b1 : (((rd_T104 l0 0).f1) != 1) = false := bne_eq_false_iff_eq.mpr c4
    clear c4
    obtain rfl := Option.some.inj H
    (try simp only [c4b0, c4b1])
    go_wp2
    go_ret
    exact ⟨vl_, dr_⟩
   ·
    rw [if_neg c4] at H
    have c4b0 : (((rd_T104 l0 0).f1) == 1) = false := beq_eq_false_iff_ne.mpr c4
    have c4b1 : (((rd_T104 l0 0).f1) != 1) = true := bne_iff_ne.mpr c4
    (try simp only [c4b0, c4b1])
    by_cases c5 : ((rd_T104 l0 0).f1) = 2
    ·
     rw [if_pos c5] at H
     have c5b0 : (((rd_T104 l0 0).f1) == 2) = true := beq_iff_eq.mpr c5
     have c5b1 : (((rd_T104 l0 0).f1) != 2) = false := bne_eq_false_iff_eq.mpr c5
     clear c5
     obtain rfl := Option.some.inj H
     (try simp only [c5b0, c5b1])
     go_wp2
     go_ret
     exact ⟨vl_, dr_⟩
    ·
     rw [if_neg c5] at H
     have c5b0 : (((rd_T104 l0 0).f1) == 2) = false := beq_eq_false_iff_ne.mpr c5
     have c5b1 : (((rd_T104 l0 0).f1) != 2) = true := bne_iff_ne.mpr c5
     (try simp only [c5b0, c5b1])
     by_cases c6 : ((rd_T104 l0 0).f1) = 4
     ·
      rw [if_pos c6] at H
      have c6b0 : (((rd_T104 l0 0).f1) == 4) = true := beq_iff_eq.mpr c6
      have c6b1 : (((rd_T104 l0 0).f1) != 4) = false := bne_eq_false_iff_eq.mpr c6
      clear c6
      obtain rfl := Option.some.inj H
      (try simp only [c6b0, c6b1])
      go_wp2
      go_ret
      exact ⟨vl_, dr_⟩
     ·
      rw [if_neg c6] at H
      have c6b0 : (((rd_T104 l0 0).f1) == 4) = false := beq_eq_false_iff_ne.mpr c6
      have c6b1 : (((rd_T104 l0 0).f1) != 4) = true := bne_iff_ne.mpr c6
      (try simp only [c6b0, c6b1])
      by_cases c7 : (((rd_T104 l0 0).f1) = 8)
      ·
       rw [if_pos c7] at H
       have c7b0 : (((rd_T104 l0 0).f1) == 8) = true := beq_iff_eq.mpr c7
       have c7b1 : (((rd_T104 l0 0).f1) != 8) = false := bne_eq_false_iff_eq.mpr c7
       clear c7
       obtain rfl := Option.some.inj H
       (try simp only [c7b0, c7b1])
       go_wp2
       go_ret
       exact ⟨vl_, dr_⟩
      ·
       rw [if_neg c7] at H
       have c7b0 : (((rd_T104 l0 0).f1) == 8) = false := beq_eq_false_iff_ne.mpr c7
       have c7b1 : (((rd_T104 l0 0).f1) != 8) = true := bne_iff_ne.mpr c7
       obtain rfl := Option.some.inj H
       (try simp only [c7b0, c7b1])
       go_wp2
       go_ret
       exact ⟨vl_, dr_⟩
  ·
   rw [if_neg c3] at H
   have c3b0 : (((rd_T104 l0 0).f0) == 2) = false := beq_eq_false_iff_ne.mpr c3
   have c3b1 : (((rd_T104 l0 0).f0) != 2) = true := bne_iff_ne.mpr c3
   have HC8 := Aside0.mk H
   clear H
   (try simp only [c3b0, c3b1])
   go_enter Try.func125, Try.ntmps125
   go_upto_if 36 with (fail)
   go_cut [36] (fun v36 wc => ∃ (kq : Nat) (x36_7 : Bool), v36 = .bool x36_7 ∧ Aside0 (spec_l12Value.j0 kq l0 true ((rd_T104 l0 0).f0) x36_7 = some r) ∧ Aside0 (kq ≤ k) ∧ Drawn0 w wc)
   case first =>
    have H := HC8.out
    clear HC8
    by_cases c9 : ((rd_T104 l0 0).f0) = 3
    ·
     rw [if_pos c9] at H
     have c9b0 : (((rd_T104 l0 0).f0) == 3) = true := beq_iff_eq.mpr c9
     have c9b1 : (((rd_T104 l0 0).f0) != 3) = false := bne_eq_false_iff_eq.mpr c9
     clear c9
     (first | rw [c9b0] | (simp only [i64_w, i32_w]; rw [c9b0]) | skip)
     have H' := Aside0.mk H
     clear H
     go_wp2
     go_meet
     case rel => exact ⟨_, ((((rd_T104 l0 0).f0) == 3)), vl_, H', ⟨le_⟩, dr_⟩
    ·
     rw [if_neg c9] at H
     have c9b0 : (((rd_T104 l0 0).f0) == 3) = false := beq_eq_false_iff_ne.mpr c9
     have c9b1 : (((rd_T104 l0 0).f0) != 3) = true := bne_iff_ne.mpr c9
     (first | rw [c9b0] | (simp only [i64_w, i32_w]; rw [c9b0]) | skip)
     have H' := Aside0.mk H
     clear H
     go_wp2
     go_meet
     case rel => exact ⟨_, ((((rd_T104 l0 0).f0) == 4)), vl_, H', ⟨le_⟩, dr_⟩
   case rest =>
    clear HC8
    try clear q1
    try clear hx1
    try clear qi1
    try clear c2
    try clear c2b0
    try clear c2b1
    try clear c3
    try clear c3b0
    try clear c3b1
    try clear hx175_0
    try clear hx175_1
    try clear hx175_2
    try clear hx175_3
    try clear hx175_4
    try clear hx175_5
    try clear hx176_0
    try clear hx176_1
    try clear hx176_2
    try clear hx176_3
    try clear hx176_4
    try clear hx176_5
    try clear p175
    try clear q175
    try clear q176
    obtain ⟨kq, x36_7, rfl, HA, HJ7, ⟨mc7, rfl⟩⟩ := hcut
    cases kq with
    | zero => exact absurd HA.out (by simp [spec_l12Value.j0])
    | succ kj7 =>
      have H := HA.out
      clear HA
      simp only [spec_l12Value.j0] at H
      by_cases c10 : x36_7 = true
      ·
       subst c10
       (try rw [if_pos rfl] at H)
       by_cases c11 : 0 < (l0.length : Int)
       case neg => rw [if_neg c11] at H; exact absurd H (by simp)
       rw [if_pos c11] at H
       have c11b0 : decide (0 < (l0.length : Int)) = true := decide_eq_true c11
       have c11b1 : decide (0 < l0.length) = true := decide_eq_true (by omega)
       clear c11
       replace H := Option.bind_eq_some_iff.mp H
       obtain ⟨t178, A120, H⟩ := H
       replace H : (if t178 = true then (some 0) else (some 3)) = some r := H
       have A12 := Aside0.mk A120
       clear A120
       have p177 : 0 ≤ (0 : Int) := (by omega)
       have q177 : 0 < (l0.length : Int) := od_
       obtain ⟨ad177, A177_2, c177_2, A177_3, c177_3, e177, hx177_0, hx177_1, hx177_2, hx177_3, hx177_4, hx177_5, hl177_2, hi177_2, hl177_3, hi177_3⟩ := at_T104 HR0.out 0 p177 q177
       obtain rfl : ad175 = ad177 := (by injection e177)
       have qi177 : (0 < l0.length) = True := eq_true (by omega)
       (try simp only [Int.toNat_zero, Nat.zero_mul, Addr.add_zero'] at hx177_0 hx177_1 hx177_2 hx177_3 hx177_4 hx177_5)
       have HR177_2 := Aside0.mk hi177_2
       have HC177_2 := Aside0.mk hl177_2
       clear hi177_2 hl177_2
       have HR177_3 := Aside0.mk hi177_3
       have HC177_3 := Aside0.mk hl177_3
       clear hi177_3 hl177_3
       replace p177 := eq_true p177
       replace q177 := eq_true q177
       by_cases c13 : t178 = true
       ·
        subst c13
        (try rw [if_pos rfl] at H)
        obtain rfl := Option.some.inj H
        (try clear hx175_0 hx175_1 hx175_2 hx175_3 hx175_4 hx175_5)
        (try clear hx175_0 hx175_1 hx175_2 hx175_3 hx175_4 hx175_5)
        (try clear hx175_0 hx175_1 hx175_2 hx175_3 hx175_4 hx175_5)
        (try clear hx175_0 hx175_1 hx175_2 hx175_3 hx175_4 hx175_5)
        (try clear hx175_0 hx175_1 hx175_2 hx175_3 hx175_4 hx175_5)
        (try clear hx175_0 hx175_1 hx175_2 hx175_3 hx175_4 hx175_5)
        go_wp2_with (first | ((with_reducible refine gate_callee (f := 112) rfl ?_); refine goesY_ (some 43) Try.func112 #[.int .i64 ((rd_T104 l0 0).f1), .int .i64 0, .int .i64 9999] rfl ?_; (with_reducible refine (spec_l1In.calls ((rd_T104 l0 0).f1) 0 9999 true _ A12.out).mono ?_); rintro e w' ⟨rfl, ⟨nd, rfl⟩⟩; refine ⟨_, rfl, ?_⟩))
        go_ret
        exact ⟨vl_, dr_⟩
       ·
        replace c13 := Bool.eq_false_iff.mpr c13
        subst c13
        (try rw [if_neg (show ¬ (false = true) by decide)] at H)
        obtain rfl := Option.some.inj H
        (try clear hx175_0 hx175_1 hx175_2 hx175_3 hx175_4 hx175_5)
        (try clear hx175_0 hx175_1 hx175_2 hx175_3 hx175_4 hx175_5)
        (try clear hx175_0 hx175_1 hx175_2 hx175_3 hx175_4 hx175_5)
        (try clear hx175_0 hx175_1 hx175_2 hx175_3 hx175_4 hx175_5)
        (try clear hx175_0 hx175_1 hx175_2 hx175_3 hx175_4 hx175_5)
        (try clear hx175_0 hx175_1 hx175_2 hx175_3 hx175_4 hx175_5)
        go_wp2_with (first | ((with_reducible refine gate_callee (f := 112) rfl ?_); refine goesY_ (some 43) Try.func112 #[.int .i64 ((rd_T104 l0 0).f1), .int .i64 0, .int .i64 9999] rfl ?_; (with_reducible refine (spec_l1In.calls ((rd_T104 l0 0).f1) 0 9999 false _ A12.out).mono ?_); rintro e w' ⟨rfl, ⟨nd, rfl⟩⟩; refine ⟨_, rfl, ?_⟩))
        go_ret
        exact ⟨vl_, dr_⟩
      ·
       replace c10 := Bool.eq_false_iff.mpr c10
       subst c10
       (try rw [if_neg (show ¬ (false = true) by decide)] at H)
       by_cases c14 : ((rd_T104 l0 0).f0) = 5
       ·
        rw [if_pos c14] at H
        have c14b0 : (((rd_T104 l0 0).f0) == 5) = true := beq_iff_eq.mpr c14
        have c14b1 : (((rd_T104 l0 0).f0) != 5) = false := bne_eq_false_iff_eq.mpr c14
        clear c14
        by_cases c15 : 0 < (l0.length : Int)
        case neg => rw [if_neg c15] at H; exact absurd H (by simp)
        rw [if_pos c15] at H
        have c15b0 : decide (0 < (l0.length : Int)) = true := decide_eq_true c15
        have c15b1 : decide (0 < l0.length) = true := decide_eq_true (by omega)
        clear c15
        replace H := Option.bind_eq_some_iff.mp H
        obtain ⟨t180, A160, H⟩ := H
        replace H : (if t180 = true then (some 0) else (some 3)) = some r := H
        have A16 := Aside0.mk A160
        clear A160
        have p179 : 0 ≤ (0 : Int) := (by omega)
        have q179 : 0 < (l0.length : Int) := od_
        obtain ⟨ad179, A179_2, c179_2, A179_3, c179_3, e179, hx179_0, hx179_1, hx179_2, hx179_3, hx179_4, hx179_5, hl179_2, hi179_2, hl179_3, hi179_3⟩ := at_T104 HR0.out 0 p179 q179
        obtain rfl : ad175 = ad179 := (by injection e179)
        have qi179 : (0 < l0.length) = True := eq_true (by omega)
        (try simp only [Int.toNat_zero, Nat.zero_mul, Addr.add_zero'] at hx179_0 hx179_1 hx179_2 hx179_3 hx179_4 hx179_5)
        have HR179_2 := Aside0.mk hi179_2
        have HC179_2 := Aside0.mk hl179_2
        clear hi179_2 hl179_2
        have HR179_3 := Aside0.mk hi179_3
        have HC179_3 := Aside0.mk hl179_3
        clear hi179_3 hl179_3
        replace p179 := eq_true p179
        replace q179 := eq_true q179
        by_cases c17 : t180 = true
        ·
         subst c17
         (try rw [if_pos rfl] at H)
         obtain rfl := Option.some.inj H
         (try clear hx175_0 hx175_1 hx175_2 hx175_3 hx175_4 hx175_5)
         (try clear hx175_0 hx175_1 hx175_2 hx175_3 hx175_4 hx175_5)
         (try clear hx175_0 hx175_1 hx175_2 hx175_3 hx175_4 hx175_5)
         (try clear hx175_0 hx175_1 hx175_2 hx175_3 hx175_4 hx175_5)
         (try clear hx175_0 hx175_1 hx175_2 hx175_3 hx175_4 hx175_5)
         (try clear hx175_0 hx175_1 hx175_2 hx175_3 hx175_4 hx175_5)
         (try clear hx177_0 hx177_1 hx177_2 hx177_3 hx177_4 hx177_5)
         (try clear hx177_0 hx177_1 hx177_2 hx177_3 hx177_4 hx177_5)
         go_wp2_with (first | ((with_reducible refine gate_callee (f := 112) rfl ?_); refine goesY_ (some 50) Try.func112 #[.int .i64 ((rd_T104 l0 0).f1), .int .i64 0, .int .i64 400] rfl ?_; (with_reducible refine (spec_l1In.calls ((rd_T104 l0 0).f1) 0 400 true _ A16.out).mono ?_); rintro e w' ⟨rfl, ⟨nd, rfl⟩⟩; refine ⟨_, rfl, ?_⟩))
         go_ret
         exact ⟨vl_, dr_⟩
        ·
         replace c17 := Bool.eq_false_iff.mpr c17
         subst c17
         (try rw [if_neg (show ¬ (false = true) by decide)] at H)
         obtain rfl := Option.some.inj H
         (try clear hx175_0 hx175_1 hx175_2 hx175_3 hx175_4 hx175_5)
         (try clear hx175_0 hx175_1 hx175_2 hx175_3 hx175_4 hx175_5)
         (try clear hx175_0 hx175_1 hx175_2 hx175_3 hx175_4 hx175_5)
         (try clear hx175_0 hx175_1 hx175_2 hx175_3 hx175_4 hx175_5)
         (try clear hx175_0 hx175_1 hx175_2 hx175_3 hx175_4 hx175_5)
         (try clear hx175_0 hx175_1 hx175_2 hx175_3 hx175_4 hx175_5)
         (try clear hx177_0 hx177_1 hx177_2 hx177_3 hx177_4 hx177_5)
         (try clear hx177_0 hx177_1 hx177_2 hx177_3 hx177_4 hx177_5)
         go_wp2_with (first | ((with_reducible refine gate_callee (f := 112) rfl ?_); refine goesY_ (some 50) Try.func112 #[.int .i64 ((rd_T104 l0 0).f1), .int .i64 0, .int .i64 400] rfl ?_; (with_reducible refine (spec_l1In.calls ((rd_T104 l0 0).f1) 0 400 false _ A16.out).mono ?_); rintro e w' ⟨rfl, ⟨nd, rfl⟩⟩; refine ⟨_, rfl, ?_⟩))
         go_ret
         exact ⟨vl_, dr_⟩
       ·
        rw [if_neg c14] at H
        have c14b0 : (((rd_T104 l0 0).f0) == 5) = false := beq_eq_false_iff_ne.mpr c14
        have c14b1 : (((rd_T104 l0 0).f0) != 5) = true := bne_iff_ne.mpr c14
        have HC18 := Aside0.mk H
        clear H
        go_upto_if 51 with (fail)
        go_cut [51] (fun v51 wc => ∃ (kq : Nat) (x51_17 : Bool), v51 = .bool x51_17 ∧ Aside0 (spec_l12Value.j1 kq l0 true ((rd_T104 l0 0).f0) x51_17 = some r) ∧ Aside0 (kq ≤ kj7) ∧ Drawn0 w wc)
        case first =>
         have H := HC18.out
         clear HC18
         by_cases c19 : ((rd_T104 l0 0).f0) = 6
         ·
          rw [if_pos c19] at H
          have c19b0 : (((rd_T104 l0 0).f0) == 6) = true := beq_iff_eq.mpr c19
          have c19b1 : (((rd_T104 l0 0).f0) != 6) = false := bne_eq_false_iff_eq.mpr c19
          clear c19
          (first | rw [c19b0] | (simp only [i64_w, i32_w]; rw [c19b0]) | skip)
          have H' := Aside0.mk H
          clear H
          go_wp2
          go_meet
          case rel => exact ⟨_, ((((rd_T104 l0 0).f0) == 6)), vl_, H', ⟨by have := HJ7.out; first | omega | exact Nat.le_refl _⟩, dr_⟩
         ·
          rw [if_neg c19] at H
          have c19b0 : (((rd_T104 l0 0).f0) == 6) = false := beq_eq_false_iff_ne.mpr c19
          have c19b1 : (((rd_T104 l0 0).f0) != 6) = true := bne_iff_ne.mpr c19
          (first | rw [c19b0] | (simp only [i64_w, i32_w]; rw [c19b0]) | skip)
          have H' := Aside0.mk H
          clear H
          go_wp2
          go_meet
          case rel => exact ⟨_, ((((rd_T104 l0 0).f0) == 7)), vl_, H', ⟨by have := HJ7.out; first | omega | exact Nat.le_refl _⟩, dr_⟩
        case rest =>
         clear HC18
         try clear q1
         try clear hx1
         try clear qi1
         try clear c2
         try clear c2b0
         try clear c2b1
         try clear c3
         try clear c3b0
         try clear c3b1
         try clear c10
         try clear c14
         try clear c14b0
         try clear c14b1
         try clear q17
         try clear hx17
         try clear qi17
         try clear hx175_0
         try clear hx175_1
         try clear hx175_2
         try clear hx175_3
         try clear hx175_4
         try clear hx175_5
         try clear hx176_0
         try clear hx176_1
         try clear hx176_2
         try clear hx176_3
         try clear hx176_4
         try clear hx176_5
         try clear hx177_0
         try clear hx177_1
         try clear hx177_2
         try clear hx177_3
         try clear hx177_4
         try clear hx177_5
         try clear hx179_0
         try clear hx179_1
         try clear hx179_2
         try clear hx179_3
         try clear hx179_4
         try clear hx179_5
         try clear p175
         try clear q1
         try clear q175
         try clear q176
         try clear q177
         try clear q179
         obtain ⟨kq, x51_17, rfl, HA, HJ17, ⟨mc17, rfl⟩⟩ := hcut
         cases kq with
         | zero => exact absurd HA.out (by simp [spec_l12Value.j1])
         | succ kj17 =>
           have H := HA.out
           clear HA
           simp only [spec_l12Value.j1] at H
           by_cases c20 : x51_17 = true
           ·
            subst c20
            (try rw [if_pos rfl] at H)
            by_cases c21 : 0 < (l0.length : Int)
            case neg => rw [if_neg c21] at H; exact absurd H (by simp)
            rw [if_pos c21] at H
            have c21b0 : decide (0 < (l0.length : Int)) = true := decide_eq_true c21
            have c21b1 : decide (0 < l0.length) = true := decide_eq_true (by omega)
            clear c21
            replace H := Option.bind_eq_some_iff.mp H
            obtain ⟨t182, A220, H⟩ := H
            replace H : (if t182 = true then (some 0) else (some 3)) = some r := H
            have A22 := Aside0.mk A220
            clear A220
            have p181 : 0 ≤ (0 : Int) := (by omega)
            have q181 : 0 < (l0.length : Int) := od_
            obtain ⟨ad181, A181_2, c181_2, A181_3, c181_3, e181, hx181_0, hx181_1, hx181_2, hx181_3, hx181_4, hx181_5, hl181_2, hi181_2, hl181_3, hi181_3⟩ := at_T104 HR0.out 0 p181 q181
            obtain rfl : ad175 = ad181 := (by injection e181)
            have qi181 : (0 < l0.length) = True := eq_true (by omega)
            (try simp only [Int.toNat_zero, Nat.zero_mul, Addr.add_zero'] at hx181_0 hx181_1 hx181_2 hx181_3 hx181_4 hx181_5)
            have HR181_2 := Aside0.mk hi181_2
            have HC181_2 := Aside0.mk hl181_2
            clear hi181_2 hl181_2
            have HR181_3 := Aside0.mk hi181_3
            have HC181_3 := Aside0.mk hl181_3
            clear hi181_3 hl181_3
            replace p181 := eq_true p181
            replace q181 := eq_true q181
            by_cases c23 : t182 = true
            ·
             subst c23
             (try rw [if_pos rfl] at H)
             obtain rfl := Option.some.inj H
             (try clear hx175_0 hx175_1 hx175_2 hx175_3 hx175_4 hx175_5)
             (try clear hx175_0 hx175_1 hx175_2 hx175_3 hx175_4 hx175_5)
             (try clear hx175_0 hx175_1 hx175_2 hx175_3 hx175_4 hx175_5)
             (try clear hx175_0 hx175_1 hx175_2 hx175_3 hx175_4 hx175_5)
             (try clear hx175_0 hx175_1 hx175_2 hx175_3 hx175_4 hx175_5)
             (try clear hx175_0 hx175_1 hx175_2 hx175_3 hx175_4 hx175_5)
             (try clear hx177_0 hx177_1 hx177_2 hx177_3 hx177_4 hx177_5)
             (try clear hx177_0 hx177_1 hx177_2 hx177_3 hx177_4 hx177_5)
             (try clear hx179_0 hx179_1 hx179_2 hx179_3 hx179_4 hx179_5)
             (try clear hx179_0 hx179_1 hx179_2 hx179_3 hx179_4 hx179_5)
             go_wp2_with (first | ((with_reducible refine gate_callee (f := 145) rfl ?_); refine goesY_ (some 58) Try.func145 #[.slice A181_2 ((rd_T104 l0 0).f2).length c181_2] rfl ?_; (with_reducible refine (spec_l12Codes.calls kj17 _ _ ((rd_T104 l0 0).f2) true _ ?_ ?_ A22.out).mono ?_); exact C_up HR181_2.out; exact HC181_2.out; rintro e w' ⟨rfl, ⟨nd, rfl⟩⟩; refine ⟨_, rfl, ?_⟩))
             go_ret
             exact ⟨vl_, dr_⟩
            ·
             replace c23 := Bool.eq_false_iff.mpr c23
             subst c23
             (try rw [if_neg (show ¬ (false = true) by decide)] at H)
             obtain rfl := Option.some.inj H
             (try clear hx175_0 hx175_1 hx175_2 hx175_3 hx175_4 hx175_5)
             (try clear hx175_0 hx175_1 hx175_2 hx175_3 hx175_4 hx175_5)
             (try clear hx175_0 hx175_1 hx175_2 hx175_3 hx175_4 hx175_5)
             (try clear hx175_0 hx175_1 hx175_2 hx175_3 hx175_4 hx175_5)
             (try clear hx175_0 hx175_1 hx175_2 hx175_3 hx175_4 hx175_5)
             (try clear hx175_0 hx175_1 hx175_2 hx175_3 hx175_4 hx175_5)
             (try clear hx177_0 hx177_1 hx177_2 hx177_3 hx177_4 hx177_5)
             (try clear hx177_0 hx177_1 hx177_2 hx177_3 hx177_4 hx177_5)
             (try clear hx179_0 hx179_1 hx179_2 hx179_3 hx179_4 hx179_5)
             (try clear hx179_0 hx179_1 hx179_2 hx179_3 hx179_4 hx179_5)
             go_wp2_with (first | ((with_reducible refine gate_callee (f := 145) rfl ?_); refine goesY_ (some 58) Try.func145 #[.slice A181_2 ((rd_T104 l0 0).f2).length c181_2] rfl ?_; (with_reducible refine (spec_l12Codes.calls kj17 _ _ ((rd_T104 l0 0).f2) false _ ?_ ?_ A22.out).mono ?_); exact C_up HR181_2.out; exact HC181_2.out; rintro e w' ⟨rfl, ⟨nd, rfl⟩⟩; refine ⟨_, rfl, ?_⟩))
             go_ret
             exact ⟨vl_, dr_⟩
           ·
            replace c20 := Bool.eq_false_iff.mpr c20
            subst c20
            (try rw [if_neg (show ¬ (false = true) by decide)] at H)
            by_cases c24 : ((rd_T104 l0 0).f0) = 8
            ·
             rw [if_pos c24] at H
             have c24b0 : (((rd_T104 l0 0).f0) == 8) = true := beq_iff_eq.mpr c24
             have c24b1 : (((rd_T104 l0 0).f0) != 8) = false := bne_eq_false_iff_eq.mpr c24
             clear c24
             by_cases c25 : 0 < (l0.length : Int)
             case neg => rw [if_neg c25] at H; exact absurd H (by simp)
             rw [if_pos c25] at H
             have c25b0 : decide (0 < (l0.length : Int)) = true := decide_eq_true c25
             have c25b1 : decide (0 < l0.length) = true := decide_eq_true (by omega)
             clear c25
             replace H := Option.bind_eq_some_iff.mp H
             obtain ⟨t184, A260, H⟩ := H
             replace H : (some t184) = some r := H
             have A26 := Aside0.mk A260
             clear A260
             obtain rfl := Option.some.inj H
             have p183 : 0 ≤ (0 : Int) := (by omega)
             have q183 : 0 < (l0.length : Int) := od_
             obtain ⟨ad183, A183_2, c183_2, A183_3, c183_3, e183, hx183_0, hx183_1, hx183_2, hx183_3, hx183_4, hx183_5, hl183_2, hi183_2, hl183_3, hi183_3⟩ := at_T104 HR0.out 0 p183 q183
             obtain rfl : ad175 = ad183 := (by injection e183)
             have qi183 : (0 < l0.length) = True := eq_true (by omega)
             (try simp only [Int.toNat_zero, Nat.zero_mul, Addr.add_zero'] at hx183_0 hx183_1 hx183_2 hx183_3 hx183_4 hx183_5)
             have HR183_2 := Aside0.mk hi183_2
             have HC183_2 := Aside0.mk hl183_2
             clear hi183_2 hl183_2
             have HR183_3 := Aside0.mk hi183_3
             have HC183_3 := Aside0.mk hl183_3
             clear hi183_3 hl183_3
             replace p183 := eq_true p183
             replace q183 := eq_true q183
             (try clear hx175_0 hx175_1 hx175_2 hx175_3 hx175_4 hx175_5)
             (try clear hx175_0 hx175_1 hx175_2 hx175_3 hx175_4 hx175_5)
             (try clear hx175_0 hx175_1 hx175_2 hx175_3 hx175_4 hx175_5)
             (try clear hx175_0 hx175_1 hx175_2 hx175_3 hx175_4 hx175_5)
             (try clear hx175_0 hx175_1 hx175_2 hx175_3 hx175_4 hx175_5)
             (try clear hx175_0 hx175_1 hx175_2 hx175_3 hx175_4 hx175_5)
             (try clear hx177_0 hx177_1 hx177_2 hx177_3 hx177_4 hx177_5)
             (try clear hx177_0 hx177_1 hx177_2 hx177_3 hx177_4 hx177_5)
             (try clear hx179_0 hx179_1 hx179_2 hx179_3 hx179_4 hx179_5)
             (try clear hx179_0 hx179_1 hx179_2 hx179_3 hx179_4 hx179_5)
             (try clear hx181_0 hx181_1 hx181_2 hx181_3 hx181_4 hx181_5)
             (try clear hx181_0 hx181_1 hx181_2 hx181_3 hx181_4 hx181_5)
             go_wp2_with (first | ((with_reducible refine gate_callee (f := 73) rfl ?_); refine goesY_ (some 65) Try.func73 #[.slice A183_3 ((rd_T104 l0 0).f3).length c183_3] rfl ?_; (with_reducible refine (spec_l11Fault.calls kj17 _ _ ((rd_T104 l0 0).f3) t184 _ ?_ ?_ A26.out).mono ?_); exact C_up HR183_3.out; exact HC183_3.out; rintro e w' ⟨rfl, ⟨nd, rfl⟩⟩; refine ⟨_, rfl, ?_⟩))
             go_ret
             exact ⟨vl_, dr_⟩
            ·
             rw [if_neg c24] at H
             have c24b0 : (((rd_T104 l0 0).f0) == 8) = false := beq_eq_false_iff_ne.mpr c24
             have c24b1 : (((rd_T104 l0 0).f0) != 8) = true := bne_iff_ne.mpr c24
             by_cases c27 : true = true
             ·
              clear c27
              (try rw [if_pos rfl] at H)
              obtain rfl := Option.some.inj H
              go_wp2
              go_ret
              exact ⟨vl_, dr_⟩
             · exact absurd rfl c27
 · rw [if_neg c2] at H
   exact absurd H (by simp)

/-! ### spec_l12First: function 127 -/
def spec_l12First.f : Nat → List (S104) → Int → Option (Int)
 | 0, _, _ => none
 | k + 1, l0, a1 => if 0 ≤ a1 then (if a1 < (l0.length : Int) then (if ((rd_T104 l0 a1).f0) ≥ 9 then ((spec_l12First.f k l0 ((rd_T104 l0 a1).f4)).bind fun t187 => (some t187)) else (some a1)) else (none)) else (none)
set_option maxHeartbeats 8000000 in
set_option maxRecDepth 100000 in
theorem spec_l12First.calls (k : Nat) : ∀ (A0 : Option Addr) (c0 : Nat) (l0 : List (S104)) (a1 : Int) (r : Int) (w : World) (hr0 : Kd.C k104 w A0 l0.length l0) (hc0 : l0.length ≤ c0) (h : spec_l12First.f k l0 a1 = some r),
 Calls Try.prog 127 #[.slice A0 l0.length c0, .int .i64 a1] w fun e w' => e = .returned (.int .i64 r) ∧ Below w.heap.size w w' := by
 induction k using Nat.strongRecOn with
 | _ k ih =>
 intro A0 c0 l0 a1 r w hr0 hc0 h
 cases k with
 | zero => exact absurd h (by simp [spec_l12First.f])
 | succ k =>
 simp only [spec_l12First.f] at h
 have HR0 := Aside0.mk hr0
 have HC0 := Aside0.mk hc0
 clear hr0 hc0
 have HB := Aside0.mk (Below.refl w.heap.size w)
 have H : (if 0 ≤ a1 then (if a1 < (l0.length : Int) then (if ((rd_T104 l0 a1).f0) ≥ 9 then ((spec_l12First.f k l0 ((rd_T104 l0 a1).f4)).bind fun t187 => (some t187)) else (some a1)) else (none)) else (none)) = some r := h
 clear h
 by_cases c3 : 0 ≤ a1
 ·
  rw [if_pos c3] at H
  have c3b0 : decide (0 ≤ a1) = true := decide_eq_true c3
  clear c3
  by_cases c4 : a1 < (l0.length : Int)
  ·
   rw [if_pos c4] at H
   have c4b0 : decide (a1 < (l0.length : Int)) = true := decide_eq_true c4
   clear c4
   have p185 : 0 ≤ (a1 : Int) := od_
   have q185 : a1 < (l0.length : Int) := od_
   obtain ⟨ad185, A185_2, c185_2, A185_3, c185_3, e185, hx185_0, hx185_1, hx185_2, hx185_3, hx185_4, hx185_5, hl185_2, hi185_2, hl185_3, hi185_3⟩ := at_T104 HR0.out a1 p185 q185
   cases e185
   have HR185_2 := Aside0.mk hi185_2
   have HC185_2 := Aside0.mk hl185_2
   clear hi185_2 hl185_2
   have HR185_3 := Aside0.mk hi185_3
   have HC185_3 := Aside0.mk hl185_3
   clear hi185_3 hl185_3
   replace p185 := eq_true p185
   replace q185 := eq_true q185
   by_cases c5 : ((rd_T104 l0 a1).f0) ≥ 9
   ·
    rw [if_pos c5] at H
    have c5b0 : decide (9 ≤ ((rd_T104 l0 a1).f0)) = true := decide_eq_true c5
    clear c5
    replace H := Option.bind_eq_some_iff.mp H
    obtain ⟨t187, A60, H⟩ := H
    replace H : (some t187) = some r := H
    have A6 := Aside0.mk A60
    clear A60
    obtain rfl := Option.some.inj H
    go_enter Try.func127, Try.ntmps127
    go_wp2_with (first | ((with_reducible refine gate_callee (f := 127) rfl ?_); refine goesY_ (some 17) Try.func127 #[.slice (some ad185) l0.length c0, .int .i64 ((rd_T104 l0 a1).f4)] rfl ?_; (with_reducible refine (ih k (by omega) _ _ l0 ((rd_T104 l0 a1).f4) t187 _ ?_ ?_ A6.out).mono ?_); exact C_up HR0.out; exact HC0.out; rintro e w7 ⟨rfl, hb⟩; refine ⟨_, rfl, ?_⟩; replace HB := Aside0.mk (below_step (HB_up HB.out) hb); (try clear hb)))
    go_ret
    exact ⟨ve_, hb_⟩
   ·
    rw [if_neg c5] at H
    have c5b0 : decide (9 ≤ ((rd_T104 l0 a1).f0)) = false := decide_eq_false c5
    clear c5
    obtain rfl := Option.some.inj H
    go_enter Try.func127, Try.ntmps127
    go_wp2
    go_ret
    exact ⟨ve_, hb_⟩
  · rw [if_neg c4] at H
    exact absurd H (by simp)
 · rw [if_neg c3] at H
   exact absurd H (by simp)

end Go.Proofs.Ytnehephjliankaa.PFnExactCmdFault

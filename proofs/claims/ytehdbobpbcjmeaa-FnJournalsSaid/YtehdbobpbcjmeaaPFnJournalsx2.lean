/- Functions of the program, each with what its call comes to. Conditions: each theorem's. -/
import Derived.Test.YtehdbobpbcjmeaaVFnJournalsZ
import Derived.Test.YtehdbobpbcjmeaaPFnJournalsx0
import Derived.Test.YtehdbobpbcjmeaaPFnJournalsx1
namespace Go.Proofs.Ytehdbobpbcjmeaa.PFnJournals
open Go.RowKit Go.Proofs.YtehdbobpbcjmeaaW.PrintWords Go.Proofs.YtehdbobpbcjmeaaW.PrintLast Go.Proofs.YtehdbobpbcjmeaaW.PrintMore
attribute [local go_sem] max2_int min2_int max_two min_two max_three min_three max_four min_four   -- for this text's walks alone
set_option linter.unusedVariables false
set_option linter.unusedSimpArgs false
set_option maxHeartbeats 8000000
set_option maxRecDepth 100000

/-! ### spec_l8Fault: function 41 -/
mutual
def spec_l8Fault.j0 : Nat → List (S37) → Bool → Option (Int)
 | 0, _, _ => none
 | k + 1, x0, x26 => if x26 = true then (some 5) else (if 0 < (x0.length : Int) then (if (((rd_T37 x0 0).f3).length : Int) > 6 then (some 2) else ((spec_l8Uids.f k ((rd_T37 x0 0).f3)).bind fun t121 => (if t121 = true then (if ((rd_T37 x0 0).f0) = 4 then ((spec_l1In.f ((rd_T37 x0 0).f4) 1 3).bind fun t122 => (if t122 = true then ((spec_l1In.f ((rd_T37 x0 0).f5) 0 15).bind fun t123 => (if t123 = true then ((spec_l1In.f ((rd_T37 x0 0).f6) 0 9999).bind fun t124 => (spec_l8Fault.j1 k x0 (!t124))) else (spec_l8Fault.j1 k x0 true))) else (spec_l8Fault.j1 k x0 true))) else ((spec_l1In.f ((rd_T37 x0 0).f5) 0 15).bind fun t125 => (if t125 = true then ((spec_l1In.f ((rd_T37 x0 0).f6) 0 9999).bind fun t126 => (spec_l8Fault.j1 k x0 (!t126))) else (spec_l8Fault.j1 k x0 true)))) else (spec_l8Fault.j1 k x0 true)))) else (none))
def spec_l8Fault.j1 : Nat → List (S37) → Bool → Option (Int)
 | 0, _, _ => none
 | k + 1, x0, x69 => if x69 = true then (some 3) else (if 0 < (x0.length : Int) then (if (((rd_T37 x0 0).f7).length : Int) > 400 then (some 2) else (some 0)) else (none))
end
def spec_l8Fault.f (k : Nat) (l0 : List (S37)) : Option (Int) := (spec_l8Form.f k l0).bind fun t114 => (if t114 = true then (if 0 < (l0.length : Int) then ((spec_l7Name.f k ((rd_T37 l0 0).f1)).bind fun t116 => (if t116 = true then ((spec_l8Copies.f ((rd_T37 l0 0).f0)).bind fun t117 => (if t117 = true then ((spec_l7Name.f k ((rd_T37 l0 0).f2)).bind fun t118 => (spec_l8Fault.j0 k l0 (!t118))) else (spec_l8Fault.j0 k l0 false))) else (spec_l8Fault.j0 k l0 true))) else (none)) else (some 1))
theorem spec_l8Fault.calls (k : Nat) (A0 : Option Addr) (c0 : Nat) (l0 : List (S37)) (r : Int) (w : World) (hr0 : Kd.C k37 w A0 l0.length l0) (hc0 : l0.length ≤ c0) (h : spec_l8Fault.f k l0 = some r) :
 Calls Try.prog 41 #[.pointer A0] w fun e w' => e = .returned (.int .i64 r) ∧ Drawn0 w w' := by
 have HR0 := Aside0.mk hr0; have HC0 := Aside0.mk hc0; clear hr0 hc0; have H := h; unfold spec_l8Fault.f at H; clear h; obtain ⟨t114, A2, H⟩ := bd_ H; (try dsimp only at H)
 go_enter Try.func41, Try.ntmps41
 by_cases c3 : t114 = true
 ·
  subst c3; (try rw [if_pos rfl] at H); have HC4 := Aside0.mk H; clear H
  go_upto_region 3 with (first | ((with_reducible refine gate_callee (f := 68) rfl ?_); refine goesY_ (some 4) Try.func68 #[.pointer A0] rfl ?_; (with_reducible refine (spec_l8Form.calls k _ (l0).length l0 true _ ?_ ?_ A2.out).mono ?_); exact C_up HR0.out; exact Nat.le_refl _; rintro e w' ⟨rfl, ⟨nd, rfl⟩⟩; refine ⟨_, rfl, ?_⟩))
  (try simp only [Act.put, List.setIfInBounds_toArray, List.set_cons_zero, List.set_cons_succ])
  go_cut [26] (fun v26 wc => ∃ (kq : Nat) (x26_3 : Bool), v26 = .bool x26_3 ∧ Aside0 (spec_l8Fault.j0 kq l0 x26_3 = some r) ∧ Aside0 (kq ≤ k) ∧ Drawn0 w wc)
  case first =>
   have H := HC4.out; clear HC4; obtain ⟨c5, H⟩ := ifc_ H; have c5b0 : decide (0 < (l0.length : Int)) = true := decide_eq_true c5; have c5b1 : decide (0 < l0.length) = true := decide_eq_true (by omega); clear c5; (first | rw [c5b0] | (simp only [i64_w, i32_w]; rw [c5b0]) | skip); obtain ⟨t116, A6, H⟩ := bd_ H; (try dsimp only at H); (try simp only [c5b0, c5b1]); have p115 : 0 ≤ (0 : Int) := (by omega); have q115 : 0 < (l0.length : Int) := od_; obtain ⟨ad115, A115_3, c115_3, A115_7, c115_7, e115, hx115_0, hx115_1, hx115_2, hx115_3, hx115_4, hx115_5, hx115_6, hx115_7, hl115_3, hi115_3, hl115_7, hi115_7⟩ := at_T37 HR0.out 0 p115 q115
   cases e115
   have qi115 : (0 < l0.length) = True := eq_true (by omega); (try simp only [Int.toNat_zero, Nat.zero_mul, Addr.add_zero'] at hx115_0 hx115_1 hx115_2 hx115_3 hx115_4 hx115_5 hx115_6 hx115_7); have HR115_3 := Aside0.mk hi115_3; have HC115_3 := Aside0.mk hl115_3; clear hi115_3 hl115_3; have HR115_7 := Aside0.mk hi115_7; have HC115_7 := Aside0.mk hl115_7; clear hi115_7 hl115_7; replace p115 := eq_true p115; replace q115 := eq_true q115
   by_cases c7 : t116 = true
   ·
    subst c7; (try rw [if_pos rfl] at H); obtain ⟨t117, A8, H⟩ := bd_ H; (try dsimp only at H)
    by_cases c9 : t117 = true
    ·
     subst c9; (try rw [if_pos rfl] at H); replace H := Option.bind_eq_some_iff.mp H; obtain ⟨t118, A100, H⟩ := H; replace H : (spec_l8Fault.j0 k l0 (!t118)) = some r := H; have A10 := Aside0.mk A100; clear A100; have H' := Aside0.mk H; clear H
     go_wp2_with (first | ((with_reducible refine gate_callee (f := 69) rfl ?_); refine goesY_ (some 10) Try.func69 #[.string ((rd_T37 l0 0).f1)] rfl ?_; (with_reducible refine (spec_l7Name.calls k ((rd_T37 l0 0).f1) true _ A6.out).mono ?_); rintro e w' ⟨rfl, ⟨nd, rfl⟩⟩; refine ⟨_, rfl, ?_⟩) | (go_at_call 70; (with_reducible refine (spec_l8Copies.calls ((rd_T37 l0 0).f0) true _ A8.out).mono ?_); rintro e w' ⟨rfl, ⟨nd, rfl⟩⟩) | (go_at_call 69; (with_reducible refine (spec_l7Name.calls k ((rd_T37 l0 0).f2) t118 _ A10.out).mono ?_); rintro e w' ⟨rfl, ⟨nd, rfl⟩⟩))
     go_meet
     case rel => exact ⟨_, (!t118), vl_, H', ⟨le_⟩, dr_⟩
    ·
     replace c9 := Bool.eq_false_iff.mpr c9; subst c9; (try rw [if_neg (show ¬ (false = true) by decide)] at H); have H' := Aside0.mk H; clear H
     go_wp2_with (first | ((with_reducible refine gate_callee (f := 69) rfl ?_); refine goesY_ (some 10) Try.func69 #[.string ((rd_T37 l0 0).f1)] rfl ?_; (with_reducible refine (spec_l7Name.calls k ((rd_T37 l0 0).f1) true _ A6.out).mono ?_); rintro e w' ⟨rfl, ⟨nd, rfl⟩⟩; refine ⟨_, rfl, ?_⟩) | (go_at_call 70; (with_reducible refine (spec_l8Copies.calls ((rd_T37 l0 0).f0) false _ A8.out).mono ?_); rintro e w' ⟨rfl, ⟨nd, rfl⟩⟩))
     go_meet
     case rel => exact ⟨_, (false), vl_, H', ⟨le_⟩, dr_⟩
   ·
    replace c7 := Bool.eq_false_iff.mpr c7; subst c7; (try rw [if_neg (show ¬ (false = true) by decide)] at H); have H' := Aside0.mk H; clear H
    go_wp2_with (first | ((with_reducible refine gate_callee (f := 69) rfl ?_); refine goesY_ (some 10) Try.func69 #[.string ((rd_T37 l0 0).f1)] rfl ?_; (with_reducible refine (spec_l7Name.calls k ((rd_T37 l0 0).f1) false _ A6.out).mono ?_); rintro e w' ⟨rfl, ⟨nd, rfl⟩⟩; refine ⟨_, rfl, ?_⟩))
    go_meet
    case rel => exact ⟨_, (true), vl_, H', ⟨le_⟩, dr_⟩
  case rest =>
   clear HC4; (try clear q1); (try clear hx1); (try clear qi1); (try clear c3); (try clear hx115_0); (try clear hx115_1); (try clear hx115_2); (try clear hx115_3); (try clear hx115_4); (try clear hx115_5); (try clear hx115_6); (try clear hx115_7); (try clear q115); obtain ⟨kq, x26_3, rfl, HA, HJ3, ⟨mc3, rfl⟩⟩ := hcut
   cases kq with
   | zero => exact absurd HA.out (by simp [spec_l8Fault.j0])
   | succ kj3 =>
     have H := HA.out; clear HA; simp only [spec_l8Fault.j0] at H
     by_cases c11 : x26_3 = true
     ·
      subst c11; (try rw [if_pos rfl] at H); obtain rfl := Option.some.inj H
      go_wp2
      go_ret
      exact ⟨vl_, dr_⟩
     ·
      replace c11 := Bool.eq_false_iff.mpr c11; subst c11; (try rw [if_neg (show ¬ (false = true) by decide)] at H); obtain ⟨c12, H⟩ := ifc_ H; have c12b0 : decide (0 < (l0.length : Int)) = true := decide_eq_true c12; have c12b1 : decide (0 < l0.length) = true := decide_eq_true (by omega); clear c12; (try simp only [c12b0, c12b1]); have p119 : 0 ≤ (0 : Int) := (by omega); have q119 : 0 < (l0.length : Int) := od_; obtain ⟨ad119, A119_3, c119_3, A119_7, c119_7, e119, hx119_0, hx119_1, hx119_2, hx119_3, hx119_4, hx119_5, hx119_6, hx119_7, hl119_3, hi119_3, hl119_7, hi119_7⟩ := at_T37 HR0.out 0 p119 q119
      cases e119
      have qi119 : (0 < l0.length) = True := eq_true (by omega); (try simp only [Int.toNat_zero, Nat.zero_mul, Addr.add_zero'] at hx119_0 hx119_1 hx119_2 hx119_3 hx119_4 hx119_5 hx119_6 hx119_7); have HR119_3 := Aside0.mk hi119_3; have HC119_3 := Aside0.mk hl119_3; clear hi119_3 hl119_3; have HR119_7 := Aside0.mk hi119_7; have HC119_7 := Aside0.mk hl119_7; clear hi119_7 hl119_7; replace p119 := eq_true p119; replace q119 := eq_true q119; (try clear hx115_0 hx115_1 hx115_2 hx115_3 hx115_4 hx115_5 hx115_6 hx115_7); (try clear hx115_0 hx115_1 hx115_2 hx115_3 hx115_4 hx115_5 hx115_6 hx115_7); (try clear hx115_0 hx115_1 hx115_2 hx115_3 hx115_4 hx115_5 hx115_6 hx115_7)
      by_cases c13 : (((rd_T37 l0 0).f3).length : Int) > 6
      ·
       rw [if_pos c13] at H; have c13b0 : decide (6 < (((rd_T37 l0 0).f3).length : Int)) = true := decide_eq_true c13; have c13b1 : decide (6 < ((rd_T37 l0 0).f3).length) = true := decide_eq_true (by omega); clear c13; obtain rfl := Option.some.inj H; (try simp only [c13b0, c13b1])
       go_wp2
       go_ret
       exact ⟨vl_, dr_⟩
      ·
       rw [if_neg c13] at H; have c13b0 : decide (6 < (((rd_T37 l0 0).f3).length : Int)) = false := decide_eq_false c13; have c13b1 : decide (6 < ((rd_T37 l0 0).f3).length) = false := decide_eq_false (by omega); clear c13; have HC14 := Aside0.mk H; clear H; (try simp only [c13b0, c13b1])
       go_upto_region 7 with (fail)
       (try simp only [Act.put, List.setIfInBounds_toArray, List.set_cons_zero, List.set_cons_succ])
       go_cut [69] (fun v69 wc => ∃ (kq : Nat) (x69_13 : Bool), v69 = .bool x69_13 ∧ Aside0 (spec_l8Fault.j1 kq l0 x69_13 = some r) ∧ Aside0 (kq ≤ kj3) ∧ Drawn0 w wc)
       case first =>
        have H := HC14.out; clear HC14; obtain ⟨t121, A15, H⟩ := bd_ H; (try dsimp only at H); have p120 : 0 ≤ (0 : Int) := (by omega); have q120 : 0 < (l0.length : Int) := od_; obtain ⟨ad120, A120_3, c120_3, A120_7, c120_7, e120, hx120_0, hx120_1, hx120_2, hx120_3, hx120_4, hx120_5, hx120_6, hx120_7, hl120_3, hi120_3, hl120_7, hi120_7⟩ := at_T37 HR0.out 0 p120 q120; obtain rfl : ad119 = ad120 := (by injection e120); have qi120 : (0 < l0.length) = True := eq_true (by omega); (try simp only [Int.toNat_zero, Nat.zero_mul, Addr.add_zero'] at hx120_0 hx120_1 hx120_2 hx120_3 hx120_4 hx120_5 hx120_6 hx120_7); have HR120_3 := Aside0.mk hi120_3; have HC120_3 := Aside0.mk hl120_3; clear hi120_3 hl120_3; have HR120_7 := Aside0.mk hi120_7; have HC120_7 := Aside0.mk hl120_7; clear hi120_7 hl120_7; replace p120 := eq_true p120; replace q120 := eq_true q120; (try clear hx115_0 hx115_1 hx115_2 hx115_3 hx115_4 hx115_5 hx115_6 hx115_7); (try clear hx115_0 hx115_1 hx115_2 hx115_3 hx115_4 hx115_5 hx115_6 hx115_7); (try clear hx115_0 hx115_1 hx115_2 hx115_3 hx115_4 hx115_5 hx115_6 hx115_7); (try clear hx119_0 hx119_1 hx119_2 hx119_3 hx119_4 hx119_5 hx119_6 hx119_7); (try clear hx119_0 hx119_1 hx119_2 hx119_3 hx119_4 hx119_5 hx119_6 hx119_7)
        by_cases c16 : t121 = true
        ·
         subst c16; (try rw [if_pos rfl] at H)
         by_cases c17 : ((rd_T37 l0 0).f0) = 4
         ·
          rw [if_pos c17] at H; have c17b0 : (((rd_T37 l0 0).f0) == 4) = true := beq_iff_eq.mpr c17; have c17b1 : (((rd_T37 l0 0).f0) != 4) = false := bne_eq_false_iff_eq.mpr c17; clear c17; (first | rw [c17b0] | (simp only [i64_w, i32_w]; rw [c17b0]) | skip); obtain ⟨t122, A18, H⟩ := bd_ H; (try dsimp only at H); (try simp only [c17b0, c17b1])
          by_cases c19 : t122 = true
          ·
           subst c19; (try rw [if_pos rfl] at H); obtain ⟨t123, A20, H⟩ := bd_ H; (try dsimp only at H)
           by_cases c21 : t123 = true
           ·
            subst c21; (try rw [if_pos rfl] at H); replace H := Option.bind_eq_some_iff.mp H; obtain ⟨t124, A220, H⟩ := H; replace H : (spec_l8Fault.j1 kj3 l0 (!t124)) = some r := H; have A22 := Aside0.mk A220; clear A220; have H' := Aside0.mk H; clear H
            go_wp2_with (first | ((with_reducible refine gate_callee (f := 71) rfl ?_); refine goesY_ (some 37) Try.func71 #[.slice A120_3 ((rd_T37 l0 0).f3).length c120_3] rfl ?_; (with_reducible refine (spec_l8Uids.calls kj3 _ _ ((rd_T37 l0 0).f3) true _ ?_ ?_ A15.out).mono ?_); exact C_up HR120_3.out; exact HC120_3.out; rintro e w' ⟨rfl, ⟨nd, rfl⟩⟩; refine ⟨_, rfl, ?_⟩) | (go_at_call 72; (with_reducible refine (spec_l1In.calls ((rd_T37 l0 0).f4) 1 3 true _ A18.out).mono ?_); rintro e w' ⟨rfl, ⟨nd, rfl⟩⟩) | (go_at_call 72; (with_reducible refine (spec_l1In.calls ((rd_T37 l0 0).f5) 0 15 true _ A20.out).mono ?_); rintro e w' ⟨rfl, ⟨nd, rfl⟩⟩) | (go_at_call 72; (with_reducible refine (spec_l1In.calls ((rd_T37 l0 0).f6) 0 9999 t124 _ A22.out).mono ?_); rintro e w' ⟨rfl, ⟨nd, rfl⟩⟩))
            go_meet
            case rel => exact ⟨_, (!t124), vl_, H', ⟨by have := HJ3.out; first | omega | exact Nat.le_refl _⟩, dr_⟩
           ·
            replace c21 := Bool.eq_false_iff.mpr c21; subst c21; (try rw [if_neg (show ¬ (false = true) by decide)] at H); have H' := Aside0.mk H; clear H
            go_wp2_with (first | ((with_reducible refine gate_callee (f := 71) rfl ?_); refine goesY_ (some 37) Try.func71 #[.slice A120_3 ((rd_T37 l0 0).f3).length c120_3] rfl ?_; (with_reducible refine (spec_l8Uids.calls kj3 _ _ ((rd_T37 l0 0).f3) true _ ?_ ?_ A15.out).mono ?_); exact C_up HR120_3.out; exact HC120_3.out; rintro e w' ⟨rfl, ⟨nd, rfl⟩⟩; refine ⟨_, rfl, ?_⟩) | (go_at_call 72; (with_reducible refine (spec_l1In.calls ((rd_T37 l0 0).f4) 1 3 true _ A18.out).mono ?_); rintro e w' ⟨rfl, ⟨nd, rfl⟩⟩) | (go_at_call 72; (with_reducible refine (spec_l1In.calls ((rd_T37 l0 0).f5) 0 15 false _ A20.out).mono ?_); rintro e w' ⟨rfl, ⟨nd, rfl⟩⟩))
            go_meet
            case rel => exact ⟨_, (true), vl_, H', ⟨by have := HJ3.out; first | omega | exact Nat.le_refl _⟩, dr_⟩
          ·
           replace c19 := Bool.eq_false_iff.mpr c19; subst c19; (try rw [if_neg (show ¬ (false = true) by decide)] at H); have H' := Aside0.mk H; clear H
           go_wp2_with (first | ((with_reducible refine gate_callee (f := 71) rfl ?_); refine goesY_ (some 37) Try.func71 #[.slice A120_3 ((rd_T37 l0 0).f3).length c120_3] rfl ?_; (with_reducible refine (spec_l8Uids.calls kj3 _ _ ((rd_T37 l0 0).f3) true _ ?_ ?_ A15.out).mono ?_); exact C_up HR120_3.out; exact HC120_3.out; rintro e w' ⟨rfl, ⟨nd, rfl⟩⟩; refine ⟨_, rfl, ?_⟩) | (go_at_call 72; (with_reducible refine (spec_l1In.calls ((rd_T37 l0 0).f4) 1 3 false _ A18.out).mono ?_); rintro e w' ⟨rfl, ⟨nd, rfl⟩⟩))
           go_meet
           case rel => exact ⟨_, (true), vl_, H', ⟨by have := HJ3.out; first | omega | exact Nat.le_refl _⟩, dr_⟩
         ·
          rw [if_neg c17] at H; have c17b0 : (((rd_T37 l0 0).f0) == 4) = false := beq_eq_false_iff_ne.mpr c17; have c17b1 : (((rd_T37 l0 0).f0) != 4) = true := bne_iff_ne.mpr c17; (first | rw [c17b0] | (simp only [i64_w, i32_w]; rw [c17b0]) | skip); obtain ⟨t125, A23, H⟩ := bd_ H; (try dsimp only at H); (try simp only [c17b0, c17b1])
          by_cases c24 : t125 = true
          ·
           subst c24; (try rw [if_pos rfl] at H); replace H := Option.bind_eq_some_iff.mp H; obtain ⟨t126, A250, H⟩ := H; replace H : (spec_l8Fault.j1 kj3 l0 (!t126)) = some r := H; have A25 := Aside0.mk A250; clear A250; have H' := Aside0.mk H; clear H
           go_wp2_with (first | ((with_reducible refine gate_callee (f := 71) rfl ?_); refine goesY_ (some 37) Try.func71 #[.slice A120_3 ((rd_T37 l0 0).f3).length c120_3] rfl ?_; (with_reducible refine (spec_l8Uids.calls kj3 _ _ ((rd_T37 l0 0).f3) true _ ?_ ?_ A15.out).mono ?_); exact C_up HR120_3.out; exact HC120_3.out; rintro e w' ⟨rfl, ⟨nd, rfl⟩⟩; refine ⟨_, rfl, ?_⟩) | (go_at_call 72; (with_reducible refine (spec_l1In.calls ((rd_T37 l0 0).f5) 0 15 true _ A23.out).mono ?_); rintro e w' ⟨rfl, ⟨nd, rfl⟩⟩) | (go_at_call 72; (with_reducible refine (spec_l1In.calls ((rd_T37 l0 0).f6) 0 9999 t126 _ A25.out).mono ?_); rintro e w' ⟨rfl, ⟨nd, rfl⟩⟩))
           go_meet
           case rel => exact ⟨_, (!t126), vl_, H', ⟨by have := HJ3.out; first | omega | exact Nat.le_refl _⟩, dr_⟩
          ·
           replace c24 := Bool.eq_false_iff.mpr c24; subst c24; (try rw [if_neg (show ¬ (false = true) by decide)] at H); have H' := Aside0.mk H; clear H
           go_wp2_with (first | ((with_reducible refine gate_callee (f := 71) rfl ?_); refine goesY_ (some 37) Try.func71 #[.slice A120_3 ((rd_T37 l0 0).f3).length c120_3] rfl ?_; (with_reducible refine (spec_l8Uids.calls kj3 _ _ ((rd_T37 l0 0).f3) true _ ?_ ?_ A15.out).mono ?_); exact C_up HR120_3.out; exact HC120_3.out; rintro e w' ⟨rfl, ⟨nd, rfl⟩⟩; refine ⟨_, rfl, ?_⟩) | (go_at_call 72; (with_reducible refine (spec_l1In.calls ((rd_T37 l0 0).f5) 0 15 false _ A23.out).mono ?_); rintro e w' ⟨rfl, ⟨nd, rfl⟩⟩))
           go_meet
           case rel => exact ⟨_, (true), vl_, H', ⟨by have := HJ3.out; first | omega | exact Nat.le_refl _⟩, dr_⟩
        ·
         replace c16 := Bool.eq_false_iff.mpr c16; subst c16; (try rw [if_neg (show ¬ (false = true) by decide)] at H); have H' := Aside0.mk H; clear H
         go_wp2_with (first | ((with_reducible refine gate_callee (f := 71) rfl ?_); refine goesY_ (some 37) Try.func71 #[.slice A120_3 ((rd_T37 l0 0).f3).length c120_3] rfl ?_; (with_reducible refine (spec_l8Uids.calls kj3 _ _ ((rd_T37 l0 0).f3) false _ ?_ ?_ A15.out).mono ?_); exact C_up HR120_3.out; exact HC120_3.out; rintro e w' ⟨rfl, ⟨nd, rfl⟩⟩; refine ⟨_, rfl, ?_⟩))
         go_meet
         case rel => exact ⟨_, (true), vl_, H', ⟨by have := HJ3.out; first | omega | exact Nat.le_refl _⟩, dr_⟩
       case rest =>
        clear HC14; (try clear q1); (try clear hx1); (try clear qi1); (try clear c3); (try clear c11); (try clear q11); (try clear hx11); (try clear qi11); (try clear c12); (try clear c12b0); (try clear c12b1); (try clear q12); (try clear hx12); (try clear qi12); (try clear c13); (try clear c13b0); (try clear c13b1); (try clear hx115_0); (try clear hx115_1); (try clear hx115_2); (try clear hx115_3); (try clear hx115_4); (try clear hx115_5); (try clear hx115_6); (try clear hx115_7); (try clear hx119_0); (try clear hx119_1); (try clear hx119_2); (try clear hx119_3); (try clear hx119_4); (try clear hx119_5); (try clear hx119_6); (try clear hx119_7); (try clear hx120_0); (try clear hx120_1); (try clear hx120_2); (try clear hx120_3); (try clear hx120_4); (try clear hx120_5); (try clear hx120_6); (try clear hx120_7); (try clear p119); (try clear q1); (try clear q115); (try clear q119); (try clear q120); obtain ⟨kq, x69_13, rfl, HA, HJ13, ⟨mc13, rfl⟩⟩ := hcut
        cases kq with
        | zero => exact absurd HA.out (by simp [spec_l8Fault.j1])
        | succ kj13 =>
          have H := HA.out; clear HA; simp only [spec_l8Fault.j1] at H
          by_cases c26 : x69_13 = true
          ·
           subst c26; (try rw [if_pos rfl] at H); obtain rfl := Option.some.inj H
           go_wp2
           go_ret
           exact ⟨vl_, dr_⟩
          ·
           replace c26 := Bool.eq_false_iff.mpr c26; subst c26; (try rw [if_neg (show ¬ (false = true) by decide)] at H); obtain ⟨c27, H⟩ := ifc_ H; have c27b0 : decide (0 < (l0.length : Int)) = true := decide_eq_true c27; have c27b1 : decide (0 < l0.length) = true := decide_eq_true (by omega); clear c27; (try simp only [c27b0, c27b1]); have p127 : 0 ≤ (0 : Int) := (by omega); have q127 : 0 < (l0.length : Int) := od_; obtain ⟨ad127, A127_3, c127_3, A127_7, c127_7, e127, hx127_0, hx127_1, hx127_2, hx127_3, hx127_4, hx127_5, hx127_6, hx127_7, hl127_3, hi127_3, hl127_7, hi127_7⟩ := at_T37 HR0.out 0 p127 q127; obtain rfl : ad119 = ad127 := (by injection e127); have qi127 : (0 < l0.length) = True := eq_true (by omega); (try simp only [Int.toNat_zero, Nat.zero_mul, Addr.add_zero'] at hx127_0 hx127_1 hx127_2 hx127_3 hx127_4 hx127_5 hx127_6 hx127_7); have HR127_3 := Aside0.mk hi127_3; have HC127_3 := Aside0.mk hl127_3; clear hi127_3 hl127_3; have HR127_7 := Aside0.mk hi127_7; have HC127_7 := Aside0.mk hl127_7; clear hi127_7 hl127_7; replace p127 := eq_true p127; replace q127 := eq_true q127; (try clear hx115_0 hx115_1 hx115_2 hx115_3 hx115_4 hx115_5 hx115_6 hx115_7); (try clear hx115_0 hx115_1 hx115_2 hx115_3 hx115_4 hx115_5 hx115_6 hx115_7); (try clear hx115_0 hx115_1 hx115_2 hx115_3 hx115_4 hx115_5 hx115_6 hx115_7); (try clear hx119_0 hx119_1 hx119_2 hx119_3 hx119_4 hx119_5 hx119_6 hx119_7); (try clear hx119_0 hx119_1 hx119_2 hx119_3 hx119_4 hx119_5 hx119_6 hx119_7); (try clear hx120_0 hx120_1 hx120_2 hx120_3 hx120_4 hx120_5 hx120_6 hx120_7); (try clear hx120_0 hx120_1 hx120_2 hx120_3 hx120_4 hx120_5 hx120_6 hx120_7); (try clear hx120_0 hx120_1 hx120_2 hx120_3 hx120_4 hx120_5 hx120_6 hx120_7); (try clear hx120_0 hx120_1 hx120_2 hx120_3 hx120_4 hx120_5 hx120_6 hx120_7); (try clear hx120_0 hx120_1 hx120_2 hx120_3 hx120_4 hx120_5 hx120_6 hx120_7); (try clear hx120_0 hx120_1 hx120_2 hx120_3 hx120_4 hx120_5 hx120_6 hx120_7)
           by_cases c28 : (((rd_T37 l0 0).f7).length : Int) > 400
           ·
            rw [if_pos c28] at H; have c28b0 : decide (400 < (((rd_T37 l0 0).f7).length : Int)) = true := decide_eq_true c28; have c28b1 : decide (400 < ((rd_T37 l0 0).f7).length) = true := decide_eq_true (by omega); clear c28; obtain rfl := Option.some.inj H; (try simp only [c28b0, c28b1])
            go_wp2
            go_ret
            exact ⟨vl_, dr_⟩
           ·
            rw [if_neg c28] at H; have c28b0 : decide (400 < (((rd_T37 l0 0).f7).length : Int)) = false := decide_eq_false c28; have c28b1 : decide (400 < ((rd_T37 l0 0).f7).length) = false := decide_eq_false (by omega); clear c28; obtain rfl := Option.some.inj H; (try simp only [c28b0, c28b1])
            go_wp2
            go_ret
            exact ⟨vl_, dr_⟩
 ·
  replace c3 := Bool.eq_false_iff.mpr c3; subst c3; (try rw [if_neg (show ¬ (false = true) by decide)] at H); obtain rfl := Option.some.inj H
  go_wp2_with (first | ((with_reducible refine gate_callee (f := 68) rfl ?_); refine goesY_ (some 4) Try.func68 #[.pointer A0] rfl ?_; (with_reducible refine (spec_l8Form.calls k _ (l0).length l0 false _ ?_ ?_ A2.out).mono ?_); exact C_up HR0.out; exact Nat.le_refl _; rintro e w' ⟨rfl, ⟨nd, rfl⟩⟩; refine ⟨_, rfl, ?_⟩))
  go_ret
  exact ⟨vl_, dr_⟩

/-! ### spec_l9Two: function 73 -/
def spec_l9Two.f (a0 : Int) : Option (List Int) := some (([(wrap64 (Int.tdiv a0 256)) % 256, (Int.tmod a0 256) % 256] : List Int))
theorem spec_l9Two.calls (a0 : Int) (r : List Int) (w : World) (h : spec_l9Two.f a0 = some r) :
 Calls Try.prog 73 #[.int .i64 a0] w fun e w' => ∃ v0_ : Value, e = .returned (v0_) ∧ Kd.R (Kd.int .u8) 5 w' w.heap.size (fun _ => True) v0_ r ∧ Below w.heap.size w w' := by
 have HB := Aside0.mk (Below.refl w.heap.size w); have H := h; unfold spec_l9Two.f at H; clear h; generalize hy128 : (([(wrap64 (Int.tdiv a0 256)) % 256, (Int.tmod a0 256) % 256] : List Int)) = y128 at H; have Ny128 := Aside0.mk hy128.symm; clear hy128; obtain rfl := Option.some.inj H
 go_enter Try.func73, Try.ntmps73
 go_wp2_with (first | ((with_reducible refine gate_dst (N := 9) rfl ?_); refine Kd.R_lit (Kd.int .u8) _ 5 ?hg (N := 9) ?hd (xs := ([(wrap64 (Int.tdiv a0 256)) % 256, (Int.tmod a0 256) % 256] : List Int)) (inner := [.int .u8 ((wrap64 (Int.tdiv a0 256)) % 256), .int .u8 ((Int.tmod a0 256) % 256)]) (ok := fun _ => True) (okp := fun _ => True) ?hr ?hp (fun _ hk => hk) trivial (Below.refl _ _) (Nat.le_refl _) (by simp) ?_; (case hd => rfl); (case hg => rfl); (case hr => first | (go_simp; done) | (go_simp; rfl)); (case hp => exact (Reps.one (show Kd.M (Kd.int .u8) _ _ _ ((wrap64 (Int.tdiv a0 256)) % 256) [.int .u8 ((wrap64 (Int.tdiv a0 256)) % 256)] from rfl) (Reps.one (show Kd.M (Kd.int .u8) _ _ _ ((Int.tmod a0 256) % 256) [.int .u8 ((Int.tmod a0 256) % 256)] from rfl) (Reps.none _ _)))); intro v129 w2 ho3 hb hg_ hnew_; clear hg_ hnew_; (first | rw [← Ny128.out] at ho3 | (simp only [Int.reduceToNat] at ho3; rw [← Ny128.out] at ho3)); have HO130 := rl_ ho3 HB; replace HB := bs_ HB hb; clear hb ho3))
 go_ret
 exact ⟨_, ve_, R_up HO130.out, hb_⟩

/-! ### spec_l9Sum: function 74 -/
def spec_l9Sum.l0 : Nat → List Int → Int → Int → Option (Int)
 | 0, _, _, _ => none
 | k + 1, x0, x3, x4 => if x4 < (x0.length : Int) then (if 0 ≤ x4 then (spec_l9Sum.l0 k x0 (Int.tmod (wrap64 ((wrap64 (x3 * 31)) + (wrap64 (rd x0 x4)))) 65521) (wrap64 (x4 + 1))) else (none)) else (some x3)
def spec_l9Sum.f (k : Nat) (l0 : List Int) : Option (Int) := spec_l9Sum.l0 k l0 1 0
theorem spec_l9Sum.calls (k : Nat) (A0 : Option Addr) (c0 : Nat) (l0 : List Int) (r : Int) (w : World) (hr0 : Kd.C (Kd.int .u8) w A0 l0.length l0) (hc0 : l0.length ≤ c0) (h : spec_l9Sum.f k l0 = some r) :
 Calls Try.prog 74 #[.slice A0 l0.length c0] w fun e w' => e = .returned (.int .i64 r) ∧ Drawn0 w w' := by
 have HR0 := Aside0.mk hr0; have HC0 := Aside0.mk hc0; clear hr0 hc0; have H := h; unfold spec_l9Sum.f at H; clear h; have H' := Aside0.mk H; clear H
 go_enter Try.func74, Try.ntmps74
 go_wp2
 go_loopg [3, 4] k (fun kq v3 v4 w' => ∃ (x3_1 : Int) (x4_1 : Int), v3 = .int .i64 x3_1 ∧ v4 = .int .i64 x4_1 ∧ Aside0 (spec_l9Sum.l0 kq l0 x3_1 x4_1 = some r) ∧ Aside0 (kq ≤ k) ∧ Drawn0 w w')
 case atStart => exact ⟨(1), (0), vl_, vl_, H', ⟨Nat.le_refl _⟩, dr_⟩
 case round =>
  clear H'; obtain ⟨x3_1, x4_1, rfl, rfl, HA, HK1, ⟨m1, rfl⟩⟩ := hrel
  cases gk with
  | zero => exact absurd HA.out (by simp [spec_l9Sum.l0])
  | succ k1 =>
    have H := HA.out; clear HA; simp only [spec_l9Sum.l0] at H
    by_cases c2 : x4_1 < (l0.length : Int)
    ·
     rw [if_pos c2] at H; have c2b0 : decide (x4_1 < (l0.length : Int)) = true := decide_eq_true c2; clear c2
     by_cases c3 : 0 ≤ x4_1
     ·
      rw [if_pos c3] at H; have c3b0 : decide (0 ≤ x4_1) = true := decide_eq_true c3; clear c3; have H' := Aside0.mk H; clear H; have p131 : 0 ≤ (x4_1 : Int) := od_; have q131 : x4_1 < (l0.length : Int) := od_; obtain ⟨ad131, e131, hx131_0⟩ := Kd.at_int HR0.out x4_1 p131 q131
      cases e131
      replace p131 := eq_true p131; replace q131 := eq_true q131
      go_wp2
      go_roundg k1
      case measure => have := HK1.out; omega
      case rel => exact ⟨(Int.tmod (wrap64 ((wrap64 (x3_1 * 31)) + (wrap64 (rd l0 x4_1)))) 65521), (wrap64 (x4_1 + 1)), vl_, vl_, H', ⟨by have := HK1.out; omega⟩, dr_⟩
     · rw [if_neg c3] at H
       exact absurd H (by simp)
    ·
     rw [if_neg c2] at H; have c2b0 : decide (x4_1 < (l0.length : Int)) = false := decide_eq_false c2; clear c2; obtain rfl := Option.some.inj H
     go_wp2
     go_ret
     exact ⟨vl_, dr_⟩

end Go.Proofs.Ytehdbobpbcjmeaa.PFnJournals

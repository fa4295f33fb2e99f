/- Functions of the program as Lean functions, each with the proof that its call comes to what that function says (texts written by a program of this session). Conditions: those that stand in each theorem. -/
import Derived.Test.YtehdbobpbcjmeaaPFnExactPackOpsx0
import Derived.Test.YtehdbobpbcjmeaaPFnExactPackOpsx1
namespace Go.Proofs.Ytehdbobpbcjmeaa.PFnExactPackOps
open Go.RowKit Go.Proofs.YtehdbobpbcjmeaaW.PrintWords Go.Proofs.YtehdbobpbcjmeaaW.PrintLast Go.Proofs.YtehdbobpbcjmeaaW.PrintMore
attribute [local go_sem] max2_int min2_int max_two min_two max_three min_three max_four min_four   -- for this text's walks alone
set_option linter.unusedVariables false
set_option linter.unusedSimpArgs false

/-! ### spec_l8Form: function 68 -/
mutual
def spec_l8Form.j0 : Nat → List (S37) → Bool → Option (Bool)
 | 0, _, _ => none
 | k + 1, x0, x23 => if x23 = true then (some false) else (if 0 < (x0.length : Int) then ((spec_l8Copies.f ((rd_T37 x0 0).f0)).bind fun t110 => (if t110 = true then (if ((rd_T37 x0 0).f0) = 4 then (spec_l8Form.j1 k x0 false) else (spec_l8Form.j1 k x0 (((rd_T37 x0 0).f4) != 0))) else (if ((rd_T37 x0 0).f0) = 4 then (spec_l8Form.j1 k x0 false) else (if (((rd_T37 x0 0).f3).length : Int) > 0 then (spec_l8Form.j1 k x0 true) else (spec_l8Form.j1 k x0 (((rd_T37 x0 0).f4) != 0)))))) else (none))
def spec_l8Form.j1 : Nat → List (S37) → Bool → Option (Bool)
 | 0, _, _ => none
 | k + 1, x0, x58 => if x58 = true then (some false) else (if 0 < (x0.length : Int) then (if ((rd_T37 x0 0).f0) = 3 then (some true) else (if ((rd_T37 x0 0).f6) = 0 then (if (((rd_T37 x0 0).f7).length : Int) > 0 then (some false) else (if ((rd_T37 x0 0).f0) = 4 then (some true) else (some (((rd_T37 x0 0).f5) == 0)))) else (some false))) else (none))
end
def spec_l8Form.f (k : Nat) (l0 : List (S37)) : Option (Bool) := if 0 < (l0.length : Int) then ((spec_l1In.f ((rd_T37 l0 0).f0) 1 7).bind fun t107 => (if t107 = true then ((spec_l8Copies.f ((rd_T37 l0 0).f0)).bind fun t108 => (if t108 = true then (spec_l8Form.j0 k l0 false) else (spec_l8Form.j0 k l0 (((rd_T37 l0 0).f2).toList != ([] : List UInt8))))) else (spec_l8Form.j0 k l0 true))) else (none)
theorem spec_l8Form.mono_l : ∀ k, (∀ y0 y1, LeO (spec_l8Form.j0 k y0 y1) (spec_l8Form.j0 (k + 1) y0 y1)) ∧ (∀ y0 y1, LeO (spec_l8Form.j1 k y0 y1) (spec_l8Form.j1 (k + 1) y0 y1))
 | 0 => ⟨fun _ _ r h => by simp [spec_l8Form.j0] at h, fun _ _ r h => by simp [spec_l8Form.j1] at h⟩
 | k + 1 => by
   obtain ⟨ih0, ih1⟩ := spec_l8Form.mono_l k
   refine ⟨?_, ?_⟩
   · intro y0 y1
     unfold spec_l8Form.j0
     repeat' first
     | (with_reducible exact ih0 _ _)
     | (with_reducible exact ih1 _ _)
     | (with_reducible exact LeO.refl _)
     | (with_reducible exact LeO.none _)
     | (with_reducible refine LeO.ite ?_ ?_)
     | (with_reducible refine LeO.bind ?_ (fun _ => ?_))
     | exact ih0 _ _
     | exact ih1 _ _
     | exact LeO.none _
     | refine LeO.ite ?_ ?_
     | refine LeO.bind ?_ (fun _ => ?_)
   · intro y0 y1
     unfold spec_l8Form.j1
     repeat' first
     | (with_reducible exact ih0 _ _)
     | (with_reducible exact ih1 _ _)
     | (with_reducible exact LeO.refl _)
     | (with_reducible exact LeO.none _)
     | (with_reducible refine LeO.ite ?_ ?_)
     | (with_reducible refine LeO.bind ?_ (fun _ => ?_))
     | exact ih0 _ _
     | exact ih1 _ _
     | exact LeO.none _
     | refine LeO.ite ?_ ?_
     | refine LeO.bind ?_ (fun _ => ?_)
theorem spec_l8Form.mono : ∀ a0 k, LeO (spec_l8Form.f k a0) (spec_l8Form.f (k + 1) a0) := by
 intro a0 k
 obtain ⟨ih0, ih1⟩ := spec_l8Form.mono_l k
 unfold spec_l8Form.f
 repeat' first
  | (with_reducible exact ih0 _ _)
  | (with_reducible exact ih1 _ _)
  | (with_reducible exact LeO.refl _)
  | (with_reducible exact LeO.none _)
  | (with_reducible refine LeO.ite ?_ ?_)
  | (with_reducible refine LeO.bind ?_ (fun _ => ?_))
  | exact ih0 _ _
  | exact ih1 _ _
  | exact LeO.none _
  | refine LeO.ite ?_ ?_
  | refine LeO.bind ?_ (fun _ => ?_)
set_option maxHeartbeats 8000000 in
set_option maxRecDepth 100000 in
theorem spec_l8Form.calls (k : Nat) (A0 : Option Addr) (c0 : Nat) (l0 : List (S37)) (r : Bool) (w : World) (hr0 : Kd.C k37 w A0 l0.length l0) (hc0 : l0.length ≤ c0) (h : spec_l8Form.f k l0 = some r) :
 Calls Try.prog 68 #[.pointer A0] w fun e w' => e = .returned (.bool r) ∧ Drawn0 w w' := by
 have HR0 := Aside0.mk hr0
 have HC0 := Aside0.mk hc0
 clear hr0 hc0
 have H : (if 0 < (l0.length : Int) then ((spec_l1In.f ((rd_T37 l0 0).f0) 1 7).bind fun t107 => (if t107 = true then ((spec_l8Copies.f ((rd_T37 l0 0).f0)).bind fun t108 => (if t108 = true then (spec_l8Form.j0 k l0 false) else (spec_l8Form.j0 k l0 (((rd_T37 l0 0).f2).toList != ([] : List UInt8))))) else (spec_l8Form.j0 k l0 true))) else (none)) = some r := h
 clear h
 have HC2 := Aside0.mk H
 clear H
 go_enter Try.func68, Try.ntmps68
 go_upto_region 1 with (fail)
 go_cut [23] (fun v23 wc => ∃ (kq : Nat) (x23_1 : Bool), v23 = .bool x23_1 ∧ Aside0 (spec_l8Form.j0 kq l0 x23_1 = some r) ∧ Aside0 (kq ≤ k) ∧ Drawn0 w wc)
 case first =>
  have H := HC2.out
  clear HC2
  by_cases c3 : 0 < (l0.length : Int)
  case neg => rw [if_neg c3] at H; exact absurd H (by simp)
  rw [if_pos c3] at H
  have c3b0 : decide (0 < (l0.length : Int)) = true := decide_eq_true c3
  have c3b1 : decide (0 < l0.length) = true := decide_eq_true (by omega)
  clear c3
  (first | rw [c3b0] | (simp only [i64_w, i32_w]; rw [c3b0]) | skip)
  replace H := Option.bind_eq_some_iff.mp H
  obtain ⟨t107, A40, H⟩ := H
  (try dsimp only at H)
  have A4 := Aside0.mk A40
  clear A40
  by_cases c5 : t107 = true
  · subst c5
    (try rw [if_pos rfl] at H)
    replace H := Option.bind_eq_some_iff.mp H
    obtain ⟨t108, A60, H⟩ := H
    (try dsimp only at H)
    have A6 := Aside0.mk A60
    clear A60
    by_cases c7 : t108 = true
    · subst c7
      (try rw [if_pos rfl] at H)
      have H' := Aside0.mk H
      clear H
      have p106 : 0 ≤ (0 : Int) := (by omega)
      have q106 : 0 < (l0.length : Int) := of_decide_eq_true (by first | (with_reducible assumption) | assumption)
      obtain ⟨ad106, A106_3, c106_3, A106_7, c106_7, e106, hx106_0, hx106_1, hx106_2, hx106_3, hx106_4, hx106_5, hx106_6, hx106_7, hl106_3, hi106_3, hl106_7, hi106_7⟩ := at_T37 HR0.out 0 p106 q106
      cases e106
      have qi106 : (0 < l0.length) = True := eq_true (by omega)
      (try simp only [Int.toNat_zero, Nat.zero_mul, Addr.add_zero'] at hx106_0 hx106_1 hx106_2 hx106_3 hx106_4 hx106_5 hx106_6 hx106_7)
      have HR106_3 := Aside0.mk hi106_3
      have HC106_3 := Aside0.mk hl106_3
      clear hi106_3 hl106_3
      have HR106_7 := Aside0.mk hi106_7
      have HC106_7 := Aside0.mk hl106_7
      clear hi106_7 hl106_7
      replace p106 := eq_true p106
      replace q106 := eq_true q106
      go_wp2_with (first | ((with_reducible refine gate_callee (f := 72) rfl ?_); refine goesL_ (some 7) rfl rfl Try.func72 (by kernel_rfl) rfl #[.int .i64 ((rd_T37 l0 0).f0), .int .i64 1, .int .i64 7] rfl (by (try simp only [List.map_toArray, List.map_cons, List.map_nil]); first | done | rfl | (simp only [List.length_drop, List.length_take]; rfl)) ?_; (with_reducible refine (spec_l1In.calls ((rd_T37 l0 0).f0) 1 7 true _ A4.out).mono ?_); rintro e w' ⟨rfl, ⟨nd, rfl⟩⟩; refine ⟨_, rfl, ?_⟩) | (go_at_call 70; (with_reducible refine (spec_l8Copies.calls ((rd_T37 l0 0).f0) true _ A6.out).mono ?_); rintro e w' ⟨rfl, ⟨nd, rfl⟩⟩))
      go_meet
      case rel => exact ⟨_, (false), (by first | rfl | (simp; done) | (simp [*]; done) | (simp; generalize ByteArray.toList _ = zq_; cases zq_ <;> rfl)), H', ⟨by first | omega | exact Nat.le_refl _⟩, by repeat (first | exact Drawn0.refl _ | apply Drawn0.step)⟩
    · replace c7 := Bool.eq_false_iff.mpr c7
      subst c7
      (try rw [if_neg (show ¬ (false = true) by decide)] at H)
      have H' := Aside0.mk H
      clear H
      have p106 : 0 ≤ (0 : Int) := (by omega)
      have q106 : 0 < (l0.length : Int) := of_decide_eq_true (by first | (with_reducible assumption) | assumption)
      obtain ⟨ad106, A106_3, c106_3, A106_7, c106_7, e106, hx106_0, hx106_1, hx106_2, hx106_3, hx106_4, hx106_5, hx106_6, hx106_7, hl106_3, hi106_3, hl106_7, hi106_7⟩ := at_T37 HR0.out 0 p106 q106
      cases e106
      have qi106 : (0 < l0.length) = True := eq_true (by omega)
      (try simp only [Int.toNat_zero, Nat.zero_mul, Addr.add_zero'] at hx106_0 hx106_1 hx106_2 hx106_3 hx106_4 hx106_5 hx106_6 hx106_7)
      have HR106_3 := Aside0.mk hi106_3
      have HC106_3 := Aside0.mk hl106_3
      clear hi106_3 hl106_3
      have HR106_7 := Aside0.mk hi106_7
      have HC106_7 := Aside0.mk hl106_7
      clear hi106_7 hl106_7
      replace p106 := eq_true p106
      replace q106 := eq_true q106
      go_wp2_with (first | ((with_reducible refine gate_callee (f := 72) rfl ?_); refine goesL_ (some 7) rfl rfl Try.func72 (by kernel_rfl) rfl #[.int .i64 ((rd_T37 l0 0).f0), .int .i64 1, .int .i64 7] rfl (by (try simp only [List.map_toArray, List.map_cons, List.map_nil]); first | done | rfl | (simp only [List.length_drop, List.length_take]; rfl)) ?_; (with_reducible refine (spec_l1In.calls ((rd_T37 l0 0).f0) 1 7 true _ A4.out).mono ?_); rintro e w' ⟨rfl, ⟨nd, rfl⟩⟩; refine ⟨_, rfl, ?_⟩) | (go_at_call 70; (with_reducible refine (spec_l8Copies.calls ((rd_T37 l0 0).f0) false _ A6.out).mono ?_); rintro e w' ⟨rfl, ⟨nd, rfl⟩⟩))
      go_meet
      case rel => exact ⟨_, ((((rd_T37 l0 0).f2).toList != ([] : List UInt8))), (by first | rfl | (simp; done) | (simp [*]; done) | (simp; generalize ByteArray.toList _ = zq_; cases zq_ <;> rfl)), H', ⟨by first | omega | exact Nat.le_refl _⟩, by repeat (first | exact Drawn0.refl _ | apply Drawn0.step)⟩
  · replace c5 := Bool.eq_false_iff.mpr c5
    subst c5
    (try rw [if_neg (show ¬ (false = true) by decide)] at H)
    have H' := Aside0.mk H
    clear H
    have p106 : 0 ≤ (0 : Int) := (by omega)
    have q106 : 0 < (l0.length : Int) := of_decide_eq_true (by first | (with_reducible assumption) | assumption)
    obtain ⟨ad106, A106_3, c106_3, A106_7, c106_7, e106, hx106_0, hx106_1, hx106_2, hx106_3, hx106_4, hx106_5, hx106_6, hx106_7, hl106_3, hi106_3, hl106_7, hi106_7⟩ := at_T37 HR0.out 0 p106 q106
    cases e106
    have qi106 : (0 < l0.length) = True := eq_true (by omega)
    (try simp only [Int.toNat_zero, Nat.zero_mul, Addr.add_zero'] at hx106_0 hx106_1 hx106_2 hx106_3 hx106_4 hx106_5 hx106_6 hx106_7)
    have HR106_3 := Aside0.mk hi106_3
    have HC106_3 := Aside0.mk hl106_3
    clear hi106_3 hl106_3
    have HR106_7 := Aside0.mk hi106_7
    have HC106_7 := Aside0.mk hl106_7
    clear hi106_7 hl106_7
    replace p106 := eq_true p106
    replace q106 := eq_true q106
    go_wp2_with (first | ((with_reducible refine gate_callee (f := 72) rfl ?_); refine goesL_ (some 7) rfl rfl Try.func72 (by kernel_rfl) rfl #[.int .i64 ((rd_T37 l0 0).f0), .int .i64 1, .int .i64 7] rfl (by (try simp only [List.map_toArray, List.map_cons, List.map_nil]); first | done | rfl | (simp only [List.length_drop, List.length_take]; rfl)) ?_; (with_reducible refine (spec_l1In.calls ((rd_T37 l0 0).f0) 1 7 false _ A4.out).mono ?_); rintro e w' ⟨rfl, ⟨nd, rfl⟩⟩; refine ⟨_, rfl, ?_⟩))
    go_meet
    case rel => exact ⟨_, (true), (by first | rfl | (simp; done) | (simp [*]; done) | (simp; generalize ByteArray.toList _ = zq_; cases zq_ <;> rfl)), H', ⟨by first | omega | exact Nat.le_refl _⟩, by repeat (first | exact Drawn0.refl _ | apply Drawn0.step)⟩
 case rest =>
  clear HC2
  try clear q1
  try clear hx1
  try clear qi1
  try clear hx106_0
  try clear hx106_1
  try clear hx106_2
  try clear hx106_3
  try clear hx106_4
  try clear hx106_5
  try clear hx106_6
  try clear hx106_7
  try clear q106
  obtain ⟨kq, x23_1, rfl, HA, HJ1, ⟨mc1, rfl⟩⟩ := hcut
  cases kq with
  | zero => exact absurd HA.out (by simp [spec_l8Form.j0])
  | succ kj1 =>
    have H := HA.out
    clear HA
    simp only [spec_l8Form.j0] at H
    by_cases c8 : x23_1 = true
    · subst c8
      (try rw [if_pos rfl] at H)
      obtain rfl := Option.some.inj H
      go_wp2
      go_ret
      exact ⟨by first | rfl | (simp; done) | (simp [*]; done) | (simp; generalize ByteArray.toList _ = zq_; cases zq_ <;> rfl), by repeat (first | exact Drawn0.refl _ | apply Drawn0.step)⟩
    · replace c8 := Bool.eq_false_iff.mpr c8
      subst c8
      (try rw [if_neg (show ¬ (false = true) by decide)] at H)
      have HC9 := Aside0.mk H
      clear H
      go_upto_region 3 with (fail)
      go_cut [58] (fun v58 wc => ∃ (kq : Nat) (x58_8 : Bool), v58 = .bool x58_8 ∧ Aside0 (spec_l8Form.j1 kq l0 x58_8 = some r) ∧ Aside0 (kq ≤ kj1) ∧ Drawn0 w wc)
      case first =>
       have H := HC9.out
       clear HC9
       by_cases c10 : 0 < (l0.length : Int)
       case neg => rw [if_neg c10] at H; exact absurd H (by simp)
       rw [if_pos c10] at H
       have c10b0 : decide (0 < (l0.length : Int)) = true := decide_eq_true c10
       have c10b1 : decide (0 < l0.length) = true := decide_eq_true (by omega)
       clear c10
       (first | rw [c10b0] | (simp only [i64_w, i32_w]; rw [c10b0]) | skip)
       replace H := Option.bind_eq_some_iff.mp H
       obtain ⟨t110, A110, H⟩ := H
       (try dsimp only at H)
       have A11 := Aside0.mk A110
       clear A110
       by_cases c12 : t110 = true
       · subst c12
         (try rw [if_pos rfl] at H)
         by_cases c13 : ((rd_T37 l0 0).f0) = 4
         · rw [if_pos c13] at H
           have c13b0 : (((rd_T37 l0 0).f0) == 4) = true := beq_iff_eq.mpr c13
           have c13b1 : (((rd_T37 l0 0).f0) != 4) = false := bne_eq_false_iff_eq.mpr c13
           clear c13
           have H' := Aside0.mk H
           clear H
           have p109 : 0 ≤ (0 : Int) := (by omega)
           have q109 : 0 < (l0.length : Int) := of_decide_eq_true (by first | (with_reducible assumption) | assumption)
           obtain ⟨ad109, A109_3, c109_3, A109_7, c109_7, e109, hx109_0, hx109_1, hx109_2, hx109_3, hx109_4, hx109_5, hx109_6, hx109_7, hl109_3, hi109_3, hl109_7, hi109_7⟩ := at_T37 HR0.out 0 p109 q109
           cases e109
           have qi109 : (0 < l0.length) = True := eq_true (by omega)
           (try simp only [Int.toNat_zero, Nat.zero_mul, Addr.add_zero'] at hx109_0 hx109_1 hx109_2 hx109_3 hx109_4 hx109_5 hx109_6 hx109_7)
           have HR109_3 := Aside0.mk hi109_3
           have HC109_3 := Aside0.mk hl109_3
           clear hi109_3 hl109_3
           have HR109_7 := Aside0.mk hi109_7
           have HC109_7 := Aside0.mk hl109_7
           clear hi109_7 hl109_7
           replace p109 := eq_true p109
           replace q109 := eq_true q109
           (try clear hx106_0 hx106_1 hx106_2 hx106_3 hx106_4 hx106_5 hx106_6 hx106_7)
           (try clear hx106_0 hx106_1 hx106_2 hx106_3 hx106_4 hx106_5 hx106_6 hx106_7)
           (try clear hx106_0 hx106_1 hx106_2 hx106_3 hx106_4 hx106_5 hx106_6 hx106_7)
           go_wp2_with (first | ((with_reducible refine gate_callee (f := 70) rfl ?_); refine goesL_ (some 28) rfl rfl Try.func70 (by kernel_rfl) rfl #[.int .i64 ((rd_T37 l0 0).f0)] rfl (by (try simp only [List.map_toArray, List.map_cons, List.map_nil]); first | done | rfl | (simp only [List.length_drop, List.length_take]; rfl)) ?_; (with_reducible refine (spec_l8Copies.calls ((rd_T37 l0 0).f0) true _ A11.out).mono ?_); rintro e w' ⟨rfl, ⟨nd, rfl⟩⟩; refine ⟨_, rfl, ?_⟩))
           go_meet
           case rel => exact ⟨_, (false), (by first | rfl | (simp; done) | (simp [*]; done) | (simp; generalize ByteArray.toList _ = zq_; cases zq_ <;> rfl)), H', ⟨by have := HJ1.out; first | omega | exact Nat.le_refl _⟩, by repeat (first | exact Drawn0.refl _ | apply Drawn0.step)⟩
         · rw [if_neg c13] at H
           have c13b0 : (((rd_T37 l0 0).f0) == 4) = false := beq_eq_false_iff_ne.mpr c13
           have c13b1 : (((rd_T37 l0 0).f0) != 4) = true := bne_iff_ne.mpr c13
           have H' := Aside0.mk H
           clear H
           have p109 : 0 ≤ (0 : Int) := (by omega)
           have q109 : 0 < (l0.length : Int) := of_decide_eq_true (by first | (with_reducible assumption) | assumption)
           obtain ⟨ad109, A109_3, c109_3, A109_7, c109_7, e109, hx109_0, hx109_1, hx109_2, hx109_3, hx109_4, hx109_5, hx109_6, hx109_7, hl109_3, hi109_3, hl109_7, hi109_7⟩ := at_T37 HR0.out 0 p109 q109
           cases e109
           have qi109 : (0 < l0.length) = True := eq_true (by omega)
           (try simp only [Int.toNat_zero, Nat.zero_mul, Addr.add_zero'] at hx109_0 hx109_1 hx109_2 hx109_3 hx109_4 hx109_5 hx109_6 hx109_7)
           have HR109_3 := Aside0.mk hi109_3
           have HC109_3 := Aside0.mk hl109_3
           clear hi109_3 hl109_3
           have HR109_7 := Aside0.mk hi109_7
           have HC109_7 := Aside0.mk hl109_7
           clear hi109_7 hl109_7
           replace p109 := eq_true p109
           replace q109 := eq_true q109
           (try clear hx106_0 hx106_1 hx106_2 hx106_3 hx106_4 hx106_5 hx106_6 hx106_7)
           (try clear hx106_0 hx106_1 hx106_2 hx106_3 hx106_4 hx106_5 hx106_6 hx106_7)
           (try clear hx106_0 hx106_1 hx106_2 hx106_3 hx106_4 hx106_5 hx106_6 hx106_7)
           go_wp2_with (first | ((with_reducible refine gate_callee (f := 70) rfl ?_); refine goesL_ (some 28) rfl rfl Try.func70 (by kernel_rfl) rfl #[.int .i64 ((rd_T37 l0 0).f0)] rfl (by (try simp only [List.map_toArray, List.map_cons, List.map_nil]); first | done | rfl | (simp only [List.length_drop, List.length_take]; rfl)) ?_; (with_reducible refine (spec_l8Copies.calls ((rd_T37 l0 0).f0) true _ A11.out).mono ?_); rintro e w' ⟨rfl, ⟨nd, rfl⟩⟩; refine ⟨_, rfl, ?_⟩))
           go_meet
           case rel => exact ⟨_, ((((rd_T37 l0 0).f4) != 0)), (by first | rfl | (simp; done) | (simp [*]; done) | (simp; generalize ByteArray.toList _ = zq_; cases zq_ <;> rfl)), H', ⟨by have := HJ1.out; first | omega | exact Nat.le_refl _⟩, by repeat (first | exact Drawn0.refl _ | apply Drawn0.step)⟩
       · replace c12 := Bool.eq_false_iff.mpr c12
         subst c12
         (try rw [if_neg (show ¬ (false = true) by decide)] at H)
         by_cases c14 : ((rd_T37 l0 0).f0) = 4
         · rw [if_pos c14] at H
           have c14b0 : (((rd_T37 l0 0).f0) == 4) = true := beq_iff_eq.mpr c14
           have c14b1 : (((rd_T37 l0 0).f0) != 4) = false := bne_eq_false_iff_eq.mpr c14
           clear c14
           have H' := Aside0.mk H
           clear H
           have p109 : 0 ≤ (0 : Int) := (by omega)
           have q109 : 0 < (l0.length : Int) := of_decide_eq_true (by first | (with_reducible assumption) | assumption)
           obtain ⟨ad109, A109_3, c109_3, A109_7, c109_7, e109, hx109_0, hx109_1, hx109_2, hx109_3, hx109_4, hx109_5, hx109_6, hx109_7, hl109_3, hi109_3, hl109_7, hi109_7⟩ := at_T37 HR0.out 0 p109 q109
           cases e109
           have qi109 : (0 < l0.length) = True := eq_true (by omega)
           (try simp only [Int.toNat_zero, Nat.zero_mul, Addr.add_zero'] at hx109_0 hx109_1 hx109_2 hx109_3 hx109_4 hx109_5 hx109_6 hx109_7)
           have HR109_3 := Aside0.mk hi109_3
           have HC109_3 := Aside0.mk hl109_3
           clear hi109_3 hl109_3
           have HR109_7 := Aside0.mk hi109_7
           have HC109_7 := Aside0.mk hl109_7
           clear hi109_7 hl109_7
           replace p109 := eq_true p109
           replace q109 := eq_true q109
           (try clear hx106_0 hx106_1 hx106_2 hx106_3 hx106_4 hx106_5 hx106_6 hx106_7)
           (try clear hx106_0 hx106_1 hx106_2 hx106_3 hx106_4 hx106_5 hx106_6 hx106_7)
           (try clear hx106_0 hx106_1 hx106_2 hx106_3 hx106_4 hx106_5 hx106_6 hx106_7)
           go_wp2_with (first | ((with_reducible refine gate_callee (f := 70) rfl ?_); refine goesL_ (some 28) rfl rfl Try.func70 (by kernel_rfl) rfl #[.int .i64 ((rd_T37 l0 0).f0)] rfl (by (try simp only [List.map_toArray, List.map_cons, List.map_nil]); first | done | rfl | (simp only [List.length_drop, List.length_take]; rfl)) ?_; (with_reducible refine (spec_l8Copies.calls ((rd_T37 l0 0).f0) false _ A11.out).mono ?_); rintro e w' ⟨rfl, ⟨nd, rfl⟩⟩; refine ⟨_, rfl, ?_⟩))
           go_meet
           case rel => exact ⟨_, (false), (by first | rfl | (simp; done) | (simp [*]; done) | (simp; generalize ByteArray.toList _ = zq_; cases zq_ <;> rfl)), H', ⟨by have := HJ1.out; first | omega | exact Nat.le_refl _⟩, by repeat (first | exact Drawn0.refl _ | apply Drawn0.step)⟩
         · rw [if_neg c14] at H
           have c14b0 : (((rd_T37 l0 0).f0) == 4) = false := beq_eq_false_iff_ne.mpr c14
           have c14b1 : (((rd_T37 l0 0).f0) != 4) = true := bne_iff_ne.mpr c14
           by_cases c15 : (((rd_T37 l0 0).f3).length : Int) > 0
           · rw [if_pos c15] at H
             have c15b0 : decide (0 < (((rd_T37 l0 0).f3).length : Int)) = true := decide_eq_true c15
             have c15b1 : decide (0 < ((rd_T37 l0 0).f3).length) = true := decide_eq_true (by omega)
             clear c15
             have H' := Aside0.mk H
             clear H
             have p109 : 0 ≤ (0 : Int) := (by omega)
             have q109 : 0 < (l0.length : Int) := of_decide_eq_true (by first | (with_reducible assumption) | assumption)
             obtain ⟨ad109, A109_3, c109_3, A109_7, c109_7, e109, hx109_0, hx109_1, hx109_2, hx109_3, hx109_4, hx109_5, hx109_6, hx109_7, hl109_3, hi109_3, hl109_7, hi109_7⟩ := at_T37 HR0.out 0 p109 q109
             cases e109
             have qi109 : (0 < l0.length) = True := eq_true (by omega)
             (try simp only [Int.toNat_zero, Nat.zero_mul, Addr.add_zero'] at hx109_0 hx109_1 hx109_2 hx109_3 hx109_4 hx109_5 hx109_6 hx109_7)
             have HR109_3 := Aside0.mk hi109_3
             have HC109_3 := Aside0.mk hl109_3
             clear hi109_3 hl109_3
             have HR109_7 := Aside0.mk hi109_7
             have HC109_7 := Aside0.mk hl109_7
             clear hi109_7 hl109_7
             replace p109 := eq_true p109
             replace q109 := eq_true q109
             (try clear hx106_0 hx106_1 hx106_2 hx106_3 hx106_4 hx106_5 hx106_6 hx106_7)
             (try clear hx106_0 hx106_1 hx106_2 hx106_3 hx106_4 hx106_5 hx106_6 hx106_7)
             (try clear hx106_0 hx106_1 hx106_2 hx106_3 hx106_4 hx106_5 hx106_6 hx106_7)
             go_wp2_with (first | ((with_reducible refine gate_callee (f := 70) rfl ?_); refine goesL_ (some 28) rfl rfl Try.func70 (by kernel_rfl) rfl #[.int .i64 ((rd_T37 l0 0).f0)] rfl (by (try simp only [List.map_toArray, List.map_cons, List.map_nil]); first | done | rfl | (simp only [List.length_drop, List.length_take]; rfl)) ?_; (with_reducible refine (spec_l8Copies.calls ((rd_T37 l0 0).f0) false _ A11.out).mono ?_); rintro e w' ⟨rfl, ⟨nd, rfl⟩⟩; refine ⟨_, rfl, ?_⟩))
             go_meet
             case rel => exact ⟨_, (true), (by first | rfl | (simp; done) | (simp [*]; done) | (simp; generalize ByteArray.toList _ = zq_; cases zq_ <;> rfl)), H', ⟨by have := HJ1.out; first | omega | exact Nat.le_refl _⟩, by repeat (first | exact Drawn0.refl _ | apply Drawn0.step)⟩
           · rw [if_neg c15] at H
             have c15b0 : decide (0 < (((rd_T37 l0 0).f3).length : Int)) = false := decide_eq_false c15
             have c15b1 : decide (0 < ((rd_T37 l0 0).f3).length) = false := decide_eq_false (by omega)
             clear c15
             have H' := Aside0.mk H
             clear H
             have p109 : 0 ≤ (0 : Int) := (by omega)
             have q109 : 0 < (l0.length : Int) := of_decide_eq_true (by first | (with_reducible assumption) | assumption)
             obtain ⟨ad109, A109_3, c109_3, A109_7, c109_7, e109, hx109_0, hx109_1, hx109_2, hx109_3, hx109_4, hx109_5, hx109_6, hx109_7, hl109_3, hi109_3, hl109_7, hi109_7⟩ := at_T37 HR0.out 0 p109 q109
             cases e109
             have qi109 : (0 < l0.length) = True := eq_true (by omega)
             (try simp only [Int.toNat_zero, Nat.zero_mul, Addr.add_zero'] at hx109_0 hx109_1 hx109_2 hx109_3 hx109_4 hx109_5 hx109_6 hx109_7)
             have HR109_3 := Aside0.mk hi109_3
             have HC109_3 := Aside0.mk hl109_3
             clear hi109_3 hl109_3
             have HR109_7 := Aside0.mk hi109_7
             have HC109_7 := Aside0.mk hl109_7
             clear hi109_7 hl109_7
             replace p109 := eq_true p109
             replace q109 := eq_true q109
             (try clear hx106_0 hx106_1 hx106_2 hx106_3 hx106_4 hx106_5 hx106_6 hx106_7)
             (try clear hx106_0 hx106_1 hx106_2 hx106_3 hx106_4 hx106_5 hx106_6 hx106_7)
             (try clear hx106_0 hx106_1 hx106_2 hx106_3 hx106_4 hx106_5 hx106_6 hx106_7)
             go_wp2_with (first | ((with_reducible refine gate_callee (f := 70) rfl ?_); refine goesL_ (some 28) rfl rfl Try.func70 (by kernel_rfl) rfl #[.int .i64 ((rd_T37 l0 0).f0)] rfl (by (try simp only [List.map_toArray, List.map_cons, List.map_nil]); first | done | rfl | (simp only [List.length_drop, List.length_take]; rfl)) ?_; (with_reducible refine (spec_l8Copies.calls ((rd_T37 l0 0).f0) false _ A11.out).mono ?_); rintro e w' ⟨rfl, ⟨nd, rfl⟩⟩; refine ⟨_, rfl, ?_⟩))
             go_meet
             case rel => exact ⟨_, ((((rd_T37 l0 0).f4) != 0)), (by first | rfl | (simp; done) | (simp [*]; done) | (simp; generalize ByteArray.toList _ = zq_; cases zq_ <;> rfl)), H', ⟨by have := HJ1.out; first | omega | exact Nat.le_refl _⟩, by repeat (first | exact Drawn0.refl _ | apply Drawn0.step)⟩
      case rest =>
       clear HC9
       try clear q1
       try clear hx1
       try clear qi1
       try clear c8
       try clear q10
       try clear hx10
       try clear qi10
       try clear hx106_0
       try clear hx106_1
       try clear hx106_2
       try clear hx106_3
       try clear hx106_4
       try clear hx106_5
       try clear hx106_6
       try clear hx106_7
       try clear hx109_0
       try clear hx109_1
       try clear hx109_2
       try clear hx109_3
       try clear hx109_4
       try clear hx109_5
       try clear hx109_6
       try clear hx109_7
       try clear q1
       try clear q106
       try clear q109
       obtain ⟨kq, x58_8, rfl, HA, HJ8, ⟨mc8, rfl⟩⟩ := hcut
       cases kq with
       | zero => exact absurd HA.out (by simp [spec_l8Form.j1])
       | succ kj8 =>
         have H := HA.out
         clear HA
         simp only [spec_l8Form.j1] at H
         by_cases c16 : x58_8 = true
         · subst c16
           (try rw [if_pos rfl] at H)
           obtain rfl := Option.some.inj H
           go_wp2
           go_ret
           exact ⟨by first | rfl | (simp; done) | (simp [*]; done) | (simp; generalize ByteArray.toList _ = zq_; cases zq_ <;> rfl), by repeat (first | exact Drawn0.refl _ | apply Drawn0.step)⟩
         · replace c16 := Bool.eq_false_iff.mpr c16
           subst c16
           (try rw [if_neg (show ¬ (false = true) by decide)] at H)
           by_cases c17 : 0 < (l0.length : Int)
           · rw [if_pos c17] at H
             have c17b0 : decide (0 < (l0.length : Int)) = true := decide_eq_true c17
             have c17b1 : decide (0 < l0.length) = true := decide_eq_true (by omega)
             clear c17
             by_cases c18 : ((rd_T37 l0 0).f0) = 3
             · rw [if_pos c18] at H
               have c18b0 : (((rd_T37 l0 0).f0) == 3) = true := beq_iff_eq.mpr c18
               have c18b1 : (((rd_T37 l0 0).f0) != 3) = false := bne_eq_false_iff_eq.mpr c18
               clear c18
               obtain rfl := Option.some.inj H
               have p111 : 0 ≤ (0 : Int) := (by omega)
               have q111 : 0 < (l0.length : Int) := of_decide_eq_true (by first | (with_reducible assumption) | assumption)
               obtain ⟨ad111, A111_3, c111_3, A111_7, c111_7, e111, hx111_0, hx111_1, hx111_2, hx111_3, hx111_4, hx111_5, hx111_6, hx111_7, hl111_3, hi111_3, hl111_7, hi111_7⟩ := at_T37 HR0.out 0 p111 q111
               cases e111
               have qi111 : (0 < l0.length) = True := eq_true (by omega)
               (try simp only [Int.toNat_zero, Nat.zero_mul, Addr.add_zero'] at hx111_0 hx111_1 hx111_2 hx111_3 hx111_4 hx111_5 hx111_6 hx111_7)
               have HR111_3 := Aside0.mk hi111_3
               have HC111_3 := Aside0.mk hl111_3
               clear hi111_3 hl111_3
               have HR111_7 := Aside0.mk hi111_7
               have HC111_7 := Aside0.mk hl111_7
               clear hi111_7 hl111_7
               replace p111 := eq_true p111
               replace q111 := eq_true q111
               (try clear hx106_0 hx106_1 hx106_2 hx106_3 hx106_4 hx106_5 hx106_6 hx106_7)
               (try clear hx106_0 hx106_1 hx106_2 hx106_3 hx106_4 hx106_5 hx106_6 hx106_7)
               (try clear hx106_0 hx106_1 hx106_2 hx106_3 hx106_4 hx106_5 hx106_6 hx106_7)
               (try clear hx109_0 hx109_1 hx109_2 hx109_3 hx109_4 hx109_5 hx109_6 hx109_7)
               (try clear hx109_0 hx109_1 hx109_2 hx109_3 hx109_4 hx109_5 hx109_6 hx109_7)
               (try clear hx109_0 hx109_1 hx109_2 hx109_3 hx109_4 hx109_5 hx109_6 hx109_7)
               (try clear hx109_0 hx109_1 hx109_2 hx109_3 hx109_4 hx109_5 hx109_6 hx109_7)
               (try clear hx109_0 hx109_1 hx109_2 hx109_3 hx109_4 hx109_5 hx109_6 hx109_7)
               have p112 : 0 ≤ (0 : Int) := (by omega)
               have q112 : 0 < (l0.length : Int) := of_decide_eq_true (by first | (with_reducible assumption) | assumption)
               obtain ⟨ad112, A112_3, c112_3, A112_7, c112_7, e112, hx112_0, hx112_1, hx112_2, hx112_3, hx112_4, hx112_5, hx112_6, hx112_7, hl112_3, hi112_3, hl112_7, hi112_7⟩ := at_T37 HR0.out 0 p112 q112
               obtain rfl : ad111 = ad112 := (by injection e112)
               have qi112 : (0 < l0.length) = True := eq_true (by omega)
               (try simp only [Int.toNat_zero, Nat.zero_mul, Addr.add_zero'] at hx112_0 hx112_1 hx112_2 hx112_3 hx112_4 hx112_5 hx112_6 hx112_7)
               have HR112_3 := Aside0.mk hi112_3
               have HC112_3 := Aside0.mk hl112_3
               clear hi112_3 hl112_3
               have HR112_7 := Aside0.mk hi112_7
               have HC112_7 := Aside0.mk hl112_7
               clear hi112_7 hl112_7
               replace p112 := eq_true p112
               replace q112 := eq_true q112
               have ea_ := Option.some.inj (hx111_3.symm.trans hx112_3)
               injection ea_ with ea_ en_ ec_
               subst ea_
               subst ec_
               clear en_
               have ea_ := Option.some.inj (hx111_7.symm.trans hx112_7)
               injection ea_ with ea_ en_ ec_
               subst ea_
               subst ec_
               clear en_
               (try clear hx112_0)
               (try clear hx112_1)
               (try clear hx112_2)
               (try clear hx112_3)
               (try clear hx112_4)
               (try clear hx112_5)
               (try clear hx112_6)
               (try clear hx112_7)
               (try clear qi112)
               go_wp2
               go_ret
               exact ⟨by first | rfl | (simp; done) | (simp [*]; done) | (simp; generalize ByteArray.toList _ = zq_; cases zq_ <;> rfl), by repeat (first | exact Drawn0.refl _ | apply Drawn0.step)⟩
             · rw [if_neg c18] at H
               have c18b0 : (((rd_T37 l0 0).f0) == 3) = false := beq_eq_false_iff_ne.mpr c18
               have c18b1 : (((rd_T37 l0 0).f0) != 3) = true := bne_iff_ne.mpr c18
               by_cases c19 : ((rd_T37 l0 0).f6) = 0
               · rw [if_pos c19] at H
                 have c19b0 : (((rd_T37 l0 0).f6) == 0) = true := beq_iff_eq.mpr c19
                 have c19b1 : (((rd_T37 l0 0).f6) != 0) = false := bne_eq_false_iff_eq.mpr c19
                 clear c19
                 by_cases c20 : (((rd_T37 l0 0).f7).length : Int) > 0
                 · rw [if_pos c20] at H
                   have c20b0 : decide (0 < (((rd_T37 l0 0).f7).length : Int)) = true := decide_eq_true c20
                   have c20b1 : decide (0 < ((rd_T37 l0 0).f7).length) = true := decide_eq_true (by omega)
                   clear c20
                   obtain rfl := Option.some.inj H
                   have p111 : 0 ≤ (0 : Int) := (by omega)
                   have q111 : 0 < (l0.length : Int) := of_decide_eq_true (by first | (with_reducible assumption) | assumption)
                   obtain ⟨ad111, A111_3, c111_3, A111_7, c111_7, e111, hx111_0, hx111_1, hx111_2, hx111_3, hx111_4, hx111_5, hx111_6, hx111_7, hl111_3, hi111_3, hl111_7, hi111_7⟩ := at_T37 HR0.out 0 p111 q111
                   cases e111
                   have qi111 : (0 < l0.length) = True := eq_true (by omega)
                   (try simp only [Int.toNat_zero, Nat.zero_mul, Addr.add_zero'] at hx111_0 hx111_1 hx111_2 hx111_3 hx111_4 hx111_5 hx111_6 hx111_7)
                   have HR111_3 := Aside0.mk hi111_3
                   have HC111_3 := Aside0.mk hl111_3
                   clear hi111_3 hl111_3
                   have HR111_7 := Aside0.mk hi111_7
                   have HC111_7 := Aside0.mk hl111_7
                   clear hi111_7 hl111_7
                   replace p111 := eq_true p111
                   replace q111 := eq_true q111
                   (try clear hx106_0 hx106_1 hx106_2 hx106_3 hx106_4 hx106_5 hx106_6 hx106_7)
                   (try clear hx106_0 hx106_1 hx106_2 hx106_3 hx106_4 hx106_5 hx106_6 hx106_7)
                   (try clear hx106_0 hx106_1 hx106_2 hx106_3 hx106_4 hx106_5 hx106_6 hx106_7)
                   (try clear hx109_0 hx109_1 hx109_2 hx109_3 hx109_4 hx109_5 hx109_6 hx109_7)
                   (try clear hx109_0 hx109_1 hx109_2 hx109_3 hx109_4 hx109_5 hx109_6 hx109_7)
                   (try clear hx109_0 hx109_1 hx109_2 hx109_3 hx109_4 hx109_5 hx109_6 hx109_7)
                   (try clear hx109_0 hx109_1 hx109_2 hx109_3 hx109_4 hx109_5 hx109_6 hx109_7)
                   (try clear hx109_0 hx109_1 hx109_2 hx109_3 hx109_4 hx109_5 hx109_6 hx109_7)
                   go_wp2
                   go_ret
                   exact ⟨by first | rfl | (simp; done) | (simp [*]; done) | (simp; generalize ByteArray.toList _ = zq_; cases zq_ <;> rfl), by repeat (first | exact Drawn0.refl _ | apply Drawn0.step)⟩
                 · rw [if_neg c20] at H
                   have c20b0 : decide (0 < (((rd_T37 l0 0).f7).length : Int)) = false := decide_eq_false c20
                   have c20b1 : decide (0 < ((rd_T37 l0 0).f7).length) = false := decide_eq_false (by omega)
                   clear c20
                   by_cases c21 : ((rd_T37 l0 0).f0) = 4
                   · rw [if_pos c21] at H
                     have c21b0 : (((rd_T37 l0 0).f0) == 4) = true := beq_iff_eq.mpr c21
                     have c21b1 : (((rd_T37 l0 0).f0) != 4) = false := bne_eq_false_iff_eq.mpr c21
                     clear c21
                     obtain rfl := Option.some.inj H
                     have p111 : 0 ≤ (0 : Int) := (by omega)
                     have q111 : 0 < (l0.length : Int) := of_decide_eq_true (by first | (with_reducible assumption) | assumption)
                     obtain ⟨ad111, A111_3, c111_3, A111_7, c111_7, e111, hx111_0, hx111_1, hx111_2, hx111_3, hx111_4, hx111_5, hx111_6, hx111_7, hl111_3, hi111_3, hl111_7, hi111_7⟩ := at_T37 HR0.out 0 p111 q111
                     cases e111
                     have qi111 : (0 < l0.length) = True := eq_true (by omega)
                     (try simp only [Int.toNat_zero, Nat.zero_mul, Addr.add_zero'] at hx111_0 hx111_1 hx111_2 hx111_3 hx111_4 hx111_5 hx111_6 hx111_7)
                     have HR111_3 := Aside0.mk hi111_3
                     have HC111_3 := Aside0.mk hl111_3
                     clear hi111_3 hl111_3
                     have HR111_7 := Aside0.mk hi111_7
                     have HC111_7 := Aside0.mk hl111_7
                     clear hi111_7 hl111_7
                     replace p111 := eq_true p111
                     replace q111 := eq_true q111
                     (try clear hx106_0 hx106_1 hx106_2 hx106_3 hx106_4 hx106_5 hx106_6 hx106_7)
                     (try clear hx106_0 hx106_1 hx106_2 hx106_3 hx106_4 hx106_5 hx106_6 hx106_7)
                     (try clear hx106_0 hx106_1 hx106_2 hx106_3 hx106_4 hx106_5 hx106_6 hx106_7)
                     (try clear hx109_0 hx109_1 hx109_2 hx109_3 hx109_4 hx109_5 hx109_6 hx109_7)
                     (try clear hx109_0 hx109_1 hx109_2 hx109_3 hx109_4 hx109_5 hx109_6 hx109_7)
                     (try clear hx109_0 hx109_1 hx109_2 hx109_3 hx109_4 hx109_5 hx109_6 hx109_7)
                     (try clear hx109_0 hx109_1 hx109_2 hx109_3 hx109_4 hx109_5 hx109_6 hx109_7)
                     (try clear hx109_0 hx109_1 hx109_2 hx109_3 hx109_4 hx109_5 hx109_6 hx109_7)
                     have p113 : 0 ≤ (0 : Int) := (by omega)
                     have q113 : 0 < (l0.length : Int) := of_decide_eq_true (by first | (with_reducible assumption) | assumption)
                     obtain ⟨ad113, A113_3, c113_3, A113_7, c113_7, e113, hx113_0, hx113_1, hx113_2, hx113_3, hx113_4, hx113_5, hx113_6, hx113_7, hl113_3, hi113_3, hl113_7, hi113_7⟩ := at_T37 HR0.out 0 p113 q113
                     obtain rfl : ad111 = ad113 := (by injection e113)
                     have qi113 : (0 < l0.length) = True := eq_true (by omega)
                     (try simp only [Int.toNat_zero, Nat.zero_mul, Addr.add_zero'] at hx113_0 hx113_1 hx113_2 hx113_3 hx113_4 hx113_5 hx113_6 hx113_7)
                     have HR113_3 := Aside0.mk hi113_3
                     have HC113_3 := Aside0.mk hl113_3
                     clear hi113_3 hl113_3
                     have HR113_7 := Aside0.mk hi113_7
                     have HC113_7 := Aside0.mk hl113_7
                     clear hi113_7 hl113_7
                     replace p113 := eq_true p113
                     replace q113 := eq_true q113
                     have ea_ := Option.some.inj (hx111_3.symm.trans hx113_3)
                     injection ea_ with ea_ en_ ec_
                     subst ea_
                     subst ec_
                     clear en_
                     have ea_ := Option.some.inj (hx111_7.symm.trans hx113_7)
                     injection ea_ with ea_ en_ ec_
                     subst ea_
                     subst ec_
                     clear en_
                     (try clear hx113_0)
                     (try clear hx113_1)
                     (try clear hx113_2)
                     (try clear hx113_3)
                     (try clear hx113_4)
                     (try clear hx113_5)
                     (try clear hx113_6)
                     (try clear hx113_7)
                     (try clear qi113)
                     go_wp2
                     go_ret
                     exact ⟨by first | rfl | (simp; done) | (simp [*]; done) | (simp; generalize ByteArray.toList _ = zq_; cases zq_ <;> rfl), by repeat (first | exact Drawn0.refl _ | apply Drawn0.step)⟩
                   · rw [if_neg c21] at H
                     have c21b0 : (((rd_T37 l0 0).f0) == 4) = false := beq_eq_false_iff_ne.mpr c21
                     have c21b1 : (((rd_T37 l0 0).f0) != 4) = true := bne_iff_ne.mpr c21
                     obtain rfl := Option.some.inj H
                     have p111 : 0 ≤ (0 : Int) := (by omega)
                     have q111 : 0 < (l0.length : Int) := of_decide_eq_true (by first | (with_reducible assumption) | assumption)
                     obtain ⟨ad111, A111_3, c111_3, A111_7, c111_7, e111, hx111_0, hx111_1, hx111_2, hx111_3, hx111_4, hx111_5, hx111_6, hx111_7, hl111_3, hi111_3, hl111_7, hi111_7⟩ := at_T37 HR0.out 0 p111 q111
                     cases e111
                     have qi111 : (0 < l0.length) = True := eq_true (by omega)
                     (try simp only [Int.toNat_zero, Nat.zero_mul, Addr.add_zero'] at hx111_0 hx111_1 hx111_2 hx111_3 hx111_4 hx111_5 hx111_6 hx111_7)
                     have HR111_3 := Aside0.mk hi111_3
                     have HC111_3 := Aside0.mk hl111_3
                     clear hi111_3 hl111_3
                     have HR111_7 := Aside0.mk hi111_7
                     have HC111_7 := Aside0.mk hl111_7
                     clear hi111_7 hl111_7
                     replace p111 := eq_true p111
                     replace q111 := eq_true q111
                     (try clear hx106_0 hx106_1 hx106_2 hx106_3 hx106_4 hx106_5 hx106_6 hx106_7)
                     (try clear hx106_0 hx106_1 hx106_2 hx106_3 hx106_4 hx106_5 hx106_6 hx106_7)
                     (try clear hx106_0 hx106_1 hx106_2 hx106_3 hx106_4 hx106_5 hx106_6 hx106_7)
                     (try clear hx109_0 hx109_1 hx109_2 hx109_3 hx109_4 hx109_5 hx109_6 hx109_7)
                     (try clear hx109_0 hx109_1 hx109_2 hx109_3 hx109_4 hx109_5 hx109_6 hx109_7)
                     (try clear hx109_0 hx109_1 hx109_2 hx109_3 hx109_4 hx109_5 hx109_6 hx109_7)
                     (try clear hx109_0 hx109_1 hx109_2 hx109_3 hx109_4 hx109_5 hx109_6 hx109_7)
                     (try clear hx109_0 hx109_1 hx109_2 hx109_3 hx109_4 hx109_5 hx109_6 hx109_7)
                     have p113 : 0 ≤ (0 : Int) := (by omega)
                     have q113 : 0 < (l0.length : Int) := of_decide_eq_true (by first | (with_reducible assumption) | assumption)
                     obtain ⟨ad113, A113_3, c113_3, A113_7, c113_7, e113, hx113_0, hx113_1, hx113_2, hx113_3, hx113_4, hx113_5, hx113_6, hx113_7, hl113_3, hi113_3, hl113_7, hi113_7⟩ := at_T37 HR0.out 0 p113 q113
                     obtain rfl : ad111 = ad113 := (by injection e113)
                     have qi113 : (0 < l0.length) = True := eq_true (by omega)
                     (try simp only [Int.toNat_zero, Nat.zero_mul, Addr.add_zero'] at hx113_0 hx113_1 hx113_2 hx113_3 hx113_4 hx113_5 hx113_6 hx113_7)
                     have HR113_3 := Aside0.mk hi113_3
                     have HC113_3 := Aside0.mk hl113_3
                     clear hi113_3 hl113_3
                     have HR113_7 := Aside0.mk hi113_7
                     have HC113_7 := Aside0.mk hl113_7
                     clear hi113_7 hl113_7
                     replace p113 := eq_true p113
                     replace q113 := eq_true q113
                     have ea_ := Option.some.inj (hx111_3.symm.trans hx113_3)
                     injection ea_ with ea_ en_ ec_
                     subst ea_
                     subst ec_
                     clear en_
                     have ea_ := Option.some.inj (hx111_7.symm.trans hx113_7)
                     injection ea_ with ea_ en_ ec_
                     subst ea_
                     subst ec_
                     clear en_
                     (try clear hx113_0)
                     (try clear hx113_1)
                     (try clear hx113_2)
                     (try clear hx113_3)
                     (try clear hx113_4)
                     (try clear hx113_5)
                     (try clear hx113_6)
                     (try clear hx113_7)
                     (try clear qi113)
                     go_wp2
                     go_ret
                     exact ⟨by first | rfl | (simp; done) | (simp [*]; done) | (simp; generalize ByteArray.toList _ = zq_; cases zq_ <;> rfl), by repeat (first | exact Drawn0.refl _ | apply Drawn0.step)⟩
               · rw [if_neg c19] at H
                 have c19b0 : (((rd_T37 l0 0).f6) == 0) = false := beq_eq_false_iff_ne.mpr c19
                 have c19b1 : (((rd_T37 l0 0).f6) != 0) = true := bne_iff_ne.mpr c19
                 obtain rfl := Option.some.inj H
                 have p111 : 0 ≤ (0 : Int) := (by omega)
                 have q111 : 0 < (l0.length : Int) := of_decide_eq_true (by first | (with_reducible assumption) | assumption)
                 obtain ⟨ad111, A111_3, c111_3, A111_7, c111_7, e111, hx111_0, hx111_1, hx111_2, hx111_3, hx111_4, hx111_5, hx111_6, hx111_7, hl111_3, hi111_3, hl111_7, hi111_7⟩ := at_T37 HR0.out 0 p111 q111
                 cases e111
                 have qi111 : (0 < l0.length) = True := eq_true (by omega)
                 (try simp only [Int.toNat_zero, Nat.zero_mul, Addr.add_zero'] at hx111_0 hx111_1 hx111_2 hx111_3 hx111_4 hx111_5 hx111_6 hx111_7)
                 have HR111_3 := Aside0.mk hi111_3
                 have HC111_3 := Aside0.mk hl111_3
                 clear hi111_3 hl111_3
                 have HR111_7 := Aside0.mk hi111_7
                 have HC111_7 := Aside0.mk hl111_7
                 clear hi111_7 hl111_7
                 replace p111 := eq_true p111
                 replace q111 := eq_true q111
                 (try clear hx106_0 hx106_1 hx106_2 hx106_3 hx106_4 hx106_5 hx106_6 hx106_7)
                 (try clear hx106_0 hx106_1 hx106_2 hx106_3 hx106_4 hx106_5 hx106_6 hx106_7)
                 (try clear hx106_0 hx106_1 hx106_2 hx106_3 hx106_4 hx106_5 hx106_6 hx106_7)
                 (try clear hx109_0 hx109_1 hx109_2 hx109_3 hx109_4 hx109_5 hx109_6 hx109_7)
                 (try clear hx109_0 hx109_1 hx109_2 hx109_3 hx109_4 hx109_5 hx109_6 hx109_7)
                 (try clear hx109_0 hx109_1 hx109_2 hx109_3 hx109_4 hx109_5 hx109_6 hx109_7)
                 (try clear hx109_0 hx109_1 hx109_2 hx109_3 hx109_4 hx109_5 hx109_6 hx109_7)
                 (try clear hx109_0 hx109_1 hx109_2 hx109_3 hx109_4 hx109_5 hx109_6 hx109_7)
                 go_wp2
                 go_ret
                 exact ⟨by first | rfl | (simp; done) | (simp [*]; done) | (simp; generalize ByteArray.toList _ = zq_; cases zq_ <;> rfl), by repeat (first | exact Drawn0.refl _ | apply Drawn0.step)⟩
           · rw [if_neg c17] at H
             exact absurd H (by simp)

/-! ### spec_l7Name: function 69 -/
def spec_l7Name.l0 : Nat → ByteArray → Int → Option (Bool)
 | 0, _, _ => none
 | k + 1, x0, x3 => if x3 < (x0.size : Int) then (if 0 ≤ x3 then (if (bt x0 x3) < 97 then (some false) else (if (bt x0 x3) > 122 then (some false) else (spec_l7Name.l0 k x0 (wrap64 (x3 + 1))))) else (none)) else ((spec_l1In.f (x0.size : Int) 1 8).bind fun t114 => (some t114))
def spec_l7Name.f (k : Nat) (a0 : ByteArray) : Option (Bool) := spec_l7Name.l0 k a0 0
theorem spec_l7Name.mono_l : ∀ k, (∀ y0 y1, LeO (spec_l7Name.l0 k y0 y1) (spec_l7Name.l0 (k + 1) y0 y1))
 | 0 => fun _ _ r h => by simp [spec_l7Name.l0] at h
 | k + 1 => by
   have ih0 := spec_l7Name.mono_l k
   · intro y0 y1
     unfold spec_l7Name.l0
     repeat' first
     | (with_reducible exact ih0 _ _)
     | (with_reducible exact LeO.refl _)
     | (with_reducible exact LeO.none _)
     | (with_reducible refine LeO.ite ?_ ?_)
     | (with_reducible refine LeO.bind ?_ (fun _ => ?_))
     | exact ih0 _ _
     | exact LeO.none _
     | refine LeO.ite ?_ ?_
     | refine LeO.bind ?_ (fun _ => ?_)
theorem spec_l7Name.mono : ∀ a0 k, LeO (spec_l7Name.f k a0) (spec_l7Name.f (k + 1) a0) := by
 intro a0 k
 have ih0 := spec_l7Name.mono_l k
 unfold spec_l7Name.f
 repeat' first
  | (with_reducible exact ih0 _ _)
  | (with_reducible exact LeO.refl _)
  | (with_reducible exact LeO.none _)
  | (with_reducible refine LeO.ite ?_ ?_)
  | (with_reducible refine LeO.bind ?_ (fun _ => ?_))
  | exact ih0 _ _
  | exact LeO.none _
  | refine LeO.ite ?_ ?_
  | refine LeO.bind ?_ (fun _ => ?_)
set_option maxHeartbeats 8000000 in
set_option maxRecDepth 100000 in
theorem spec_l7Name.calls (k : Nat) (a0 : ByteArray) (r : Bool) (w : World) (h : spec_l7Name.f k a0 = some r) :
 Calls Try.prog 69 #[.string a0] w fun e w' => e = .returned (.bool r) ∧ Drawn0 w w' := by
 have H : (spec_l7Name.l0 k a0 0) = some r := h
 clear h
 have H' := Aside0.mk H
 clear H
 go_enter Try.func69, Try.ntmps69
 go_wp2
 go_loopg [3] k (fun kq v3 w' => ∃ (x3_1 : Int), v3 = .int .i64 x3_1 ∧ Aside0 (spec_l7Name.l0 kq a0 x3_1 = some r) ∧ Aside0 (kq ≤ k) ∧ Drawn0 w w')
 case atStart => exact ⟨(0), (by first | rfl | (simp; done) | (simp [*]; done) | (simp; generalize ByteArray.toList _ = zq_; cases zq_ <;> rfl)), H', ⟨Nat.le_refl _⟩, by repeat (first | exact Drawn0.refl _ | apply Drawn0.step)⟩
 case round =>
  clear H'
  obtain ⟨x3_1, rfl, HA, HK1, ⟨m1, rfl⟩⟩ := hrel
  cases gk with
  | zero => exact absurd HA.out (by simp [spec_l7Name.l0])
  | succ k1 =>
    have H := HA.out
    clear HA
    simp only [spec_l7Name.l0] at H
    by_cases c2 : x3_1 < (a0.size : Int)
    · rw [if_pos c2] at H
      have c2b0 : decide (x3_1 < (a0.size : Int)) = true := decide_eq_true c2
      clear c2
      by_cases c3 : 0 ≤ x3_1
      · rw [if_pos c3] at H
        have c3b0 : decide (0 ≤ x3_1) = true := decide_eq_true c3
        clear c3
        by_cases c5 : (bt a0 x3_1) < 97
        · rw [if_pos c5] at H
          have c5b0 : decide ((bt a0 x3_1) < 97) = true := decide_eq_true c5
          clear c5
          obtain rfl := Option.some.inj H
          have p4 : 0 ≤ (x3_1 : Int) := of_decide_eq_true (by first | (with_reducible assumption) | assumption)
          have q4 : x3_1 < (a0.size : Int) := of_decide_eq_true (by first | (with_reducible assumption) | assumption)
          have hx4 := bt_at a0 x3_1
          replace p4 := eq_true p4
          replace q4 := eq_true q4
          go_wp2
          go_ret
          exact ⟨by first | rfl | (simp; done) | (simp [*]; done) | (simp; generalize ByteArray.toList _ = zq_; cases zq_ <;> rfl), by repeat (first | exact Drawn0.refl _ | apply Drawn0.step)⟩
        · rw [if_neg c5] at H
          have c5b0 : decide ((bt a0 x3_1) < 97) = false := decide_eq_false c5
          clear c5
          by_cases c7 : (bt a0 x3_1) > 122
          · rw [if_pos c7] at H
            have c7b0 : decide (122 < (bt a0 x3_1)) = true := decide_eq_true c7
            clear c7
            obtain rfl := Option.some.inj H
            have p4 : 0 ≤ (x3_1 : Int) := of_decide_eq_true (by first | (with_reducible assumption) | assumption)
            have q4 : x3_1 < (a0.size : Int) := of_decide_eq_true (by first | (with_reducible assumption) | assumption)
            have hx4 := bt_at a0 x3_1
            replace p4 := eq_true p4
            replace q4 := eq_true q4
            have p6 : 0 ≤ (x3_1 : Int) := of_decide_eq_true (by first | (with_reducible assumption) | assumption)
            have q6 : x3_1 < (a0.size : Int) := of_decide_eq_true (by first | (with_reducible assumption) | assumption)
            have hx6 := bt_at a0 x3_1
            replace p6 := eq_true p6
            replace q6 := eq_true q6
            go_wp2
            go_ret
            exact ⟨by first | rfl | (simp; done) | (simp [*]; done) | (simp; generalize ByteArray.toList _ = zq_; cases zq_ <;> rfl), by repeat (first | exact Drawn0.refl _ | apply Drawn0.step)⟩
          · rw [if_neg c7] at H
            have c7b0 : decide (122 < (bt a0 x3_1)) = false := decide_eq_false c7
            clear c7
            have H' := Aside0.mk H
            clear H
            have p4 : 0 ≤ (x3_1 : Int) := of_decide_eq_true (by first | (with_reducible assumption) | assumption)
            have q4 : x3_1 < (a0.size : Int) := of_decide_eq_true (by first | (with_reducible assumption) | assumption)
            have hx4 := bt_at a0 x3_1
            replace p4 := eq_true p4
            replace q4 := eq_true q4
            have p6 : 0 ≤ (x3_1 : Int) := of_decide_eq_true (by first | (with_reducible assumption) | assumption)
            have q6 : x3_1 < (a0.size : Int) := of_decide_eq_true (by first | (with_reducible assumption) | assumption)
            have hx6 := bt_at a0 x3_1
            replace p6 := eq_true p6
            replace q6 := eq_true q6
            go_wp2
            go_roundg k1
            case measure => have := HK1.out; omega
            case rel => exact ⟨(wrap64 (x3_1 + 1)), (by first | rfl | (simp; done) | (simp [*]; done) | (simp; generalize ByteArray.toList _ = zq_; cases zq_ <;> rfl)), H', ⟨by have := HK1.out; omega⟩, by repeat (first | exact Drawn0.refl _ | apply Drawn0.step)⟩
      · rw [if_neg c3] at H
        exact absurd H (by simp)
    · rw [if_neg c2] at H
      have c2b0 : decide (x3_1 < (a0.size : Int)) = false := decide_eq_false c2
      clear c2
      replace H := Option.bind_eq_some_iff.mp H
      obtain ⟨t114, A80, H⟩ := H
      replace H : (some t114) = some r := H
      have A8 := Aside0.mk A80
      clear A80
      obtain rfl := Option.some.inj H
      go_wp2_with (first | ((with_reducible refine gate_callee (f := 72) rfl ?_); refine goesL_ (some 22) rfl rfl Try.func72 (by kernel_rfl) rfl #[.int .i64 (a0.size : Int), .int .i64 1, .int .i64 8] rfl (by (try simp only [List.map_toArray, List.map_cons, List.map_nil]); first | done | rfl | (simp only [List.length_drop, List.length_take]; rfl)) ?_; (with_reducible refine (spec_l1In.calls (a0.size : Int) 1 8 t114 _ A8.out).mono ?_); rintro e w' ⟨rfl, ⟨nd, rfl⟩⟩; refine ⟨_, rfl, ?_⟩))
      go_ret
      exact ⟨by first | rfl | (simp; done) | (simp [*]; done) | (simp; generalize ByteArray.toList _ = zq_; cases zq_ <;> rfl), by repeat (first | exact Drawn0.refl _ | apply Drawn0.step)⟩

end Go.Proofs.Ytehdbobpbcjmeaa.PFnExactPackOps

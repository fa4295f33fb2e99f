/- Functions of the program as Lean functions, each with the proof that its call comes to what that function says (texts written by a program of this session). Conditions: those that stand in each theorem. -/
import Derived.Test.YtlneiofnmbcheaaPFnExactPackOpx0
import Derived.Test.YtlneiofnmbcheaaPFnExactPackOpx1
import Derived.Test.YtlneiofnmbcheaaPFnExactPackOpx2
namespace Go.Proofs.Ytlneiofnmbcheaa.PFnExactPackOp
open Go.RowKit Go.Proofs.YtlneiofnmbcheaaW.PrintWords Go.Proofs.YtlneiofnmbcheaaW.PrintLast Go.Proofs.YtlneiofnmbcheaaW.PrintMore
attribute [local go_sem] max2_int min2_int max_two min_two max_three min_three max_four min_four   -- for this text's walks alone
set_option linter.unusedVariables false
set_option linter.unusedSimpArgs false

/-! ### spec_l8Fault: function 97 -/
mutual
def spec_l8Fault.j0 : Nat → List (S62) → Bool → Option (Int)
  | 0, _, _ => none
  | k + 1, x0, x26 => if x26 = true then (some 5) else (if 0 < (x0.length : Int) then (if (((rd_T62 x0 0).f3).length : Int) > 6 then (some 2) else ((spec_l8Uids.f k ((rd_T62 x0 0).f3)).bind fun t124 => (if t124 = true then (if ((rd_T62 x0 0).f0) = 4 then ((spec_l1In.f ((rd_T62 x0 0).f4) 1 3).bind fun t125 => (if t125 = true then ((spec_l1In.f ((rd_T62 x0 0).f5) 0 15).bind fun t126 => (if t126 = true then ((spec_l1In.f ((rd_T62 x0 0).f6) 0 9999).bind fun t127 => (spec_l8Fault.j1 k x0 (!t127))) else (spec_l8Fault.j1 k x0 true))) else (spec_l8Fault.j1 k x0 true))) else ((spec_l1In.f ((rd_T62 x0 0).f5) 0 15).bind fun t128 => (if t128 = true then ((spec_l1In.f ((rd_T62 x0 0).f6) 0 9999).bind fun t129 => (spec_l8Fault.j1 k x0 (!t129))) else (spec_l8Fault.j1 k x0 true)))) else (spec_l8Fault.j1 k x0 true)))) else (none))
def spec_l8Fault.j1 : Nat → List (S62) → Bool → Option (Int)
  | 0, _, _ => none
  | k + 1, x0, x69 => if x69 = true then (some 3) else (if 0 < (x0.length : Int) then (if (((rd_T62 x0 0).f7).length : Int) > 400 then (some 2) else (some 0)) else (none))
end
def spec_l8Fault.f (k : Nat) (l0 : List (S62)) : Option (Int) := (spec_l8Form.f k l0).bind fun t117 => (if t117 = true then (if 0 < (l0.length : Int) then ((spec_l7Name.f k ((rd_T62 l0 0).f1)).bind fun t119 => (if t119 = true then ((spec_l8Copies.f ((rd_T62 l0 0).f0)).bind fun t120 => (if t120 = true then ((spec_l7Name.f k ((rd_T62 l0 0).f2)).bind fun t121 => (spec_l8Fault.j0 k l0 (!t121))) else (spec_l8Fault.j0 k l0 false))) else (spec_l8Fault.j0 k l0 true))) else (none)) else (some 1))
theorem spec_l8Fault.mono_l : ∀ k, (∀ y0 y1, LeO (spec_l8Fault.j0 k y0 y1) (spec_l8Fault.j0 (k + 1) y0 y1)) ∧ (∀ y0 y1, LeO (spec_l8Fault.j1 k y0 y1) (spec_l8Fault.j1 (k + 1) y0 y1))
  | 0 => ⟨fun _ _ r h => by simp [spec_l8Fault.j0] at h, fun _ _ r h => by simp [spec_l8Fault.j1] at h⟩
  | k + 1 => by
    obtain ⟨ih0, ih1⟩ := spec_l8Fault.mono_l k
    refine ⟨?_, ?_⟩
    · intro y0 y1
      unfold spec_l8Fault.j0
      repeat' first
      | (with_reducible exact ih0 _ _)
      | (with_reducible exact ih1 _ _)
      | (with_reducible exact spec_l7Name.mono _ _)
      | (with_reducible exact spec_l8Form.mono _ _)
      | (with_reducible exact spec_l8Uids.mono _ _)
      | (with_reducible exact LeO.refl _)
      | (with_reducible exact LeO.none _)
      | (with_reducible refine LeO.ite ?_ ?_)
      | (with_reducible refine LeO.bind ?_ (fun _ => ?_))
      | exact ih0 _ _
      | exact ih1 _ _
      | exact spec_l7Name.mono _ _
      | exact spec_l8Form.mono _ _
      | exact spec_l8Uids.mono _ _
      | exact LeO.none _
      | refine LeO.ite ?_ ?_
      | refine LeO.bind ?_ (fun _ => ?_)
    · intro y0 y1
      unfold spec_l8Fault.j1
      repeat' first
      | (with_reducible exact ih0 _ _)
      | (with_reducible exact ih1 _ _)
      | (with_reducible exact spec_l7Name.mono _ _)
      | (with_reducible exact spec_l8Form.mono _ _)
      | (with_reducible exact spec_l8Uids.mono _ _)
      | (with_reducible exact LeO.refl _)
      | (with_reducible exact LeO.none _)
      | (with_reducible refine LeO.ite ?_ ?_)
      | (with_reducible refine LeO.bind ?_ (fun _ => ?_))
      | exact ih0 _ _
      | exact ih1 _ _
      | exact spec_l7Name.mono _ _
      | exact spec_l8Form.mono _ _
      | exact spec_l8Uids.mono _ _
      | exact LeO.none _
      | refine LeO.ite ?_ ?_
      | refine LeO.bind ?_ (fun _ => ?_)
theorem spec_l8Fault.mono : ∀ a0 k, LeO (spec_l8Fault.f k a0) (spec_l8Fault.f (k + 1) a0) := by
  intro a0 k
  obtain ⟨ih0, ih1⟩ := spec_l8Fault.mono_l k
  unfold spec_l8Fault.f
  repeat' first
      | (with_reducible exact ih0 _ _)
      | (with_reducible exact ih1 _ _)
      | (with_reducible exact spec_l7Name.mono _ _)
      | (with_reducible exact spec_l8Form.mono _ _)
      | (with_reducible exact spec_l8Uids.mono _ _)
      | (with_reducible exact LeO.refl _)
      | (with_reducible exact LeO.none _)
      | (with_reducible refine LeO.ite ?_ ?_)
      | (with_reducible refine LeO.bind ?_ (fun _ => ?_))
      | exact ih0 _ _
      | exact ih1 _ _
      | exact spec_l7Name.mono _ _
      | exact spec_l8Form.mono _ _
      | exact spec_l8Uids.mono _ _
      | exact LeO.none _
      | refine LeO.ite ?_ ?_
      | refine LeO.bind ?_ (fun _ => ?_)
set_option maxHeartbeats 8000000 in
set_option maxRecDepth 100000 in
theorem spec_l8Fault.calls (k : Nat) (A0 : Option Addr) (c0 : Nat) (l0 : List (S62)) (r : Int) (w : World) (hr0 : Kd.C k62 w A0 l0.length l0) (hc0 : l0.length ≤ c0) (h : spec_l8Fault.f k l0 = some r) :
    Calls Try.prog 97 #[.pointer A0] w fun e w' => e = .returned (.int .i64 r) ∧ Drawn0 w w' := by
  have HR0 := Aside0.mk hr0
  have HC0 := Aside0.mk hc0
  clear hr0 hc0
  have H : ((spec_l8Form.f k l0).bind fun t117 => (if t117 = true then (if 0 < (l0.length : Int) then ((spec_l7Name.f k ((rd_T62 l0 0).f1)).bind fun t119 => (if t119 = true then ((spec_l8Copies.f ((rd_T62 l0 0).f0)).bind fun t120 => (if t120 = true then ((spec_l7Name.f k ((rd_T62 l0 0).f2)).bind fun t121 => (spec_l8Fault.j0 k l0 (!t121))) else (spec_l8Fault.j0 k l0 false))) else (spec_l8Fault.j0 k l0 true))) else (none)) else (some 1))) = some r := h
  clear h
  replace H := Option.bind_eq_some_iff.mp H
  obtain ⟨t117, A20, H⟩ := H
  replace H : (if t117 = true then (if 0 < (l0.length : Int) then ((spec_l7Name.f k ((rd_T62 l0 0).f1)).bind fun t119 => (if t119 = true then ((spec_l8Copies.f ((rd_T62 l0 0).f0)).bind fun t120 => (if t120 = true then ((spec_l7Name.f k ((rd_T62 l0 0).f2)).bind fun t121 => (spec_l8Fault.j0 k l0 (!t121))) else (spec_l8Fault.j0 k l0 false))) else (spec_l8Fault.j0 k l0 true))) else (none)) else (some 1)) = some r := H
  have A2 := Aside0.mk A20
  clear A20
  by_cases c3 : t117 = true
  · subst c3
    have H1 : (if 0 < (l0.length : Int) then ((spec_l7Name.f k ((rd_T62 l0 0).f1)).bind fun t119 => (if t119 = true then ((spec_l8Copies.f ((rd_T62 l0 0).f0)).bind fun t120 => (if t120 = true then ((spec_l7Name.f k ((rd_T62 l0 0).f2)).bind fun t121 => (spec_l8Fault.j0 k l0 (!t121))) else (spec_l8Fault.j0 k l0 false))) else (spec_l8Fault.j0 k l0 true))) else (none)) = some r := by rw [if_pos rfl] at H; exact H
    clear H
    have H := H1
    clear H1
    have HC4 := Aside0.mk H
    clear H
    go_enter Try.func97, Try.ntmps97
    go_upto_region 3 with (first | ((with_reducible refine gate_callee (f := 130) rfl ?_); refine goesL_ (some 4) rfl rfl Try.func130 (by kernel_rfl) rfl #[.pointer A0] rfl (by (try simp only [List.map_toArray, List.map_cons, List.map_nil]); first | done | rfl | (simp only [List.length_drop, List.length_take]; rfl)) ?_; (with_reducible refine (spec_l8Form.calls k _ (l0).length l0 true _ ?side1 ?side2 A2.out).mono ?_); (case side1 => repeat (first | exact HR0.out | (with_reducible refine Kd.C_alloc ?_ _) | (with_reducible refine Kd.C_drewN ?_ _) | (with_reducible refine Kd.C_drew ?_))); (case side2 => exact Nat.le_refl _); rintro e w' ⟨rfl, ⟨nd, rfl⟩⟩; refine ⟨_, rfl, ?_⟩))
    (try simp only [Act.put, List.setIfInBounds_toArray, List.set_cons_zero, List.set_cons_succ])
    go_cut [26] (fun v26 wc => ∃ (kq : Nat) (x26_3 : Bool), v26 = .bool x26_3 ∧ Aside0 (spec_l8Fault.j0 kq l0 x26_3 = some r) ∧ Aside0 (kq ≤ k) ∧ Drawn0 w wc)
    case first =>
      have H := HC4.out
      clear HC4
      by_cases c5 : 0 < (l0.length : Int)
      case neg => rw [if_neg c5] at H; exact absurd H (by simp)
      rw [if_pos c5] at H
      have c5b0 : decide (0 < (l0.length : Int)) = true := decide_eq_true c5
      have c5b1 : decide (0 < l0.length) = true := decide_eq_true (by omega)
      clear c5
      (first | rw [c5b0] | (simp only [i64_w, i32_w]; rw [c5b0]) | skip)
      replace H := Option.bind_eq_some_iff.mp H
      obtain ⟨t119, A60, H⟩ := H
      replace H : (if t119 = true then ((spec_l8Copies.f ((rd_T62 l0 0).f0)).bind fun t120 => (if t120 = true then ((spec_l7Name.f k ((rd_T62 l0 0).f2)).bind fun t121 => (spec_l8Fault.j0 k l0 (!t121))) else (spec_l8Fault.j0 k l0 false))) else (spec_l8Fault.j0 k l0 true)) = some r := H
      have A6 := Aside0.mk A60
      clear A60
      by_cases c7 : t119 = true
      · subst c7
        have H1 : ((spec_l8Copies.f ((rd_T62 l0 0).f0)).bind fun t120 => (if t120 = true then ((spec_l7Name.f k ((rd_T62 l0 0).f2)).bind fun t121 => (spec_l8Fault.j0 k l0 (!t121))) else (spec_l8Fault.j0 k l0 false))) = some r := by rw [if_pos rfl] at H; exact H
        clear H
        have H := H1
        clear H1
        replace H := Option.bind_eq_some_iff.mp H
        obtain ⟨t120, A80, H⟩ := H
        replace H : (if t120 = true then ((spec_l7Name.f k ((rd_T62 l0 0).f2)).bind fun t121 => (spec_l8Fault.j0 k l0 (!t121))) else (spec_l8Fault.j0 k l0 false)) = some r := H
        have A8 := Aside0.mk A80
        clear A80
        by_cases c9 : t120 = true
        · subst c9
          have H1 : ((spec_l7Name.f k ((rd_T62 l0 0).f2)).bind fun t121 => (spec_l8Fault.j0 k l0 (!t121))) = some r := by rw [if_pos rfl] at H; exact H
          clear H
          have H := H1
          clear H1
          replace H := Option.bind_eq_some_iff.mp H
          obtain ⟨t121, A100, H⟩ := H
          replace H : (spec_l8Fault.j0 k l0 (!t121)) = some r := H
          have A10 := Aside0.mk A100
          clear A100
          have H' := Aside0.mk H
          clear H
          have p118 : 0 ≤ (0 : Int) := (by omega)
          have q118 : 0 < (l0.length : Int) := of_decide_eq_true (by first | (with_reducible assumption) | assumption)
          obtain ⟨ad118, A118_3, c118_3, A118_7, c118_7, e118, hx118_0, hx118_1, hx118_2, hx118_3, hx118_4, hx118_5, hx118_6, hx118_7, hl118_3, hi118_3, hl118_7, hi118_7⟩ := at_T62 HR0.out 0 p118 q118
          cases e118
          have qi118 : (0 < l0.length) = True := eq_true (by omega)
          (try simp only [Int.toNat_zero, Nat.zero_mul, Addr.add_zero'] at hx118_0 hx118_1 hx118_2 hx118_3 hx118_4 hx118_5 hx118_6 hx118_7)
          have HR118_3 := Aside0.mk hi118_3
          have HC118_3 := Aside0.mk hl118_3
          clear hi118_3 hl118_3
          have HR118_7 := Aside0.mk hi118_7
          have HC118_7 := Aside0.mk hl118_7
          clear hi118_7 hl118_7
          replace p118 := eq_true p118
          replace q118 := eq_true q118
          go_wp2_with (first | ((with_reducible refine gate_callee (f := 131) rfl ?_); refine goesL_ (some 10) rfl rfl Try.func131 (by kernel_rfl) rfl #[.string ((rd_T62 l0 0).f1)] rfl (by (try simp only [List.map_toArray, List.map_cons, List.map_nil]); first | done | rfl | (simp only [List.length_drop, List.length_take]; rfl)) ?_; (with_reducible refine (spec_l7Name.calls k ((rd_T62 l0 0).f1) true _ A6.out).mono ?_); rintro e w' ⟨rfl, ⟨nd, rfl⟩⟩; refine ⟨_, rfl, ?_⟩) | (go_at_call 132; (with_reducible refine (spec_l8Copies.calls ((rd_T62 l0 0).f0) true _ A8.out).mono ?_); rintro e w' ⟨rfl, ⟨nd, rfl⟩⟩) | (go_at_call 131; (with_reducible refine (spec_l7Name.calls k ((rd_T62 l0 0).f2) t121 _ A10.out).mono ?_); rintro e w' ⟨rfl, ⟨nd, rfl⟩⟩))
          go_meet
          case rel => exact ⟨_, (!t121), (by first | rfl | (simp; done) | (simp [*]; done) | (simp; generalize ByteArray.toList _ = zq_; cases zq_ <;> rfl)), H', ⟨by first | omega | exact Nat.le_refl _⟩, by repeat (first | exact Drawn0.refl _ | apply Drawn0.step)⟩
        · replace c9 := Bool.eq_false_iff.mpr c9
          subst c9
          have H1 : (spec_l8Fault.j0 k l0 false) = some r := by rw [if_neg (show ¬ (false = true) by decide)] at H; exact H
          clear H
          have H := H1
          clear H1
          have H' := Aside0.mk H
          clear H
          have p118 : 0 ≤ (0 : Int) := (by omega)
          have q118 : 0 < (l0.length : Int) := of_decide_eq_true (by first | (with_reducible assumption) | assumption)
          obtain ⟨ad118, A118_3, c118_3, A118_7, c118_7, e118, hx118_0, hx118_1, hx118_2, hx118_3, hx118_4, hx118_5, hx118_6, hx118_7, hl118_3, hi118_3, hl118_7, hi118_7⟩ := at_T62 HR0.out 0 p118 q118
          cases e118
          have qi118 : (0 < l0.length) = True := eq_true (by omega)
          (try simp only [Int.toNat_zero, Nat.zero_mul, Addr.add_zero'] at hx118_0 hx118_1 hx118_2 hx118_3 hx118_4 hx118_5 hx118_6 hx118_7)
          have HR118_3 := Aside0.mk hi118_3
          have HC118_3 := Aside0.mk hl118_3
          clear hi118_3 hl118_3
          have HR118_7 := Aside0.mk hi118_7
          have HC118_7 := Aside0.mk hl118_7
          clear hi118_7 hl118_7
          replace p118 := eq_true p118
          replace q118 := eq_true q118
          go_wp2_with (first | ((with_reducible refine gate_callee (f := 131) rfl ?_); refine goesL_ (some 10) rfl rfl Try.func131 (by kernel_rfl) rfl #[.string ((rd_T62 l0 0).f1)] rfl (by (try simp only [List.map_toArray, List.map_cons, List.map_nil]); first | done | rfl | (simp only [List.length_drop, List.length_take]; rfl)) ?_; (with_reducible refine (spec_l7Name.calls k ((rd_T62 l0 0).f1) true _ A6.out).mono ?_); rintro e w' ⟨rfl, ⟨nd, rfl⟩⟩; refine ⟨_, rfl, ?_⟩) | (go_at_call 132; (with_reducible refine (spec_l8Copies.calls ((rd_T62 l0 0).f0) false _ A8.out).mono ?_); rintro e w' ⟨rfl, ⟨nd, rfl⟩⟩))
          go_meet
          case rel => exact ⟨_, (false), (by first | rfl | (simp; done) | (simp [*]; done) | (simp; generalize ByteArray.toList _ = zq_; cases zq_ <;> rfl)), H', ⟨by first | omega | exact Nat.le_refl _⟩, by repeat (first | exact Drawn0.refl _ | apply Drawn0.step)⟩
      · replace c7 := Bool.eq_false_iff.mpr c7
        subst c7
        have H1 : (spec_l8Fault.j0 k l0 true) = some r := by rw [if_neg (show ¬ (false = true) by decide)] at H; exact H
        clear H
        have H := H1
        clear H1
        have H' := Aside0.mk H
        clear H
        have p118 : 0 ≤ (0 : Int) := (by omega)
        have q118 : 0 < (l0.length : Int) := of_decide_eq_true (by first | (with_reducible assumption) | assumption)
        obtain ⟨ad118, A118_3, c118_3, A118_7, c118_7, e118, hx118_0, hx118_1, hx118_2, hx118_3, hx118_4, hx118_5, hx118_6, hx118_7, hl118_3, hi118_3, hl118_7, hi118_7⟩ := at_T62 HR0.out 0 p118 q118
        cases e118
        have qi118 : (0 < l0.length) = True := eq_true (by omega)
        (try simp only [Int.toNat_zero, Nat.zero_mul, Addr.add_zero'] at hx118_0 hx118_1 hx118_2 hx118_3 hx118_4 hx118_5 hx118_6 hx118_7)
        have HR118_3 := Aside0.mk hi118_3
        have HC118_3 := Aside0.mk hl118_3
        clear hi118_3 hl118_3
        have HR118_7 := Aside0.mk hi118_7
        have HC118_7 := Aside0.mk hl118_7
        clear hi118_7 hl118_7
        replace p118 := eq_true p118
        replace q118 := eq_true q118
        go_wp2_with (first | ((with_reducible refine gate_callee (f := 131) rfl ?_); refine goesL_ (some 10) rfl rfl Try.func131 (by kernel_rfl) rfl #[.string ((rd_T62 l0 0).f1)] rfl (by (try simp only [List.map_toArray, List.map_cons, List.map_nil]); first | done | rfl | (simp only [List.length_drop, List.length_take]; rfl)) ?_; (with_reducible refine (spec_l7Name.calls k ((rd_T62 l0 0).f1) false _ A6.out).mono ?_); rintro e w' ⟨rfl, ⟨nd, rfl⟩⟩; refine ⟨_, rfl, ?_⟩))
        go_meet
        case rel => exact ⟨_, (true), (by first | rfl | (simp; done) | (simp [*]; done) | (simp; generalize ByteArray.toList _ = zq_; cases zq_ <;> rfl)), H', ⟨by first | omega | exact Nat.le_refl _⟩, by repeat (first | exact Drawn0.refl _ | apply Drawn0.step)⟩
    case rest =>
      clear HC4
      try clear q1
      try clear hx1
      try clear qi1
      try clear c3
      try clear hx118_0
      try clear hx118_1
      try clear hx118_2
      try clear hx118_3
      try clear hx118_4
      try clear hx118_5
      try clear hx118_6
      try clear hx118_7
      try clear q118
      obtain ⟨kq, x26_3, rfl, HA, HJ3, ⟨mc3, rfl⟩⟩ := hcut
      cases kq with
      | zero => exact absurd HA.out (by simp [spec_l8Fault.j0])
      | succ kj3 =>
        have H := HA.out
        clear HA
        simp only [spec_l8Fault.j0] at H
        by_cases c11 : x26_3 = true
        · subst c11
          have H1 : (some 5) = some r := by rw [if_pos rfl] at H; exact H
          clear H
          have H := H1
          clear H1
          obtain rfl := Option.some.inj H
          go_wp2
          go_ret
          exact ⟨by first | rfl | (simp; done) | (simp [*]; done) | (simp; generalize ByteArray.toList _ = zq_; cases zq_ <;> rfl), by repeat (first | exact Drawn0.refl _ | apply Drawn0.step)⟩
        · replace c11 := Bool.eq_false_iff.mpr c11
          subst c11
          have H1 : (if 0 < (l0.length : Int) then (if (((rd_T62 l0 0).f3).length : Int) > 6 then (some 2) else ((spec_l8Uids.f kj3 ((rd_T62 l0 0).f3)).bind fun t124 => (if t124 = true then (if ((rd_T62 l0 0).f0) = 4 then ((spec_l1In.f ((rd_T62 l0 0).f4) 1 3).bind fun t125 => (if t125 = true then ((spec_l1In.f ((rd_T62 l0 0).f5) 0 15).bind fun t126 => (if t126 = true then ((spec_l1In.f ((rd_T62 l0 0).f6) 0 9999).bind fun t127 => (spec_l8Fault.j1 kj3 l0 (!t127))) else (spec_l8Fault.j1 kj3 l0 true))) else (spec_l8Fault.j1 kj3 l0 true))) else ((spec_l1In.f ((rd_T62 l0 0).f5) 0 15).bind fun t128 => (if t128 = true then ((spec_l1In.f ((rd_T62 l0 0).f6) 0 9999).bind fun t129 => (spec_l8Fault.j1 kj3 l0 (!t129))) else (spec_l8Fault.j1 kj3 l0 true)))) else (spec_l8Fault.j1 kj3 l0 true)))) else (none)) = some r := by rw [if_neg (show ¬ (false = true) by decide)] at H; exact H
          clear H
          have H := H1
          clear H1
          by_cases c12 : 0 < (l0.length : Int)
          case neg => rw [if_neg c12] at H; exact absurd H (by simp)
          rw [if_pos c12] at H
          have c12b0 : decide (0 < (l0.length : Int)) = true := decide_eq_true c12
          have c12b1 : decide (0 < l0.length) = true := decide_eq_true (by omega)
          clear c12
          by_cases c13 : (((rd_T62 l0 0).f3).length : Int) > 6
          · rw [if_pos c13] at H
            have c13b0 : decide (6 < (((rd_T62 l0 0).f3).length : Int)) = true := decide_eq_true c13
            have c13b1 : decide (6 < ((rd_T62 l0 0).f3).length) = true := decide_eq_true (by omega)
            clear c13
            obtain rfl := Option.some.inj H
            have p122 : 0 ≤ (0 : Int) := (by omega)
            have q122 : 0 < (l0.length : Int) := of_decide_eq_true (by first | (with_reducible assumption) | assumption)
            obtain ⟨ad122, A122_3, c122_3, A122_7, c122_7, e122, hx122_0, hx122_1, hx122_2, hx122_3, hx122_4, hx122_5, hx122_6, hx122_7, hl122_3, hi122_3, hl122_7, hi122_7⟩ := at_T62 HR0.out 0 p122 q122
            cases e122
            have qi122 : (0 < l0.length) = True := eq_true (by omega)
            (try simp only [Int.toNat_zero, Nat.zero_mul, Addr.add_zero'] at hx122_0 hx122_1 hx122_2 hx122_3 hx122_4 hx122_5 hx122_6 hx122_7)
            have HR122_3 := Aside0.mk hi122_3
            have HC122_3 := Aside0.mk hl122_3
            clear hi122_3 hl122_3
            have HR122_7 := Aside0.mk hi122_7
            have HC122_7 := Aside0.mk hl122_7
            clear hi122_7 hl122_7
            replace p122 := eq_true p122
            replace q122 := eq_true q122
            (try clear hx118_0 hx118_1 hx118_2 hx118_3 hx118_4 hx118_5 hx118_6 hx118_7)
            (try clear hx118_0 hx118_1 hx118_2 hx118_3 hx118_4 hx118_5 hx118_6 hx118_7)
            (try clear hx118_0 hx118_1 hx118_2 hx118_3 hx118_4 hx118_5 hx118_6 hx118_7)
            go_wp2
            go_ret
            exact ⟨by first | rfl | (simp; done) | (simp [*]; done) | (simp; generalize ByteArray.toList _ = zq_; cases zq_ <;> rfl), by repeat (first | exact Drawn0.refl _ | apply Drawn0.step)⟩
          · rw [if_neg c13] at H
            have c13b0 : decide (6 < (((rd_T62 l0 0).f3).length : Int)) = false := decide_eq_false c13
            have c13b1 : decide (6 < ((rd_T62 l0 0).f3).length) = false := decide_eq_false (by omega)
            clear c13
            have HC14 := Aside0.mk H
            clear H
            have p122 : 0 ≤ (0 : Int) := (by omega)
            have q122 : 0 < (l0.length : Int) := of_decide_eq_true (by first | (with_reducible assumption) | assumption)
            obtain ⟨ad122, A122_3, c122_3, A122_7, c122_7, e122, hx122_0, hx122_1, hx122_2, hx122_3, hx122_4, hx122_5, hx122_6, hx122_7, hl122_3, hi122_3, hl122_7, hi122_7⟩ := at_T62 HR0.out 0 p122 q122
            cases e122
            have qi122 : (0 < l0.length) = True := eq_true (by omega)
            (try simp only [Int.toNat_zero, Nat.zero_mul, Addr.add_zero'] at hx122_0 hx122_1 hx122_2 hx122_3 hx122_4 hx122_5 hx122_6 hx122_7)
            have HR122_3 := Aside0.mk hi122_3
            have HC122_3 := Aside0.mk hl122_3
            clear hi122_3 hl122_3
            have HR122_7 := Aside0.mk hi122_7
            have HC122_7 := Aside0.mk hl122_7
            clear hi122_7 hl122_7
            replace p122 := eq_true p122
            replace q122 := eq_true q122
            (try clear hx118_0 hx118_1 hx118_2 hx118_3 hx118_4 hx118_5 hx118_6 hx118_7)
            (try clear hx118_0 hx118_1 hx118_2 hx118_3 hx118_4 hx118_5 hx118_6 hx118_7)
            (try clear hx118_0 hx118_1 hx118_2 hx118_3 hx118_4 hx118_5 hx118_6 hx118_7)
            go_upto_region 7 with (fail)
            go_cut [69] (fun v69 wc => ∃ (kq : Nat) (x69_13 : Bool), v69 = .bool x69_13 ∧ Aside0 (spec_l8Fault.j1 kq l0 x69_13 = some r) ∧ Aside0 (kq ≤ kj3) ∧ Drawn0 w wc)
            case first =>
              have H := HC14.out
              clear HC14
              replace H := Option.bind_eq_some_iff.mp H
              obtain ⟨t124, A150, H⟩ := H
              replace H : (if t124 = true then (if ((rd_T62 l0 0).f0) = 4 then ((spec_l1In.f ((rd_T62 l0 0).f4) 1 3).bind fun t125 => (if t125 = true then ((spec_l1In.f ((rd_T62 l0 0).f5) 0 15).bind fun t126 => (if t126 = true then ((spec_l1In.f ((rd_T62 l0 0).f6) 0 9999).bind fun t127 => (spec_l8Fault.j1 kj3 l0 (!t127))) else (spec_l8Fault.j1 kj3 l0 true))) else (spec_l8Fault.j1 kj3 l0 true))) else ((spec_l1In.f ((rd_T62 l0 0).f5) 0 15).bind fun t128 => (if t128 = true then ((spec_l1In.f ((rd_T62 l0 0).f6) 0 9999).bind fun t129 => (spec_l8Fault.j1 kj3 l0 (!t129))) else (spec_l8Fault.j1 kj3 l0 true)))) else (spec_l8Fault.j1 kj3 l0 true)) = some r := H
              have A15 := Aside0.mk A150
              clear A150
              by_cases c16 : t124 = true
              · subst c16
                have H1 : (if ((rd_T62 l0 0).f0) = 4 then ((spec_l1In.f ((rd_T62 l0 0).f4) 1 3).bind fun t125 => (if t125 = true then ((spec_l1In.f ((rd_T62 l0 0).f5) 0 15).bind fun t126 => (if t126 = true then ((spec_l1In.f ((rd_T62 l0 0).f6) 0 9999).bind fun t127 => (spec_l8Fault.j1 kj3 l0 (!t127))) else (spec_l8Fault.j1 kj3 l0 true))) else (spec_l8Fault.j1 kj3 l0 true))) else ((spec_l1In.f ((rd_T62 l0 0).f5) 0 15).bind fun t128 => (if t128 = true then ((spec_l1In.f ((rd_T62 l0 0).f6) 0 9999).bind fun t129 => (spec_l8Fault.j1 kj3 l0 (!t129))) else (spec_l8Fault.j1 kj3 l0 true)))) = some r := by rw [if_pos rfl] at H; exact H
                clear H
                have H := H1
                clear H1
                by_cases c17 : ((rd_T62 l0 0).f0) = 4
                · rw [if_pos c17] at H
                  have c17b0 : (((rd_T62 l0 0).f0) == 4) = true := beq_iff_eq.mpr c17
                  have c17b1 : (((rd_T62 l0 0).f0) != 4) = false := bne_eq_false_iff_eq.mpr c17
                  clear c17
                  (first | rw [c17b0] | (simp only [i64_w, i32_w]; rw [c17b0]) | skip)
                  replace H := Option.bind_eq_some_iff.mp H
                  obtain ⟨t125, A180, H⟩ := H
                  replace H : (if t125 = true then ((spec_l1In.f ((rd_T62 l0 0).f5) 0 15).bind fun t126 => (if t126 = true then ((spec_l1In.f ((rd_T62 l0 0).f6) 0 9999).bind fun t127 => (spec_l8Fault.j1 kj3 l0 (!t127))) else (spec_l8Fault.j1 kj3 l0 true))) else (spec_l8Fault.j1 kj3 l0 true)) = some r := H
                  have A18 := Aside0.mk A180
                  clear A180
                  by_cases c19 : t125 = true
                  · subst c19
                    have H1 : ((spec_l1In.f ((rd_T62 l0 0).f5) 0 15).bind fun t126 => (if t126 = true then ((spec_l1In.f ((rd_T62 l0 0).f6) 0 9999).bind fun t127 => (spec_l8Fault.j1 kj3 l0 (!t127))) else (spec_l8Fault.j1 kj3 l0 true))) = some r := by rw [if_pos rfl] at H; exact H
                    clear H
                    have H := H1
                    clear H1
                    replace H := Option.bind_eq_some_iff.mp H
                    obtain ⟨t126, A200, H⟩ := H
                    replace H : (if t126 = true then ((spec_l1In.f ((rd_T62 l0 0).f6) 0 9999).bind fun t127 => (spec_l8Fault.j1 kj3 l0 (!t127))) else (spec_l8Fault.j1 kj3 l0 true)) = some r := H
                    have A20 := Aside0.mk A200
                    clear A200
                    by_cases c21 : t126 = true
                    · subst c21
                      have H1 : ((spec_l1In.f ((rd_T62 l0 0).f6) 0 9999).bind fun t127 => (spec_l8Fault.j1 kj3 l0 (!t127))) = some r := by rw [if_pos rfl] at H; exact H
                      clear H
                      have H := H1
                      clear H1
                      replace H := Option.bind_eq_some_iff.mp H
                      obtain ⟨t127, A220, H⟩ := H
                      replace H : (spec_l8Fault.j1 kj3 l0 (!t127)) = some r := H
                      have A22 := Aside0.mk A220
                      clear A220
                      have H' := Aside0.mk H
                      clear H
                      have p123 : 0 ≤ (0 : Int) := (by omega)
                      have q123 : 0 < (l0.length : Int) := of_decide_eq_true (by first | (with_reducible assumption) | assumption)
                      obtain ⟨ad123, A123_3, c123_3, A123_7, c123_7, e123, hx123_0, hx123_1, hx123_2, hx123_3, hx123_4, hx123_5, hx123_6, hx123_7, hl123_3, hi123_3, hl123_7, hi123_7⟩ := at_T62 HR0.out 0 p123 q123
                      obtain rfl : ad122 = ad123 := (by injection e123)
                      have qi123 : (0 < l0.length) = True := eq_true (by omega)
                      (try simp only [Int.toNat_zero, Nat.zero_mul, Addr.add_zero'] at hx123_0 hx123_1 hx123_2 hx123_3 hx123_4 hx123_5 hx123_6 hx123_7)
                      have HR123_3 := Aside0.mk hi123_3
                      have HC123_3 := Aside0.mk hl123_3
                      clear hi123_3 hl123_3
                      have HR123_7 := Aside0.mk hi123_7
                      have HC123_7 := Aside0.mk hl123_7
                      clear hi123_7 hl123_7
                      replace p123 := eq_true p123
                      replace q123 := eq_true q123
                      (try clear hx118_0 hx118_1 hx118_2 hx118_3 hx118_4 hx118_5 hx118_6 hx118_7)
                      (try clear hx118_0 hx118_1 hx118_2 hx118_3 hx118_4 hx118_5 hx118_6 hx118_7)
                      (try clear hx118_0 hx118_1 hx118_2 hx118_3 hx118_4 hx118_5 hx118_6 hx118_7)
                      (try clear hx122_0 hx122_1 hx122_2 hx122_3 hx122_4 hx122_5 hx122_6 hx122_7)
                      (try clear hx122_0 hx122_1 hx122_2 hx122_3 hx122_4 hx122_5 hx122_6 hx122_7)
                      go_wp2_with (first | ((with_reducible refine gate_callee (f := 133) rfl ?_); refine goesL_ (some 37) rfl rfl Try.func133 (by kernel_rfl) rfl #[.slice A123_3 ((rd_T62 l0 0).f3).length c123_3] rfl (by (try simp only [List.map_toArray, List.map_cons, List.map_nil]); first | done | rfl | (simp only [List.length_drop, List.length_take]; rfl)) ?_; (with_reducible refine (spec_l8Uids.calls kj3 _ _ ((rd_T62 l0 0).f3) true _ ?side1 ?side2 A15.out).mono ?_); (case side1 => repeat (first | exact HR123_3.out | (with_reducible refine Kd.C_alloc ?_ _) | (with_reducible refine Kd.C_drewN ?_ _) | (with_reducible refine Kd.C_drew ?_))); (case side2 => exact HC123_3.out); rintro e w' ⟨rfl, ⟨nd, rfl⟩⟩; refine ⟨_, rfl, ?_⟩) | (go_at_call 73; (with_reducible refine (spec_l1In.calls ((rd_T62 l0 0).f4) 1 3 true _ A18.out).mono ?_); rintro e w' ⟨rfl, ⟨nd, rfl⟩⟩) | (go_at_call 73; (with_reducible refine (spec_l1In.calls ((rd_T62 l0 0).f5) 0 15 true _ A20.out).mono ?_); rintro e w' ⟨rfl, ⟨nd, rfl⟩⟩) | (go_at_call 73; (with_reducible refine (spec_l1In.calls ((rd_T62 l0 0).f6) 0 9999 t127 _ A22.out).mono ?_); rintro e w' ⟨rfl, ⟨nd, rfl⟩⟩))
                      go_meet
                      case rel => exact ⟨_, (!t127), (by first | rfl | (simp; done) | (simp [*]; done) | (simp; generalize ByteArray.toList _ = zq_; cases zq_ <;> rfl)), H', ⟨by have := HJ3.out; first | omega | exact Nat.le_refl _⟩, by repeat (first | exact Drawn0.refl _ | apply Drawn0.step)⟩
                    · replace c21 := Bool.eq_false_iff.mpr c21
                      subst c21
                      have H1 : (spec_l8Fault.j1 kj3 l0 true) = some r := by rw [if_neg (show ¬ (false = true) by decide)] at H; exact H
                      clear H
                      have H := H1
                      clear H1
                      have H' := Aside0.mk H
                      clear H
                      have p123 : 0 ≤ (0 : Int) := (by omega)
                      have q123 : 0 < (l0.length : Int) := of_decide_eq_true (by first | (with_reducible assumption) | assumption)
                      obtain ⟨ad123, A123_3, c123_3, A123_7, c123_7, e123, hx123_0, hx123_1, hx123_2, hx123_3, hx123_4, hx123_5, hx123_6, hx123_7, hl123_3, hi123_3, hl123_7, hi123_7⟩ := at_T62 HR0.out 0 p123 q123
                      obtain rfl : ad122 = ad123 := (by injection e123)
                      have qi123 : (0 < l0.length) = True := eq_true (by omega)
                      (try simp only [Int.toNat_zero, Nat.zero_mul, Addr.add_zero'] at hx123_0 hx123_1 hx123_2 hx123_3 hx123_4 hx123_5 hx123_6 hx123_7)
                      have HR123_3 := Aside0.mk hi123_3
                      have HC123_3 := Aside0.mk hl123_3
                      clear hi123_3 hl123_3
                      have HR123_7 := Aside0.mk hi123_7
                      have HC123_7 := Aside0.mk hl123_7
                      clear hi123_7 hl123_7
                      replace p123 := eq_true p123
                      replace q123 := eq_true q123
                      (try clear hx118_0 hx118_1 hx118_2 hx118_3 hx118_4 hx118_5 hx118_6 hx118_7)
                      (try clear hx118_0 hx118_1 hx118_2 hx118_3 hx118_4 hx118_5 hx118_6 hx118_7)
                      (try clear hx118_0 hx118_1 hx118_2 hx118_3 hx118_4 hx118_5 hx118_6 hx118_7)
                      (try clear hx122_0 hx122_1 hx122_2 hx122_3 hx122_4 hx122_5 hx122_6 hx122_7)
                      (try clear hx122_0 hx122_1 hx122_2 hx122_3 hx122_4 hx122_5 hx122_6 hx122_7)
                      go_wp2_with (first | ((with_reducible refine gate_callee (f := 133) rfl ?_); refine goesL_ (some 37) rfl rfl Try.func133 (by kernel_rfl) rfl #[.slice A123_3 ((rd_T62 l0 0).f3).length c123_3] rfl (by (try simp only [List.map_toArray, List.map_cons, List.map_nil]); first | done | rfl | (simp only [List.length_drop, List.length_take]; rfl)) ?_; (with_reducible refine (spec_l8Uids.calls kj3 _ _ ((rd_T62 l0 0).f3) true _ ?side1 ?side2 A15.out).mono ?_); (case side1 => repeat (first | exact HR123_3.out | (with_reducible refine Kd.C_alloc ?_ _) | (with_reducible refine Kd.C_drewN ?_ _) | (with_reducible refine Kd.C_drew ?_))); (case side2 => exact HC123_3.out); rintro e w' ⟨rfl, ⟨nd, rfl⟩⟩; refine ⟨_, rfl, ?_⟩) | (go_at_call 73; (with_reducible refine (spec_l1In.calls ((rd_T62 l0 0).f4) 1 3 true _ A18.out).mono ?_); rintro e w' ⟨rfl, ⟨nd, rfl⟩⟩) | (go_at_call 73; (with_reducible refine (spec_l1In.calls ((rd_T62 l0 0).f5) 0 15 false _ A20.out).mono ?_); rintro e w' ⟨rfl, ⟨nd, rfl⟩⟩))
                      go_meet
                      case rel => exact ⟨_, (true), (by first | rfl | (simp; done) | (simp [*]; done) | (simp; generalize ByteArray.toList _ = zq_; cases zq_ <;> rfl)), H', ⟨by have := HJ3.out; first | omega | exact Nat.le_refl _⟩, by repeat (first | exact Drawn0.refl _ | apply Drawn0.step)⟩
                  · replace c19 := Bool.eq_false_iff.mpr c19
                    subst c19
                    have H1 : (spec_l8Fault.j1 kj3 l0 true) = some r := by rw [if_neg (show ¬ (false = true) by decide)] at H; exact H
                    clear H
                    have H := H1
                    clear H1
                    have H' := Aside0.mk H
                    clear H
                    have p123 : 0 ≤ (0 : Int) := (by omega)
                    have q123 : 0 < (l0.length : Int) := of_decide_eq_true (by first | (with_reducible assumption) | assumption)
                    obtain ⟨ad123, A123_3, c123_3, A123_7, c123_7, e123, hx123_0, hx123_1, hx123_2, hx123_3, hx123_4, hx123_5, hx123_6, hx123_7, hl123_3, hi123_3, hl123_7, hi123_7⟩ := at_T62 HR0.out 0 p123 q123
                    obtain rfl : ad122 = ad123 := (by injection e123)
                    have qi123 : (0 < l0.length) = True := eq_true (by omega)
                    (try simp only [Int.toNat_zero, Nat.zero_mul, Addr.add_zero'] at hx123_0 hx123_1 hx123_2 hx123_3 hx123_4 hx123_5 hx123_6 hx123_7)
                    have HR123_3 := Aside0.mk hi123_3
                    have HC123_3 := Aside0.mk hl123_3
                    clear hi123_3 hl123_3
                    have HR123_7 := Aside0.mk hi123_7
                    have HC123_7 := Aside0.mk hl123_7
                    clear hi123_7 hl123_7
                    replace p123 := eq_true p123
                    replace q123 := eq_true q123
                    (try clear hx118_0 hx118_1 hx118_2 hx118_3 hx118_4 hx118_5 hx118_6 hx118_7)
                    (try clear hx118_0 hx118_1 hx118_2 hx118_3 hx118_4 hx118_5 hx118_6 hx118_7)
                    (try clear hx118_0 hx118_1 hx118_2 hx118_3 hx118_4 hx118_5 hx118_6 hx118_7)
                    (try clear hx122_0 hx122_1 hx122_2 hx122_3 hx122_4 hx122_5 hx122_6 hx122_7)
                    (try clear hx122_0 hx122_1 hx122_2 hx122_3 hx122_4 hx122_5 hx122_6 hx122_7)
                    go_wp2_with (first | ((with_reducible refine gate_callee (f := 133) rfl ?_); refine goesL_ (some 37) rfl rfl Try.func133 (by kernel_rfl) rfl #[.slice A123_3 ((rd_T62 l0 0).f3).length c123_3] rfl (by (try simp only [List.map_toArray, List.map_cons, List.map_nil]); first | done | rfl | (simp only [List.length_drop, List.length_take]; rfl)) ?_; (with_reducible refine (spec_l8Uids.calls kj3 _ _ ((rd_T62 l0 0).f3) true _ ?side1 ?side2 A15.out).mono ?_); (case side1 => repeat (first | exact HR123_3.out | (with_reducible refine Kd.C_alloc ?_ _) | (with_reducible refine Kd.C_drewN ?_ _) | (with_reducible refine Kd.C_drew ?_))); (case side2 => exact HC123_3.out); rintro e w' ⟨rfl, ⟨nd, rfl⟩⟩; refine ⟨_, rfl, ?_⟩) | (go_at_call 73; (with_reducible refine (spec_l1In.calls ((rd_T62 l0 0).f4) 1 3 false _ A18.out).mono ?_); rintro e w' ⟨rfl, ⟨nd, rfl⟩⟩))
                    go_meet
                    case rel => exact ⟨_, (true), (by first | rfl | (simp; done) | (simp [*]; done) | (simp; generalize ByteArray.toList _ = zq_; cases zq_ <;> rfl)), H', ⟨by have := HJ3.out; first | omega | exact Nat.le_refl _⟩, by repeat (first | exact Drawn0.refl _ | apply Drawn0.step)⟩
                · rw [if_neg c17] at H
                  have c17b0 : (((rd_T62 l0 0).f0) == 4) = false := beq_eq_false_iff_ne.mpr c17
                  have c17b1 : (((rd_T62 l0 0).f0) != 4) = true := bne_iff_ne.mpr c17
                  (first | rw [c17b0] | (simp only [i64_w, i32_w]; rw [c17b0]) | skip)
                  replace H := Option.bind_eq_some_iff.mp H
                  obtain ⟨t128, A230, H⟩ := H
                  replace H : (if t128 = true then ((spec_l1In.f ((rd_T62 l0 0).f6) 0 9999).bind fun t129 => (spec_l8Fault.j1 kj3 l0 (!t129))) else (spec_l8Fault.j1 kj3 l0 true)) = some r := H
                  have A23 := Aside0.mk A230
                  clear A230
                  by_cases c24 : t128 = true
                  · subst c24
                    have H1 : ((spec_l1In.f ((rd_T62 l0 0).f6) 0 9999).bind fun t129 => (spec_l8Fault.j1 kj3 l0 (!t129))) = some r := by rw [if_pos rfl] at H; exact H
                    clear H
                    have H := H1
                    clear H1
                    replace H := Option.bind_eq_some_iff.mp H
                    obtain ⟨t129, A250, H⟩ := H
                    replace H : (spec_l8Fault.j1 kj3 l0 (!t129)) = some r := H
                    have A25 := Aside0.mk A250
                    clear A250
                    have H' := Aside0.mk H
                    clear H
                    have p123 : 0 ≤ (0 : Int) := (by omega)
                    have q123 : 0 < (l0.length : Int) := of_decide_eq_true (by first | (with_reducible assumption) | assumption)
                    obtain ⟨ad123, A123_3, c123_3, A123_7, c123_7, e123, hx123_0, hx123_1, hx123_2, hx123_3, hx123_4, hx123_5, hx123_6, hx123_7, hl123_3, hi123_3, hl123_7, hi123_7⟩ := at_T62 HR0.out 0 p123 q123
                    obtain rfl : ad122 = ad123 := (by injection e123)
                    have qi123 : (0 < l0.length) = True := eq_true (by omega)
                    (try simp only [Int.toNat_zero, Nat.zero_mul, Addr.add_zero'] at hx123_0 hx123_1 hx123_2 hx123_3 hx123_4 hx123_5 hx123_6 hx123_7)
                    have HR123_3 := Aside0.mk hi123_3
                    have HC123_3 := Aside0.mk hl123_3
                    clear hi123_3 hl123_3
                    have HR123_7 := Aside0.mk hi123_7
                    have HC123_7 := Aside0.mk hl123_7
                    clear hi123_7 hl123_7
                    replace p123 := eq_true p123
                    replace q123 := eq_true q123
                    (try clear hx118_0 hx118_1 hx118_2 hx118_3 hx118_4 hx118_5 hx118_6 hx118_7)
                    (try clear hx118_0 hx118_1 hx118_2 hx118_3 hx118_4 hx118_5 hx118_6 hx118_7)
                    (try clear hx118_0 hx118_1 hx118_2 hx118_3 hx118_4 hx118_5 hx118_6 hx118_7)
                    (try clear hx122_0 hx122_1 hx122_2 hx122_3 hx122_4 hx122_5 hx122_6 hx122_7)
                    (try clear hx122_0 hx122_1 hx122_2 hx122_3 hx122_4 hx122_5 hx122_6 hx122_7)
                    go_wp2_with (first | ((with_reducible refine gate_callee (f := 133) rfl ?_); refine goesL_ (some 37) rfl rfl Try.func133 (by kernel_rfl) rfl #[.slice A123_3 ((rd_T62 l0 0).f3).length c123_3] rfl (by (try simp only [List.map_toArray, List.map_cons, List.map_nil]); first | done | rfl | (simp only [List.length_drop, List.length_take]; rfl)) ?_; (with_reducible refine (spec_l8Uids.calls kj3 _ _ ((rd_T62 l0 0).f3) true _ ?side1 ?side2 A15.out).mono ?_); (case side1 => repeat (first | exact HR123_3.out | (with_reducible refine Kd.C_alloc ?_ _) | (with_reducible refine Kd.C_drewN ?_ _) | (with_reducible refine Kd.C_drew ?_))); (case side2 => exact HC123_3.out); rintro e w' ⟨rfl, ⟨nd, rfl⟩⟩; refine ⟨_, rfl, ?_⟩) | (go_at_call 73; (with_reducible refine (spec_l1In.calls ((rd_T62 l0 0).f5) 0 15 true _ A23.out).mono ?_); rintro e w' ⟨rfl, ⟨nd, rfl⟩⟩) | (go_at_call 73; (with_reducible refine (spec_l1In.calls ((rd_T62 l0 0).f6) 0 9999 t129 _ A25.out).mono ?_); rintro e w' ⟨rfl, ⟨nd, rfl⟩⟩))
                    go_meet
                    case rel => exact ⟨_, (!t129), (by first | rfl | (simp; done) | (simp [*]; done) | (simp; generalize ByteArray.toList _ = zq_; cases zq_ <;> rfl)), H', ⟨by have := HJ3.out; first | omega | exact Nat.le_refl _⟩, by repeat (first | exact Drawn0.refl _ | apply Drawn0.step)⟩
                  · replace c24 := Bool.eq_false_iff.mpr c24
                    subst c24
                    have H1 : (spec_l8Fault.j1 kj3 l0 true) = some r := by rw [if_neg (show ¬ (false = true) by decide)] at H; exact H
                    clear H
                    have H := H1
                    clear H1
                    have H' := Aside0.mk H
                    clear H
                    have p123 : 0 ≤ (0 : Int) := (by omega)
                    have q123 : 0 < (l0.length : Int) := of_decide_eq_true (by first | (with_reducible assumption) | assumption)
                    obtain ⟨ad123, A123_3, c123_3, A123_7, c123_7, e123, hx123_0, hx123_1, hx123_2, hx123_3, hx123_4, hx123_5, hx123_6, hx123_7, hl123_3, hi123_3, hl123_7, hi123_7⟩ := at_T62 HR0.out 0 p123 q123
                    obtain rfl : ad122 = ad123 := (by injection e123)
                    have qi123 : (0 < l0.length) = True := eq_true (by omega)
                    (try simp only [Int.toNat_zero, Nat.zero_mul, Addr.add_zero'] at hx123_0 hx123_1 hx123_2 hx123_3 hx123_4 hx123_5 hx123_6 hx123_7)
                    have HR123_3 := Aside0.mk hi123_3
                    have HC123_3 := Aside0.mk hl123_3
                    clear hi123_3 hl123_3
                    have HR123_7 := Aside0.mk hi123_7
                    have HC123_7 := Aside0.mk hl123_7
                    clear hi123_7 hl123_7
                    replace p123 := eq_true p123
                    replace q123 := eq_true q123
                    (try clear hx118_0 hx118_1 hx118_2 hx118_3 hx118_4 hx118_5 hx118_6 hx118_7)
                    (try clear hx118_0 hx118_1 hx118_2 hx118_3 hx118_4 hx118_5 hx118_6 hx118_7)
                    (try clear hx118_0 hx118_1 hx118_2 hx118_3 hx118_4 hx118_5 hx118_6 hx118_7)
                    (try clear hx122_0 hx122_1 hx122_2 hx122_3 hx122_4 hx122_5 hx122_6 hx122_7)
                    (try clear hx122_0 hx122_1 hx122_2 hx122_3 hx122_4 hx122_5 hx122_6 hx122_7)
                    go_wp2_with (first | ((with_reducible refine gate_callee (f := 133) rfl ?_); refine goesL_ (some 37) rfl rfl Try.func133 (by kernel_rfl) rfl #[.slice A123_3 ((rd_T62 l0 0).f3).length c123_3] rfl (by (try simp only [List.map_toArray, List.map_cons, List.map_nil]); first | done | rfl | (simp only [List.length_drop, List.length_take]; rfl)) ?_; (with_reducible refine (spec_l8Uids.calls kj3 _ _ ((rd_T62 l0 0).f3) true _ ?side1 ?side2 A15.out).mono ?_); (case side1 => repeat (first | exact HR123_3.out | (with_reducible refine Kd.C_alloc ?_ _) | (with_reducible refine Kd.C_drewN ?_ _) | (with_reducible refine Kd.C_drew ?_))); (case side2 => exact HC123_3.out); rintro e w' ⟨rfl, ⟨nd, rfl⟩⟩; refine ⟨_, rfl, ?_⟩) | (go_at_call 73; (with_reducible refine (spec_l1In.calls ((rd_T62 l0 0).f5) 0 15 false _ A23.out).mono ?_); rintro e w' ⟨rfl, ⟨nd, rfl⟩⟩))
                    go_meet
                    case rel => exact ⟨_, (true), (by first | rfl | (simp; done) | (simp [*]; done) | (simp; generalize ByteArray.toList _ = zq_; cases zq_ <;> rfl)), H', ⟨by have := HJ3.out; first | omega | exact Nat.le_refl _⟩, by repeat (first | exact Drawn0.refl _ | apply Drawn0.step)⟩
              · replace c16 := Bool.eq_false_iff.mpr c16
                subst c16
                have H1 : (spec_l8Fault.j1 kj3 l0 true) = some r := by rw [if_neg (show ¬ (false = true) by decide)] at H; exact H
                clear H
                have H := H1
                clear H1
                have H' := Aside0.mk H
                clear H
                have p123 : 0 ≤ (0 : Int) := (by omega)
                have q123 : 0 < (l0.length : Int) := of_decide_eq_true (by first | (with_reducible assumption) | assumption)
                obtain ⟨ad123, A123_3, c123_3, A123_7, c123_7, e123, hx123_0, hx123_1, hx123_2, hx123_3, hx123_4, hx123_5, hx123_6, hx123_7, hl123_3, hi123_3, hl123_7, hi123_7⟩ := at_T62 HR0.out 0 p123 q123
                obtain rfl : ad122 = ad123 := (by injection e123)
                have qi123 : (0 < l0.length) = True := eq_true (by omega)
                (try simp only [Int.toNat_zero, Nat.zero_mul, Addr.add_zero'] at hx123_0 hx123_1 hx123_2 hx123_3 hx123_4 hx123_5 hx123_6 hx123_7)
                have HR123_3 := Aside0.mk hi123_3
                have HC123_3 := Aside0.mk hl123_3
                clear hi123_3 hl123_3
                have HR123_7 := Aside0.mk hi123_7
                have HC123_7 := Aside0.mk hl123_7
                clear hi123_7 hl123_7
                replace p123 := eq_true p123
                replace q123 := eq_true q123
                (try clear hx118_0 hx118_1 hx118_2 hx118_3 hx118_4 hx118_5 hx118_6 hx118_7)
                (try clear hx118_0 hx118_1 hx118_2 hx118_3 hx118_4 hx118_5 hx118_6 hx118_7)
                (try clear hx118_0 hx118_1 hx118_2 hx118_3 hx118_4 hx118_5 hx118_6 hx118_7)
                (try clear hx122_0 hx122_1 hx122_2 hx122_3 hx122_4 hx122_5 hx122_6 hx122_7)
                (try clear hx122_0 hx122_1 hx122_2 hx122_3 hx122_4 hx122_5 hx122_6 hx122_7)
                go_wp2_with (first | ((with_reducible refine gate_callee (f := 133) rfl ?_); refine goesL_ (some 37) rfl rfl Try.func133 (by kernel_rfl) rfl #[.slice A123_3 ((rd_T62 l0 0).f3).length c123_3] rfl (by (try simp only [List.map_toArray, List.map_cons, List.map_nil]); first | done | rfl | (simp only [List.length_drop, List.length_take]; rfl)) ?_; (with_reducible refine (spec_l8Uids.calls kj3 _ _ ((rd_T62 l0 0).f3) false _ ?side1 ?side2 A15.out).mono ?_); (case side1 => repeat (first | exact HR123_3.out | (with_reducible refine Kd.C_alloc ?_ _) | (with_reducible refine Kd.C_drewN ?_ _) | (with_reducible refine Kd.C_drew ?_))); (case side2 => exact HC123_3.out); rintro e w' ⟨rfl, ⟨nd, rfl⟩⟩; refine ⟨_, rfl, ?_⟩))
                go_meet
                case rel => exact ⟨_, (true), (by first | rfl | (simp; done) | (simp [*]; done) | (simp; generalize ByteArray.toList _ = zq_; cases zq_ <;> rfl)), H', ⟨by have := HJ3.out; first | omega | exact Nat.le_refl _⟩, by repeat (first | exact Drawn0.refl _ | apply Drawn0.step)⟩
            case rest =>
              clear HC14
              try clear q1
              try clear hx1
              try clear qi1
              try clear c3
              try clear c11
              try clear q11
              try clear hx11
              try clear qi11
              try clear c12
              try clear c12b0
              try clear c12b1
              try clear q12
              try clear hx12
              try clear qi12
              try clear c13
              try clear c13b0
              try clear c13b1
              try clear hx118_0
              try clear hx118_1
              try clear hx118_2
              try clear hx118_3
              try clear hx118_4
              try clear hx118_5
              try clear hx118_6
              try clear hx118_7
              try clear hx122_0
              try clear hx122_1
              try clear hx122_2
              try clear hx122_3
              try clear hx122_4
              try clear hx122_5
              try clear hx122_6
              try clear hx122_7
              try clear hx123_0
              try clear hx123_1
              try clear hx123_2
              try clear hx123_3
              try clear hx123_4
              try clear hx123_5
              try clear hx123_6
              try clear hx123_7
              try clear p122
              try clear q1
              try clear q118
              try clear q122
              try clear q123
              obtain ⟨kq, x69_13, rfl, HA, HJ13, ⟨mc13, rfl⟩⟩ := hcut
              cases kq with
              | zero => exact absurd HA.out (by simp [spec_l8Fault.j1])
              | succ kj13 =>
                have H := HA.out
                clear HA
                simp only [spec_l8Fault.j1] at H
                by_cases c26 : x69_13 = true
                · subst c26
                  have H1 : (some 3) = some r := by rw [if_pos rfl] at H; exact H
                  clear H
                  have H := H1
                  clear H1
                  obtain rfl := Option.some.inj H
                  go_wp2
                  go_ret
                  exact ⟨by first | rfl | (simp; done) | (simp [*]; done) | (simp; generalize ByteArray.toList _ = zq_; cases zq_ <;> rfl), by repeat (first | exact Drawn0.refl _ | apply Drawn0.step)⟩
                · replace c26 := Bool.eq_false_iff.mpr c26
                  subst c26
                  have H1 : (if 0 < (l0.length : Int) then (if (((rd_T62 l0 0).f7).length : Int) > 400 then (some 2) else (some 0)) else (none)) = some r := by rw [if_neg (show ¬ (false = true) by decide)] at H; exact H
                  clear H
                  have H := H1
                  clear H1
                  by_cases c27 : 0 < (l0.length : Int)
                  case neg => rw [if_neg c27] at H; exact absurd H (by simp)
                  rw [if_pos c27] at H
                  have c27b0 : decide (0 < (l0.length : Int)) = true := decide_eq_true c27
                  have c27b1 : decide (0 < l0.length) = true := decide_eq_true (by omega)
                  clear c27
                  by_cases c28 : (((rd_T62 l0 0).f7).length : Int) > 400
                  · rw [if_pos c28] at H
                    have c28b0 : decide (400 < (((rd_T62 l0 0).f7).length : Int)) = true := decide_eq_true c28
                    have c28b1 : decide (400 < ((rd_T62 l0 0).f7).length) = true := decide_eq_true (by omega)
                    clear c28
                    obtain rfl := Option.some.inj H
                    have p130 : 0 ≤ (0 : Int) := (by omega)
                    have q130 : 0 < (l0.length : Int) := of_decide_eq_true (by first | (with_reducible assumption) | assumption)
                    obtain ⟨ad130, A130_3, c130_3, A130_7, c130_7, e130, hx130_0, hx130_1, hx130_2, hx130_3, hx130_4, hx130_5, hx130_6, hx130_7, hl130_3, hi130_3, hl130_7, hi130_7⟩ := at_T62 HR0.out 0 p130 q130
                    obtain rfl : ad122 = ad130 := (by injection e130)
                    have qi130 : (0 < l0.length) = True := eq_true (by omega)
                    (try simp only [Int.toNat_zero, Nat.zero_mul, Addr.add_zero'] at hx130_0 hx130_1 hx130_2 hx130_3 hx130_4 hx130_5 hx130_6 hx130_7)
                    have HR130_3 := Aside0.mk hi130_3
                    have HC130_3 := Aside0.mk hl130_3
                    clear hi130_3 hl130_3
                    have HR130_7 := Aside0.mk hi130_7
                    have HC130_7 := Aside0.mk hl130_7
                    clear hi130_7 hl130_7
                    replace p130 := eq_true p130
                    replace q130 := eq_true q130
                    (try clear hx118_0 hx118_1 hx118_2 hx118_3 hx118_4 hx118_5 hx118_6 hx118_7)
                    (try clear hx118_0 hx118_1 hx118_2 hx118_3 hx118_4 hx118_5 hx118_6 hx118_7)
                    (try clear hx118_0 hx118_1 hx118_2 hx118_3 hx118_4 hx118_5 hx118_6 hx118_7)
                    (try clear hx122_0 hx122_1 hx122_2 hx122_3 hx122_4 hx122_5 hx122_6 hx122_7)
                    (try clear hx122_0 hx122_1 hx122_2 hx122_3 hx122_4 hx122_5 hx122_6 hx122_7)
                    (try clear hx123_0 hx123_1 hx123_2 hx123_3 hx123_4 hx123_5 hx123_6 hx123_7)
                    (try clear hx123_0 hx123_1 hx123_2 hx123_3 hx123_4 hx123_5 hx123_6 hx123_7)
                    (try clear hx123_0 hx123_1 hx123_2 hx123_3 hx123_4 hx123_5 hx123_6 hx123_7)
                    (try clear hx123_0 hx123_1 hx123_2 hx123_3 hx123_4 hx123_5 hx123_6 hx123_7)
                    (try clear hx123_0 hx123_1 hx123_2 hx123_3 hx123_4 hx123_5 hx123_6 hx123_7)
                    (try clear hx123_0 hx123_1 hx123_2 hx123_3 hx123_4 hx123_5 hx123_6 hx123_7)
                    go_wp2
                    go_ret
                    exact ⟨by first | rfl | (simp; done) | (simp [*]; done) | (simp; generalize ByteArray.toList _ = zq_; cases zq_ <;> rfl), by repeat (first | exact Drawn0.refl _ | apply Drawn0.step)⟩
                  · rw [if_neg c28] at H
                    have c28b0 : decide (400 < (((rd_T62 l0 0).f7).length : Int)) = false := decide_eq_false c28
                    have c28b1 : decide (400 < ((rd_T62 l0 0).f7).length) = false := decide_eq_false (by omega)
                    clear c28
                    obtain rfl := Option.some.inj H
                    have p130 : 0 ≤ (0 : Int) := (by omega)
                    have q130 : 0 < (l0.length : Int) := of_decide_eq_true (by first | (with_reducible assumption) | assumption)
                    obtain ⟨ad130, A130_3, c130_3, A130_7, c130_7, e130, hx130_0, hx130_1, hx130_2, hx130_3, hx130_4, hx130_5, hx130_6, hx130_7, hl130_3, hi130_3, hl130_7, hi130_7⟩ := at_T62 HR0.out 0 p130 q130
                    obtain rfl : ad122 = ad130 := (by injection e130)
                    have qi130 : (0 < l0.length) = True := eq_true (by omega)
                    (try simp only [Int.toNat_zero, Nat.zero_mul, Addr.add_zero'] at hx130_0 hx130_1 hx130_2 hx130_3 hx130_4 hx130_5 hx130_6 hx130_7)
                    have HR130_3 := Aside0.mk hi130_3
                    have HC130_3 := Aside0.mk hl130_3
                    clear hi130_3 hl130_3
                    have HR130_7 := Aside0.mk hi130_7
                    have HC130_7 := Aside0.mk hl130_7
                    clear hi130_7 hl130_7
                    replace p130 := eq_true p130
                    replace q130 := eq_true q130
                    (try clear hx118_0 hx118_1 hx118_2 hx118_3 hx118_4 hx118_5 hx118_6 hx118_7)
                    (try clear hx118_0 hx118_1 hx118_2 hx118_3 hx118_4 hx118_5 hx118_6 hx118_7)
                    (try clear hx118_0 hx118_1 hx118_2 hx118_3 hx118_4 hx118_5 hx118_6 hx118_7)
                    (try clear hx122_0 hx122_1 hx122_2 hx122_3 hx122_4 hx122_5 hx122_6 hx122_7)
                    (try clear hx122_0 hx122_1 hx122_2 hx122_3 hx122_4 hx122_5 hx122_6 hx122_7)
                    (try clear hx123_0 hx123_1 hx123_2 hx123_3 hx123_4 hx123_5 hx123_6 hx123_7)
                    (try clear hx123_0 hx123_1 hx123_2 hx123_3 hx123_4 hx123_5 hx123_6 hx123_7)
                    (try clear hx123_0 hx123_1 hx123_2 hx123_3 hx123_4 hx123_5 hx123_6 hx123_7)
                    (try clear hx123_0 hx123_1 hx123_2 hx123_3 hx123_4 hx123_5 hx123_6 hx123_7)
                    (try clear hx123_0 hx123_1 hx123_2 hx123_3 hx123_4 hx123_5 hx123_6 hx123_7)
                    (try clear hx123_0 hx123_1 hx123_2 hx123_3 hx123_4 hx123_5 hx123_6 hx123_7)
                    go_wp2
                    go_ret
                    exact ⟨by first | rfl | (simp; done) | (simp [*]; done) | (simp; generalize ByteArray.toList _ = zq_; cases zq_ <;> rfl), by repeat (first | exact Drawn0.refl _ | apply Drawn0.step)⟩
  · replace c3 := Bool.eq_false_iff.mpr c3
    subst c3
    have H1 : (some 1) = some r := by rw [if_neg (show ¬ (false = true) by decide)] at H; exact H
    clear H
    have H := H1
    clear H1
    obtain rfl := Option.some.inj H
    go_enter Try.func97, Try.ntmps97
    go_wp2_with (first | ((with_reducible refine gate_callee (f := 130) rfl ?_); refine goesL_ (some 4) rfl rfl Try.func130 (by kernel_rfl) rfl #[.pointer A0] rfl (by (try simp only [List.map_toArray, List.map_cons, List.map_nil]); first | done | rfl | (simp only [List.length_drop, List.length_take]; rfl)) ?_; (with_reducible refine (spec_l8Form.calls k _ (l0).length l0 false _ ?side1 ?side2 A2.out).mono ?_); (case side1 => repeat (first | exact HR0.out | (with_reducible refine Kd.C_alloc ?_ _) | (with_reducible refine Kd.C_drewN ?_ _) | (with_reducible refine Kd.C_drew ?_))); (case side2 => exact Nat.le_refl _); rintro e w' ⟨rfl, ⟨nd, rfl⟩⟩; refine ⟨_, rfl, ?_⟩))
    go_ret
    exact ⟨by first | rfl | (simp; done) | (simp [*]; done) | (simp; generalize ByteArray.toList _ = zq_; cases zq_ <;> rfl), by repeat (first | exact Drawn0.refl _ | apply Drawn0.step)⟩

/-! ### spec_l9Two: function 134 -/
def spec_l9Two.f (a0 : Int) : Option (List Int) := some (([(wrap64 (Int.tdiv a0 256)) % 256, (Int.tmod a0 256) % 256] : List Int))
set_option maxHeartbeats 8000000 in
set_option maxRecDepth 100000 in
theorem spec_l9Two.calls (a0 : Int) (r : List Int) (w : World) (h : spec_l9Two.f a0 = some r) :
    Calls Try.prog 134 #[.int .i64 a0] w fun e w' => ∃ v0_ : Value, e = .returned (v0_) ∧ Kd.R (Kd.int .u8) 5 w' w.heap.size (fun _ => True) v0_ r ∧ Below w.heap.size w w' := by
  have HB := Aside0.mk (Below.refl w.heap.size w)
  have H : (some (([(wrap64 (Int.tdiv a0 256)) % 256, (Int.tmod a0 256) % 256] : List Int))) = some r := h
  clear h
  obtain ⟨y131, hy131⟩ : ∃ y_ : List Int, y_ = (([(wrap64 (Int.tdiv a0 256)) % 256, (Int.tmod a0 256) % 256] : List Int)) := ⟨_, rfl⟩
  replace H : (some y131) = some r := by first | (rw [hy131]; with_reducible exact H) | (have H2_ := (Option.bind_some _ _).symm.trans H; rw [hy131]; with_reducible exact H2_) | (have H2_ := (Option.bind_some _ _).symm.trans H; with_reducible exact H2_) | with_reducible exact H | (rw [hy131]; exact H) | exact H
  have Ny131 := Aside0.mk hy131
  clear hy131
  obtain rfl := Option.some.inj H
  go_enter Try.func134, Try.ntmps134
  go_wp2_with (first | ((with_reducible refine gate_dst (N := 9) rfl ?_); refine Kd.R_lit (Kd.int .u8) _ 5 ?hg (N := 9) ?hd (xs := ([(wrap64 (Int.tdiv a0 256)) % 256, (Int.tmod a0 256) % 256] : List Int)) (inner := [.int .u8 ((wrap64 (Int.tdiv a0 256)) % 256), .int .u8 ((Int.tmod a0 256) % 256)]) (ok := fun _ => True) (okp := fun _ => True) ?hr ?hp (fun _ hk => hk) trivial (Below.refl _ _) (Nat.le_refl _) (by simp) ?_; (case hd => rfl); (case hg => rfl); (case hr => first | (go_simp; done) | (go_simp; rfl)); (case hp => exact (Reps.one (show Kd.M (Kd.int .u8) _ _ _ ((wrap64 (Int.tdiv a0 256)) % 256) [.int .u8 ((wrap64 (Int.tdiv a0 256)) % 256)] from rfl) (Reps.one (show Kd.M (Kd.int .u8) _ _ _ ((Int.tmod a0 256) % 256) [.int .u8 ((Int.tmod a0 256) % 256)] from rfl) (Reps.none _ _)))); intro v132 w2 ho3 hb hg_ hnew_; clear hg_ hnew_; (first | rw [← Ny131.out] at ho3 | (simp only [Int.reduceToNat] at ho3; rw [← Ny131.out] at ho3)); have n0_ := Aside0.mk (Kd.R_lower ho3 (below_size (by repeat (first | (with_reducible first | exact HB.out | apply below_alloc | apply pw_below_drewN | apply below_drew1) | exact HB.out)))); have n1_ := Aside0.mk (below_step (by repeat (first | (with_reducible first | exact HB.out | apply below_alloc | apply pw_below_drewN | apply below_drew1) | exact HB.out)) hb); clear HB; have HO133 := n0_; have HB := n1_; clear n0_ n1_; clear hb ho3))
  go_ret
  exact ⟨_, by first | rfl | (simp [errW_none, errW_some] <;> rfl) | (simp [*, errW_none, errW_some] <;> rfl), by (with_reducible repeat (first | apply Kd.R_alloc | apply Kd.R_drewN | apply Kd.R_drew)); exact HO133.out, by repeat (first | (with_reducible first | exact HB.out | apply below_alloc | apply pw_below_drewN | apply below_drew1) | exact HB.out)⟩

/-! ### spec_l9Sum: function 135 -/
def spec_l9Sum.l0 : Nat → List Int → Int → Int → Option (Int)
  | 0, _, _, _ => none
  | k + 1, x0, x3, x4 => if x4 < (x0.length : Int) then (if 0 ≤ x4 then (spec_l9Sum.l0 k x0 (Int.tmod (wrap64 ((wrap64 (x3 * 31)) + (wrap64 (rd x0 x4)))) 65521) (wrap64 (x4 + 1))) else (none)) else (some x3)
def spec_l9Sum.f (k : Nat) (l0 : List Int) : Option (Int) := spec_l9Sum.l0 k l0 1 0
theorem spec_l9Sum.mono_l : ∀ k, (∀ y0 y1 y2, LeO (spec_l9Sum.l0 k y0 y1 y2) (spec_l9Sum.l0 (k + 1) y0 y1 y2))
  | 0 => fun _ _ _ r h => by simp [spec_l9Sum.l0] at h
  | k + 1 => by
    have ih0 := spec_l9Sum.mono_l k
    · intro y0 y1 y2
      unfold spec_l9Sum.l0
      repeat' first
      | (with_reducible exact ih0 _ _ _)
      | (with_reducible exact LeO.refl _)
      | (with_reducible exact LeO.none _)
      | (with_reducible refine LeO.ite ?_ ?_)
      | (with_reducible refine LeO.bind ?_ (fun _ => ?_))
      | exact ih0 _ _ _
      | exact LeO.none _
      | refine LeO.ite ?_ ?_
      | refine LeO.bind ?_ (fun _ => ?_)
theorem spec_l9Sum.mono : ∀ a0 k, LeO (spec_l9Sum.f k a0) (spec_l9Sum.f (k + 1) a0) := by
  intro a0 k
  have ih0 := spec_l9Sum.mono_l k
  unfold spec_l9Sum.f
  repeat' first
      | (with_reducible exact ih0 _ _ _)
      | (with_reducible exact LeO.refl _)
      | (with_reducible exact LeO.none _)
      | (with_reducible refine LeO.ite ?_ ?_)
      | (with_reducible refine LeO.bind ?_ (fun _ => ?_))
      | exact ih0 _ _ _
      | exact LeO.none _
      | refine LeO.ite ?_ ?_
      | refine LeO.bind ?_ (fun _ => ?_)
set_option maxHeartbeats 8000000 in
set_option maxRecDepth 100000 in
theorem spec_l9Sum.calls (k : Nat) (A0 : Option Addr) (c0 : Nat) (l0 : List Int) (r : Int) (w : World) (hr0 : Kd.C (Kd.int .u8) w A0 l0.length l0) (hc0 : l0.length ≤ c0) (h : spec_l9Sum.f k l0 = some r) :
    Calls Try.prog 135 #[.slice A0 l0.length c0] w fun e w' => e = .returned (.int .i64 r) ∧ Drawn0 w w' := by
  have HR0 := Aside0.mk hr0
  have HC0 := Aside0.mk hc0
  clear hr0 hc0
  have H : (spec_l9Sum.l0 k l0 1 0) = some r := h
  clear h
  have H' := Aside0.mk H
  clear H
  go_enter Try.func135, Try.ntmps135
  go_wp2
  go_loopg [3, 4] k (fun kq v3 v4 w' => ∃ (x3_1 : Int) (x4_1 : Int), v3 = .int .i64 x3_1 ∧ v4 = .int .i64 x4_1 ∧ Aside0 (spec_l9Sum.l0 kq l0 x3_1 x4_1 = some r) ∧ Aside0 (kq ≤ k) ∧ Drawn0 w w')
  case atStart => exact ⟨(1), (0), (by first | rfl | (simp; done) | (simp [*]; done) | (simp; generalize ByteArray.toList _ = zq_; cases zq_ <;> rfl)), (by first | rfl | (simp; done) | (simp [*]; done) | (simp; generalize ByteArray.toList _ = zq_; cases zq_ <;> rfl)), H', ⟨Nat.le_refl _⟩, by repeat (first | exact Drawn0.refl _ | apply Drawn0.step)⟩
  case round =>
    clear H'
    try clear c1
    obtain ⟨x3_1, x4_1, rfl, rfl, HA, HK1, ⟨m1, rfl⟩⟩ := hrel
    cases gk with
    | zero => exact absurd HA.out (by simp [spec_l9Sum.l0])
    | succ k1 =>
      have H := HA.out
      clear HA
      simp only [spec_l9Sum.l0] at H
      by_cases c2 : x4_1 < (l0.length : Int)
      · rw [if_pos c2] at H
        have c2b0 : decide (x4_1 < (l0.length : Int)) = true := decide_eq_true c2
        clear c2
        by_cases c3 : 0 ≤ x4_1
        · rw [if_pos c3] at H
          have c3b0 : decide (0 ≤ x4_1) = true := decide_eq_true c3
          clear c3
          have H' := Aside0.mk H
          clear H
          have p134 : 0 ≤ (x4_1 : Int) := of_decide_eq_true (by first | (with_reducible assumption) | assumption)
          have q134 : x4_1 < (l0.length : Int) := of_decide_eq_true (by first | (with_reducible assumption) | assumption)
          obtain ⟨ad134, e134, hx134_0⟩ := Kd.at_int HR0.out x4_1 p134 q134
          cases e134
          replace p134 := eq_true p134
          replace q134 := eq_true q134
          go_wp2
          go_roundg k1
          case measure => have := HK1.out; omega
          case rel => exact ⟨(Int.tmod (wrap64 ((wrap64 (x3_1 * 31)) + (wrap64 (rd l0 x4_1)))) 65521), (wrap64 (x4_1 + 1)), (by first | rfl | (simp; done) | (simp [*]; done) | (simp; generalize ByteArray.toList _ = zq_; cases zq_ <;> rfl)), (by first | rfl | (simp; done) | (simp [*]; done) | (simp; generalize ByteArray.toList _ = zq_; cases zq_ <;> rfl)), H', ⟨by have := HK1.out; omega⟩, by repeat (first | exact Drawn0.refl _ | apply Drawn0.step)⟩
        · rw [if_neg c3] at H
          exact absurd H (by simp)
      · rw [if_neg c2] at H
        have c2b0 : decide (x4_1 < (l0.length : Int)) = false := decide_eq_false c2
        clear c2
        obtain rfl := Option.some.inj H
        go_wp2
        go_ret
        exact ⟨by first | rfl | (simp; done) | (simp [*]; done) | (simp; generalize ByteArray.toList _ = zq_; cases zq_ <;> rfl), by repeat (first | exact Drawn0.refl _ | apply Drawn0.step)⟩

end Go.Proofs.Ytlneiofnmbcheaa.PFnExactPackOp

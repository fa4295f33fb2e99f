/- Functions of the program as Lean functions, each with the proof that its call comes to what that function says (texts written by a program of this session). Conditions: those that stand in each theorem. -/
import Derived.Test.YtlneiofnmbcheaaPFnExactTermsFaultx0
import Derived.Test.YtlneiofnmbcheaaPFnExactTermsFaultx2
import Derived.Test.YtlneiofnmbcheaaPFnExactTermsFaultx4
namespace Go.Proofs.Ytlneiofnmbcheaa.PFnExactTermsFault
open Go.RowKit Go.Proofs.YtlneiofnmbcheaaW.PrintWords Go.Proofs.YtlneiofnmbcheaaW.PrintLast Go.Proofs.YtlneiofnmbcheaaW.PrintMore
attribute [local go_sem] max2_int min2_int max_two min_two max_three min_three max_four min_four   -- for this text's walks alone
set_option linter.unusedVariables false
set_option linter.unusedSimpArgs false

/-! ### spec_l12Value: function 145 -/
mutual
def spec_l12Value.j0 : Nat → List (S115) → Bool → Int → Bool → Option (Int)
  | 0, _, _, _, _ => none
  | k + 1, x0, x3, x7, x36 => if x36 = true then (if 0 < (x0.length : Int) then ((spec_l1In.f ((rd_T115 x0 0).f1) 0 9999).bind fun t186 => (if t186 = true then (some 0) else (some 3))) else (none)) else (if x7 = 5 then (if 0 < (x0.length : Int) then ((spec_l1In.f ((rd_T115 x0 0).f1) 0 400).bind fun t188 => (if t188 = true then (some 0) else (some 3))) else (none)) else (if x7 = 6 then (spec_l12Value.j1 k x0 x3 x7 (x7 == 6)) else (spec_l12Value.j1 k x0 x3 x7 (x7 == 7))))
def spec_l12Value.j1 : Nat → List (S115) → Bool → Int → Bool → Option (Int)
  | 0, _, _, _, _ => none
  | k + 1, x0, x3, x7, x51 => if x51 = true then (if 0 < (x0.length : Int) then ((spec_l12Codes.f k ((rd_T115 x0 0).f2)).bind fun t190 => (if t190 = true then (some 0) else (some 3))) else (none)) else (if x7 = 8 then (if 0 < (x0.length : Int) then ((spec_l11Fault.f k ((rd_T115 x0 0).f3)).bind fun t192 => (some t192)) else (none)) else (if x3 = true then (some 0) else (some 3)))
end
def spec_l12Value.f (k : Nat) (l0 : List (S115)) : Option (Int) := if 0 < (l0.length : Int) then (if ((rd_T115 l0 0).f0) = 2 then (if ((rd_T115 l0 0).f1) = 1 then (some 0) else (if ((rd_T115 l0 0).f1) = 2 then (some 0) else (if ((rd_T115 l0 0).f1) = 4 then (some 0) else (if (((rd_T115 l0 0).f1) = 8) then (some 0) else (some 3))))) else (if ((rd_T115 l0 0).f0) = 3 then (spec_l12Value.j0 k l0 true ((rd_T115 l0 0).f0) (((rd_T115 l0 0).f0) == 3)) else (spec_l12Value.j0 k l0 true ((rd_T115 l0 0).f0) (((rd_T115 l0 0).f0) == 4)))) else (none)
theorem spec_l12Value.mono_l : ∀ k, (∀ y0 y1 y2 y3, LeO (spec_l12Value.j0 k y0 y1 y2 y3) (spec_l12Value.j0 (k + 1) y0 y1 y2 y3)) ∧ (∀ y0 y1 y2 y3, LeO (spec_l12Value.j1 k y0 y1 y2 y3) (spec_l12Value.j1 (k + 1) y0 y1 y2 y3))
  | 0 => ⟨fun _ _ _ _ r h => by simp [spec_l12Value.j0] at h, fun _ _ _ _ r h => by simp [spec_l12Value.j1] at h⟩
  | k + 1 => by
    obtain ⟨ih0, ih1⟩ := spec_l12Value.mono_l k
    refine ⟨?_, ?_⟩
    · intro y0 y1 y2 y3
      unfold spec_l12Value.j0
      repeat' first
      | (with_reducible exact ih0 _ _ _ _)
      | (with_reducible exact ih1 _ _ _ _)
      | (with_reducible exact spec_l11Fault.mono _ _)
      | (with_reducible exact spec_l12Codes.mono _ _)
      | (with_reducible exact LeO.refl _)
      | (with_reducible exact LeO.none _)
      | (with_reducible refine LeO.ite ?_ ?_)
      | (with_reducible refine LeO.bind ?_ (fun _ => ?_))
      | exact ih0 _ _ _ _
      | exact ih1 _ _ _ _
      | exact spec_l11Fault.mono _ _
      | exact spec_l12Codes.mono _ _
      | exact LeO.none _
      | refine LeO.ite ?_ ?_
      | refine LeO.bind ?_ (fun _ => ?_)
    · intro y0 y1 y2 y3
      unfold spec_l12Value.j1
      repeat' first
      | (with_reducible exact ih0 _ _ _ _)
      | (with_reducible exact ih1 _ _ _ _)
      | (with_reducible exact spec_l11Fault.mono _ _)
      | (with_reducible exact spec_l12Codes.mono _ _)
      | (with_reducible exact LeO.refl _)
      | (with_reducible exact LeO.none _)
      | (with_reducible refine LeO.ite ?_ ?_)
      | (with_reducible refine LeO.bind ?_ (fun _ => ?_))
      | exact ih0 _ _ _ _
      | exact ih1 _ _ _ _
      | exact spec_l11Fault.mono _ _
      | exact spec_l12Codes.mono _ _
      | exact LeO.none _
      | refine LeO.ite ?_ ?_
      | refine LeO.bind ?_ (fun _ => ?_)
theorem spec_l12Value.mono : ∀ a0 k, LeO (spec_l12Value.f k a0) (spec_l12Value.f (k + 1) a0) := by
  intro a0 k
  obtain ⟨ih0, ih1⟩ := spec_l12Value.mono_l k
  unfold spec_l12Value.f
  repeat' first
      | (with_reducible exact ih0 _ _ _ _)
      | (with_reducible exact ih1 _ _ _ _)
      | (with_reducible exact spec_l11Fault.mono _ _)
      | (with_reducible exact spec_l12Codes.mono _ _)
      | (with_reducible exact LeO.refl _)
      | (with_reducible exact LeO.none _)
      | (with_reducible refine LeO.ite ?_ ?_)
      | (with_reducible refine LeO.bind ?_ (fun _ => ?_))
      | exact ih0 _ _ _ _
      | exact ih1 _ _ _ _
      | exact spec_l11Fault.mono _ _
      | exact spec_l12Codes.mono _ _
      | exact LeO.none _
      | refine LeO.ite ?_ ?_
      | refine LeO.bind ?_ (fun _ => ?_)
def spec_l12Value.Tag (_ : Nat) (p : Prop) : Prop := p
theorem spec_l12Value.Tag.un {n : Nat} {p : Prop} (h : spec_l12Value.Tag n p) : p := h
theorem spec_l12Value.Tag.mk (n : Nat) {p : Prop} (h : p) : spec_l12Value.Tag n p := h
set_option maxHeartbeats 8000000 in
set_option maxRecDepth 100000 in
theorem spec_l12Value.calls (k : Nat) (A0 : Option Addr) (c0 : Nat) (l0 : List (S115)) (r : Int) (w : World) (hr0 : Kd.C k115 w A0 l0.length l0) (hc0 : l0.length ≤ c0) (h : spec_l12Value.f k l0 = some r) :
    Calls Try.prog 145 #[.pointer A0] w fun e w' => e = .returned (.int .i64 r) ∧ Drawn0 w w' := by
  have HR0 := Aside0.mk hr0
  have HC0 := Aside0.mk hc0
  clear hr0 hc0
  have H : (if 0 < (l0.length : Int) then (if ((rd_T115 l0 0).f0) = 2 then (if ((rd_T115 l0 0).f1) = 1 then (some 0) else (if ((rd_T115 l0 0).f1) = 2 then (some 0) else (if ((rd_T115 l0 0).f1) = 4 then (some 0) else (if (((rd_T115 l0 0).f1) = 8) then (some 0) else (some 3))))) else (if ((rd_T115 l0 0).f0) = 3 then (spec_l12Value.j0 k l0 true ((rd_T115 l0 0).f0) (((rd_T115 l0 0).f0) == 3)) else (spec_l12Value.j0 k l0 true ((rd_T115 l0 0).f0) (((rd_T115 l0 0).f0) == 4)))) else (none)) = some r := h
  clear h
  by_cases c2 : 0 < (l0.length : Int)
  focus
    rw [if_pos c2] at H
    have c2b0 : decide (0 < (l0.length : Int)) = true := decide_eq_true c2
    have c2b1 : decide (0 < l0.length) = true := decide_eq_true (by omega)
    clear c2
    by_cases c3 : ((rd_T115 l0 0).f0) = 2
    focus
      rw [if_pos c3] at H
      have c3b0 : (((rd_T115 l0 0).f0) == 2) = true := beq_iff_eq.mpr c3
      have c3b1 : (((rd_T115 l0 0).f0) != 2) = false := bne_eq_false_iff_eq.mpr c3
      clear c3
      by_cases c4 : ((rd_T115 l0 0).f1) = 1
      focus
        rw [if_pos c4] at H
        have c4b0 : (((rd_T115 l0 0).f1) == 1) = true := beq_iff_eq.mpr c4
        have c4b1 : (((rd_T115 l0 0).f1) != 1) = false := bne_eq_false_iff_eq.mpr c4
        clear c4
        obtain rfl := Option.some.inj H
        refine spec_l12Value.Tag.un (n := 1) ?_
      rotate_left 1
      focus
        rw [if_neg c4] at H
        have c4b0 : (((rd_T115 l0 0).f1) == 1) = false := beq_eq_false_iff_ne.mpr c4
        have c4b1 : (((rd_T115 l0 0).f1) != 1) = true := bne_iff_ne.mpr c4
        by_cases c5 : ((rd_T115 l0 0).f1) = 2
        focus
          rw [if_pos c5] at H
          have c5b0 : (((rd_T115 l0 0).f1) == 2) = true := beq_iff_eq.mpr c5
          have c5b1 : (((rd_T115 l0 0).f1) != 2) = false := bne_eq_false_iff_eq.mpr c5
          clear c5
          obtain rfl := Option.some.inj H
          refine spec_l12Value.Tag.un (n := 1) ?_
        rotate_left 1
        focus
          rw [if_neg c5] at H
          have c5b0 : (((rd_T115 l0 0).f1) == 2) = false := beq_eq_false_iff_ne.mpr c5
          have c5b1 : (((rd_T115 l0 0).f1) != 2) = true := bne_iff_ne.mpr c5
          by_cases c6 : ((rd_T115 l0 0).f1) = 4
          focus
            rw [if_pos c6] at H
            have c6b0 : (((rd_T115 l0 0).f1) == 4) = true := beq_iff_eq.mpr c6
            have c6b1 : (((rd_T115 l0 0).f1) != 4) = false := bne_eq_false_iff_eq.mpr c6
            clear c6
            obtain rfl := Option.some.inj H
            refine spec_l12Value.Tag.un (n := 1) ?_
          rotate_left 1
          focus
            rw [if_neg c6] at H
            have c6b0 : (((rd_T115 l0 0).f1) == 4) = false := beq_eq_false_iff_ne.mpr c6
            have c6b1 : (((rd_T115 l0 0).f1) != 4) = true := bne_iff_ne.mpr c6
            by_cases c7 : (((rd_T115 l0 0).f1) = 8)
            focus
              rw [if_pos c7] at H
              have c7b0 : (((rd_T115 l0 0).f1) == 8) = true := beq_iff_eq.mpr c7
              have c7b1 : (((rd_T115 l0 0).f1) != 8) = false := bne_eq_false_iff_eq.mpr c7
              clear c7
              obtain rfl := Option.some.inj H
              refine spec_l12Value.Tag.un (n := 1) ?_
            rotate_left 1
            focus
              rw [if_neg c7] at H
              have c7b0 : (((rd_T115 l0 0).f1) == 8) = false := beq_eq_false_iff_ne.mpr c7
              have c7b1 : (((rd_T115 l0 0).f1) != 8) = true := bne_iff_ne.mpr c7
              obtain rfl := Option.some.inj H
              refine spec_l12Value.Tag.un (n := 1) ?_
    rotate_left 5
    · rw [if_neg c3] at H
      have c3b0 : (((rd_T115 l0 0).f0) == 2) = false := beq_eq_false_iff_ne.mpr c3
      have c3b1 : (((rd_T115 l0 0).f0) != 2) = true := bne_iff_ne.mpr c3
      have HC8 := Aside0.mk H
      clear H
      have p183 : 0 ≤ (0 : Int) := (by omega)
      have q183 : 0 < (l0.length : Int) := of_decide_eq_true (by first | (with_reducible assumption) | assumption)
      obtain ⟨ad183, A183_2, c183_2, A183_3, c183_3, e183, hx183_0, hx183_1, hx183_2, hx183_3, hx183_4, hx183_5, hl183_2, hi183_2, hl183_3, hi183_3⟩ := at_T115 HR0.out 0 p183 q183
      cases e183
      have qi183 : (0 < l0.length) = True := eq_true (by omega)
      (try rw [Int.toNat_zero] at hx183_0)
      (try rw [Nat.zero_mul _] at hx183_0)
      (try rw [Addr.add_zero'] at hx183_0)
      (try rw [Int.toNat_zero] at hx183_1)
      (try rw [Nat.zero_mul _] at hx183_1)
      (try rw [Addr.add_zero'] at hx183_1)
      (try rw [Int.toNat_zero] at hx183_2)
      (try rw [Nat.zero_mul _] at hx183_2)
      (try rw [Addr.add_zero'] at hx183_2)
      (try rw [Int.toNat_zero] at hx183_3)
      (try rw [Nat.zero_mul _] at hx183_3)
      (try rw [Addr.add_zero'] at hx183_3)
      (try rw [Int.toNat_zero] at hx183_4)
      (try rw [Nat.zero_mul _] at hx183_4)
      (try rw [Addr.add_zero'] at hx183_4)
      (try rw [Int.toNat_zero] at hx183_5)
      (try rw [Nat.zero_mul _] at hx183_5)
      (try rw [Addr.add_zero'] at hx183_5)
      have HR183_2 := Aside0.mk hi183_2
      have HC183_2 := Aside0.mk hl183_2
      clear hi183_2 hl183_2
      have HR183_3 := Aside0.mk hi183_3
      have HC183_3 := Aside0.mk hl183_3
      clear hi183_3 hl183_3
      replace p183 := eq_true p183
      replace q183 := eq_true q183
      go_enter Try.func145, Try.ntmps145
      go_upto_if 36 with (fail)
      go_cut [36] (fun v36 wc => ∃ (kq : Nat) (x36_7 : Bool), v36 = .bool x36_7 ∧ Aside0 (spec_l12Value.j0 kq l0 true ((rd_T115 l0 0).f0) x36_7 = some r) ∧ Aside0 (kq ≤ k) ∧ Drawn0 w wc)
      case first =>
        have H := HC8.out
        clear HC8
        by_cases c9 : ((rd_T115 l0 0).f0) = 3
        · rw [if_pos c9] at H
          have c9b0 : (((rd_T115 l0 0).f0) == 3) = true := beq_iff_eq.mpr c9
          have c9b1 : (((rd_T115 l0 0).f0) != 3) = false := bne_eq_false_iff_eq.mpr c9
          clear c9
          (first | rw [c9b0] | (simp only [i64_w, i32_w]; rw [c9b0]) | skip)
          have H' := Aside0.mk H
          clear H
          go_wp2
          go_meet
          case rel => exact ⟨_, ((((rd_T115 l0 0).f0) == 3)), (by first | rfl | (simp; done) | (simp [*]; done) | (simp; generalize ByteArray.toList _ = zq_; cases zq_ <;> rfl)), H', ⟨by first | omega | exact Nat.le_refl _⟩, by repeat (first | exact Drawn0.refl _ | apply Drawn0.step)⟩
        · rw [if_neg c9] at H
          have c9b0 : (((rd_T115 l0 0).f0) == 3) = false := beq_eq_false_iff_ne.mpr c9
          have c9b1 : (((rd_T115 l0 0).f0) != 3) = true := bne_iff_ne.mpr c9
          (first | rw [c9b0] | (simp only [i64_w, i32_w]; rw [c9b0]) | skip)
          have H' := Aside0.mk H
          clear H
          go_wp2
          go_meet
          case rel => exact ⟨_, ((((rd_T115 l0 0).f0) == 4)), (by first | rfl | (simp; done) | (simp [*]; done) | (simp; generalize ByteArray.toList _ = zq_; cases zq_ <;> rfl)), H', ⟨by first | omega | exact Nat.le_refl _⟩, by repeat (first | exact Drawn0.refl _ | apply Drawn0.step)⟩
      case rest =>
        clear HC8
        try clear c1
        try clear p1
        try clear q1
        try clear hx1
        try clear qi1
        try clear c2
        try clear c2b0
        try clear c2b1
        try clear p2
        try clear c3
        try clear c3b0
        try clear c3b1
        try clear c4
        try clear c4b0
        try clear c4b1
        try clear c5
        try clear c5b0
        try clear c5b1
        try clear c6
        try clear c6b0
        try clear c6b1
        try clear c7
        try clear c7b0
        try clear c7b1
        try clear c9
        try clear c9b0
        try clear c9b1
        try clear hx183_0
        try clear hx183_1
        try clear hx183_2
        try clear hx183_3
        try clear hx183_4
        try clear hx183_5
        try clear hx184_0
        try clear hx184_1
        try clear hx184_2
        try clear hx184_3
        try clear hx184_4
        try clear hx184_5
        try clear p183
        try clear p184
        try clear q183
        try clear q184
        obtain ⟨kq, x36_7, rfl, HA, HJ7, ⟨mc7, rfl⟩⟩ := hcut
        cases kq with
        | zero => exact absurd HA.out (by simp [spec_l12Value.j0])
        | succ kj7 =>
          have H := HA.out
          clear HA
          simp only [spec_l12Value.j0] at H
          by_cases c10 : x36_7 = true
          · subst c10
            have H1 : (if 0 < (l0.length : Int) then ((spec_l1In.f ((rd_T115 l0 0).f1) 0 9999).bind fun t186 => (if t186 = true then (some 0) else (some 3))) else (none)) = some r := by rw [if_pos rfl] at H; exact H
            clear H
            have H := H1
            clear H1
            by_cases c11 : 0 < (l0.length : Int)
            · rw [if_pos c11] at H
              have c11b0 : decide (0 < (l0.length : Int)) = true := decide_eq_true c11
              have c11b1 : decide (0 < l0.length) = true := decide_eq_true (by omega)
              clear c11
              replace H := Option.bind_eq_some_iff.mp H
              obtain ⟨t186, A120, H⟩ := H
              replace H : (if t186 = true then (some 0) else (some 3)) = some r := H
              have A12 := Aside0.mk A120
              clear A120
              by_cases c13 : t186 = true
              · subst c13
                have H1 : (some 0) = some r := by rw [if_pos rfl] at H; exact H
                clear H
                have H := H1
                clear H1
                obtain rfl := Option.some.inj H
                have p185 : 0 ≤ (0 : Int) := (by omega)
                have q185 : 0 < (l0.length : Int) := of_decide_eq_true (by first | (with_reducible assumption) | assumption)
                obtain ⟨ad185, A185_2, c185_2, A185_3, c185_3, e185, hx185_0, hx185_1, hx185_2, hx185_3, hx185_4, hx185_5, hl185_2, hi185_2, hl185_3, hi185_3⟩ := at_T115 HR0.out 0 p185 q185
                obtain rfl : ad183 = ad185 := (by injection e185)
                have qi185 : (0 < l0.length) = True := eq_true (by omega)
                (try rw [Int.toNat_zero] at hx185_0)
                (try rw [Nat.zero_mul _] at hx185_0)
                (try rw [Addr.add_zero'] at hx185_0)
                (try rw [Int.toNat_zero] at hx185_1)
                (try rw [Nat.zero_mul _] at hx185_1)
                (try rw [Addr.add_zero'] at hx185_1)
                (try rw [Int.toNat_zero] at hx185_2)
                (try rw [Nat.zero_mul _] at hx185_2)
                (try rw [Addr.add_zero'] at hx185_2)
                (try rw [Int.toNat_zero] at hx185_3)
                (try rw [Nat.zero_mul _] at hx185_3)
                (try rw [Addr.add_zero'] at hx185_3)
                (try rw [Int.toNat_zero] at hx185_4)
                (try rw [Nat.zero_mul _] at hx185_4)
                (try rw [Addr.add_zero'] at hx185_4)
                (try rw [Int.toNat_zero] at hx185_5)
                (try rw [Nat.zero_mul _] at hx185_5)
                (try rw [Addr.add_zero'] at hx185_5)
                have HR185_2 := Aside0.mk hi185_2
                have HC185_2 := Aside0.mk hl185_2
                clear hi185_2 hl185_2
                have HR185_3 := Aside0.mk hi185_3
                have HC185_3 := Aside0.mk hl185_3
                clear hi185_3 hl185_3
                replace p185 := eq_true p185
                replace q185 := eq_true q185
                (try clear hx183_0 hx183_1 hx183_2 hx183_3 hx183_4 hx183_5)
                (try clear hx183_0 hx183_1 hx183_2 hx183_3 hx183_4 hx183_5)
                (try clear hx183_0 hx183_1 hx183_2 hx183_3 hx183_4 hx183_5)
                (try clear hx183_0 hx183_1 hx183_2 hx183_3 hx183_4 hx183_5)
                (try clear hx183_0 hx183_1 hx183_2 hx183_3 hx183_4 hx183_5)
                (try clear hx183_0 hx183_1 hx183_2 hx183_3 hx183_4 hx183_5)
                go_wp2_with (first | ((with_reducible refine gate_callee (f := 73) rfl ?_); refine goesL_ (some 43) rfl rfl Try.func73 (by kernel_rfl) rfl #[.int .i64 ((rd_T115 l0 0).f1), .int .i64 0, .int .i64 9999] rfl (by (try simp only [List.map_toArray, List.map_cons, List.map_nil]); first | done | rfl | (simp only [List.length_drop, List.length_take]; rfl)) ?_; (with_reducible refine (spec_l1In.calls ((rd_T115 l0 0).f1) 0 9999 true _ A12.out).mono ?_); rintro e w' ⟨rfl, ⟨nd, rfl⟩⟩; refine ⟨_, rfl, ?_⟩))
                go_ret
                exact ⟨by first | rfl | (simp; done) | (simp [*]; done) | (simp; generalize ByteArray.toList _ = zq_; cases zq_ <;> rfl), by repeat (first | exact Drawn0.refl _ | apply Drawn0.step)⟩
              · replace c13 := Bool.eq_false_iff.mpr c13
                subst c13
                have H1 : (some 3) = some r := by rw [if_neg (show ¬ (false = true) by decide)] at H; exact H
                clear H
                have H := H1
                clear H1
                obtain rfl := Option.some.inj H
                have p185 : 0 ≤ (0 : Int) := (by omega)
                have q185 : 0 < (l0.length : Int) := of_decide_eq_true (by first | (with_reducible assumption) | assumption)
                obtain ⟨ad185, A185_2, c185_2, A185_3, c185_3, e185, hx185_0, hx185_1, hx185_2, hx185_3, hx185_4, hx185_5, hl185_2, hi185_2, hl185_3, hi185_3⟩ := at_T115 HR0.out 0 p185 q185
                obtain rfl : ad183 = ad185 := (by injection e185)
                have qi185 : (0 < l0.length) = True := eq_true (by omega)
                (try rw [Int.toNat_zero] at hx185_0)
                (try rw [Nat.zero_mul _] at hx185_0)
                (try rw [Addr.add_zero'] at hx185_0)
                (try rw [Int.toNat_zero] at hx185_1)
                (try rw [Nat.zero_mul _] at hx185_1)
                (try rw [Addr.add_zero'] at hx185_1)
                (try rw [Int.toNat_zero] at hx185_2)
                (try rw [Nat.zero_mul _] at hx185_2)
                (try rw [Addr.add_zero'] at hx185_2)
                (try rw [Int.toNat_zero] at hx185_3)
                (try rw [Nat.zero_mul _] at hx185_3)
                (try rw [Addr.add_zero'] at hx185_3)
                (try rw [Int.toNat_zero] at hx185_4)
                (try rw [Nat.zero_mul _] at hx185_4)
                (try rw [Addr.add_zero'] at hx185_4)
                (try rw [Int.toNat_zero] at hx185_5)
                (try rw [Nat.zero_mul _] at hx185_5)
                (try rw [Addr.add_zero'] at hx185_5)
                have HR185_2 := Aside0.mk hi185_2
                have HC185_2 := Aside0.mk hl185_2
                clear hi185_2 hl185_2
                have HR185_3 := Aside0.mk hi185_3
                have HC185_3 := Aside0.mk hl185_3
                clear hi185_3 hl185_3
                replace p185 := eq_true p185
                replace q185 := eq_true q185
                (try clear hx183_0 hx183_1 hx183_2 hx183_3 hx183_4 hx183_5)
                (try clear hx183_0 hx183_1 hx183_2 hx183_3 hx183_4 hx183_5)
                (try clear hx183_0 hx183_1 hx183_2 hx183_3 hx183_4 hx183_5)
                (try clear hx183_0 hx183_1 hx183_2 hx183_3 hx183_4 hx183_5)
                (try clear hx183_0 hx183_1 hx183_2 hx183_3 hx183_4 hx183_5)
                (try clear hx183_0 hx183_1 hx183_2 hx183_3 hx183_4 hx183_5)
                go_wp2_with (first | ((with_reducible refine gate_callee (f := 73) rfl ?_); refine goesL_ (some 43) rfl rfl Try.func73 (by kernel_rfl) rfl #[.int .i64 ((rd_T115 l0 0).f1), .int .i64 0, .int .i64 9999] rfl (by (try simp only [List.map_toArray, List.map_cons, List.map_nil]); first | done | rfl | (simp only [List.length_drop, List.length_take]; rfl)) ?_; (with_reducible refine (spec_l1In.calls ((rd_T115 l0 0).f1) 0 9999 false _ A12.out).mono ?_); rintro e w' ⟨rfl, ⟨nd, rfl⟩⟩; refine ⟨_, rfl, ?_⟩))
                go_ret
                exact ⟨by first | rfl | (simp; done) | (simp [*]; done) | (simp; generalize ByteArray.toList _ = zq_; cases zq_ <;> rfl), by repeat (first | exact Drawn0.refl _ | apply Drawn0.step)⟩
            · rw [if_neg c11] at H
              exact absurd H (by simp)
          · replace c10 := Bool.eq_false_iff.mpr c10
            subst c10
            have H1 : (if ((rd_T115 l0 0).f0) = 5 then (if 0 < (l0.length : Int) then ((spec_l1In.f ((rd_T115 l0 0).f1) 0 400).bind fun t188 => (if t188 = true then (some 0) else (some 3))) else (none)) else (if ((rd_T115 l0 0).f0) = 6 then (spec_l12Value.j1 kj7 l0 true ((rd_T115 l0 0).f0) (((rd_T115 l0 0).f0) == 6)) else (spec_l12Value.j1 kj7 l0 true ((rd_T115 l0 0).f0) (((rd_T115 l0 0).f0) == 7)))) = some r := by rw [if_neg (show ¬ (false = true) by decide)] at H; exact H
            clear H
            have H := H1
            clear H1
            by_cases c14 : ((rd_T115 l0 0).f0) = 5
            · rw [if_pos c14] at H
              have c14b0 : (((rd_T115 l0 0).f0) == 5) = true := beq_iff_eq.mpr c14
              have c14b1 : (((rd_T115 l0 0).f0) != 5) = false := bne_eq_false_iff_eq.mpr c14
              clear c14
              by_cases c15 : 0 < (l0.length : Int)
              · rw [if_pos c15] at H
                have c15b0 : decide (0 < (l0.length : Int)) = true := decide_eq_true c15
                have c15b1 : decide (0 < l0.length) = true := decide_eq_true (by omega)
                clear c15
                replace H := Option.bind_eq_some_iff.mp H
                obtain ⟨t188, A160, H⟩ := H
                replace H : (if t188 = true then (some 0) else (some 3)) = some r := H
                have A16 := Aside0.mk A160
                clear A160
                by_cases c17 : t188 = true
                · subst c17
                  have H1 : (some 0) = some r := by rw [if_pos rfl] at H; exact H
                  clear H
                  have H := H1
                  clear H1
                  obtain rfl := Option.some.inj H
                  have p187 : 0 ≤ (0 : Int) := (by omega)
                  have q187 : 0 < (l0.length : Int) := of_decide_eq_true (by first | (with_reducible assumption) | assumption)
                  obtain ⟨ad187, A187_2, c187_2, A187_3, c187_3, e187, hx187_0, hx187_1, hx187_2, hx187_3, hx187_4, hx187_5, hl187_2, hi187_2, hl187_3, hi187_3⟩ := at_T115 HR0.out 0 p187 q187
                  obtain rfl : ad183 = ad187 := (by injection e187)
                  have qi187 : (0 < l0.length) = True := eq_true (by omega)
                  (try rw [Int.toNat_zero] at hx187_0)
                  (try rw [Nat.zero_mul _] at hx187_0)
                  (try rw [Addr.add_zero'] at hx187_0)
                  (try rw [Int.toNat_zero] at hx187_1)
                  (try rw [Nat.zero_mul _] at hx187_1)
                  (try rw [Addr.add_zero'] at hx187_1)
                  (try rw [Int.toNat_zero] at hx187_2)
                  (try rw [Nat.zero_mul _] at hx187_2)
                  (try rw [Addr.add_zero'] at hx187_2)
                  (try rw [Int.toNat_zero] at hx187_3)
                  (try rw [Nat.zero_mul _] at hx187_3)
                  (try rw [Addr.add_zero'] at hx187_3)
                  (try rw [Int.toNat_zero] at hx187_4)
                  (try rw [Nat.zero_mul _] at hx187_4)
                  (try rw [Addr.add_zero'] at hx187_4)
                  (try rw [Int.toNat_zero] at hx187_5)
                  (try rw [Nat.zero_mul _] at hx187_5)
                  (try rw [Addr.add_zero'] at hx187_5)
                  have HR187_2 := Aside0.mk hi187_2
                  have HC187_2 := Aside0.mk hl187_2
                  clear hi187_2 hl187_2
                  have HR187_3 := Aside0.mk hi187_3
                  have HC187_3 := Aside0.mk hl187_3
                  clear hi187_3 hl187_3
                  replace p187 := eq_true p187
                  replace q187 := eq_true q187
                  (try clear hx183_0 hx183_1 hx183_2 hx183_3 hx183_4 hx183_5)
                  (try clear hx183_0 hx183_1 hx183_2 hx183_3 hx183_4 hx183_5)
                  (try clear hx183_0 hx183_1 hx183_2 hx183_3 hx183_4 hx183_5)
                  (try clear hx183_0 hx183_1 hx183_2 hx183_3 hx183_4 hx183_5)
                  (try clear hx183_0 hx183_1 hx183_2 hx183_3 hx183_4 hx183_5)
                  (try clear hx183_0 hx183_1 hx183_2 hx183_3 hx183_4 hx183_5)
                  (try clear hx185_0 hx185_1 hx185_2 hx185_3 hx185_4 hx185_5)
                  (try clear hx185_0 hx185_1 hx185_2 hx185_3 hx185_4 hx185_5)
                  go_wp2_with (first | ((with_reducible refine gate_callee (f := 73) rfl ?_); refine goesL_ (some 50) rfl rfl Try.func73 (by kernel_rfl) rfl #[.int .i64 ((rd_T115 l0 0).f1), .int .i64 0, .int .i64 400] rfl (by (try simp only [List.map_toArray, List.map_cons, List.map_nil]); first | done | rfl | (simp only [List.length_drop, List.length_take]; rfl)) ?_; (with_reducible refine (spec_l1In.calls ((rd_T115 l0 0).f1) 0 400 true _ A16.out).mono ?_); rintro e w' ⟨rfl, ⟨nd, rfl⟩⟩; refine ⟨_, rfl, ?_⟩))
                  go_ret
                  exact ⟨by first | rfl | (simp; done) | (simp [*]; done) | (simp; generalize ByteArray.toList _ = zq_; cases zq_ <;> rfl), by repeat (first | exact Drawn0.refl _ | apply Drawn0.step)⟩
                · replace c17 := Bool.eq_false_iff.mpr c17
                  subst c17
                  have H1 : (some 3) = some r := by rw [if_neg (show ¬ (false = true) by decide)] at H; exact H
                  clear H
                  have H := H1
                  clear H1
                  obtain rfl := Option.some.inj H
                  have p187 : 0 ≤ (0 : Int) := (by omega)
                  have q187 : 0 < (l0.length : Int) := of_decide_eq_true (by first | (with_reducible assumption) | assumption)
                  obtain ⟨ad187, A187_2, c187_2, A187_3, c187_3, e187, hx187_0, hx187_1, hx187_2, hx187_3, hx187_4, hx187_5, hl187_2, hi187_2, hl187_3, hi187_3⟩ := at_T115 HR0.out 0 p187 q187
                  obtain rfl : ad183 = ad187 := (by injection e187)
                  have qi187 : (0 < l0.length) = True := eq_true (by omega)
                  (try rw [Int.toNat_zero] at hx187_0)
                  (try rw [Nat.zero_mul _] at hx187_0)
                  (try rw [Addr.add_zero'] at hx187_0)
                  (try rw [Int.toNat_zero] at hx187_1)
                  (try rw [Nat.zero_mul _] at hx187_1)
                  (try rw [Addr.add_zero'] at hx187_1)
                  (try rw [Int.toNat_zero] at hx187_2)
                  (try rw [Nat.zero_mul _] at hx187_2)
                  (try rw [Addr.add_zero'] at hx187_2)
                  (try rw [Int.toNat_zero] at hx187_3)
                  (try rw [Nat.zero_mul _] at hx187_3)
                  (try rw [Addr.add_zero'] at hx187_3)
                  (try rw [Int.toNat_zero] at hx187_4)
                  (try rw [Nat.zero_mul _] at hx187_4)
                  (try rw [Addr.add_zero'] at hx187_4)
                  (try rw [Int.toNat_zero] at hx187_5)
                  (try rw [Nat.zero_mul _] at hx187_5)
                  (try rw [Addr.add_zero'] at hx187_5)
                  have HR187_2 := Aside0.mk hi187_2
                  have HC187_2 := Aside0.mk hl187_2
                  clear hi187_2 hl187_2
                  have HR187_3 := Aside0.mk hi187_3
                  have HC187_3 := Aside0.mk hl187_3
                  clear hi187_3 hl187_3
                  replace p187 := eq_true p187
                  replace q187 := eq_true q187
                  (try clear hx183_0 hx183_1 hx183_2 hx183_3 hx183_4 hx183_5)
                  (try clear hx183_0 hx183_1 hx183_2 hx183_3 hx183_4 hx183_5)
                  (try clear hx183_0 hx183_1 hx183_2 hx183_3 hx183_4 hx183_5)
                  (try clear hx183_0 hx183_1 hx183_2 hx183_3 hx183_4 hx183_5)
                  (try clear hx183_0 hx183_1 hx183_2 hx183_3 hx183_4 hx183_5)
                  (try clear hx183_0 hx183_1 hx183_2 hx183_3 hx183_4 hx183_5)
                  (try clear hx185_0 hx185_1 hx185_2 hx185_3 hx185_4 hx185_5)
                  (try clear hx185_0 hx185_1 hx185_2 hx185_3 hx185_4 hx185_5)
                  go_wp2_with (first | ((with_reducible refine gate_callee (f := 73) rfl ?_); refine goesL_ (some 50) rfl rfl Try.func73 (by kernel_rfl) rfl #[.int .i64 ((rd_T115 l0 0).f1), .int .i64 0, .int .i64 400] rfl (by (try simp only [List.map_toArray, List.map_cons, List.map_nil]); first | done | rfl | (simp only [List.length_drop, List.length_take]; rfl)) ?_; (with_reducible refine (spec_l1In.calls ((rd_T115 l0 0).f1) 0 400 false _ A16.out).mono ?_); rintro e w' ⟨rfl, ⟨nd, rfl⟩⟩; refine ⟨_, rfl, ?_⟩))
                  go_ret
                  exact ⟨by first | rfl | (simp; done) | (simp [*]; done) | (simp; generalize ByteArray.toList _ = zq_; cases zq_ <;> rfl), by repeat (first | exact Drawn0.refl _ | apply Drawn0.step)⟩
              · rw [if_neg c15] at H
                exact absurd H (by simp)
            · rw [if_neg c14] at H
              have c14b0 : (((rd_T115 l0 0).f0) == 5) = false := beq_eq_false_iff_ne.mpr c14
              have c14b1 : (((rd_T115 l0 0).f0) != 5) = true := bne_iff_ne.mpr c14
              have HC18 := Aside0.mk H
              clear H
              go_upto_if 51 with (fail)
              go_cut [51] (fun v51 wc => ∃ (kq : Nat) (x51_17 : Bool), v51 = .bool x51_17 ∧ Aside0 (spec_l12Value.j1 kq l0 true ((rd_T115 l0 0).f0) x51_17 = some r) ∧ Aside0 (kq ≤ kj7) ∧ Drawn0 w wc)
              case first =>
                have H := HC18.out
                clear HC18
                by_cases c19 : ((rd_T115 l0 0).f0) = 6
                · rw [if_pos c19] at H
                  have c19b0 : (((rd_T115 l0 0).f0) == 6) = true := beq_iff_eq.mpr c19
                  have c19b1 : (((rd_T115 l0 0).f0) != 6) = false := bne_eq_false_iff_eq.mpr c19
                  clear c19
                  (first | rw [c19b0] | (simp only [i64_w, i32_w]; rw [c19b0]) | skip)
                  have H' := Aside0.mk H
                  clear H
                  go_wp2
                  go_meet
                  case rel => exact ⟨_, ((((rd_T115 l0 0).f0) == 6)), (by first | rfl | (simp; done) | (simp [*]; done) | (simp; generalize ByteArray.toList _ = zq_; cases zq_ <;> rfl)), H', ⟨by have := HJ7.out; first | omega | exact Nat.le_refl _⟩, by repeat (first | exact Drawn0.refl _ | apply Drawn0.step)⟩
                · rw [if_neg c19] at H
                  have c19b0 : (((rd_T115 l0 0).f0) == 6) = false := beq_eq_false_iff_ne.mpr c19
                  have c19b1 : (((rd_T115 l0 0).f0) != 6) = true := bne_iff_ne.mpr c19
                  (first | rw [c19b0] | (simp only [i64_w, i32_w]; rw [c19b0]) | skip)
                  have H' := Aside0.mk H
                  clear H
                  go_wp2
                  go_meet
                  case rel => exact ⟨_, ((((rd_T115 l0 0).f0) == 7)), (by first | rfl | (simp; done) | (simp [*]; done) | (simp; generalize ByteArray.toList _ = zq_; cases zq_ <;> rfl)), H', ⟨by have := HJ7.out; first | omega | exact Nat.le_refl _⟩, by repeat (first | exact Drawn0.refl _ | apply Drawn0.step)⟩
              case rest =>
                clear HC18
                try clear c1
                try clear p1
                try clear q1
                try clear hx1
                try clear qi1
                try clear c2
                try clear c2b0
                try clear c2b1
                try clear p2
                try clear c3
                try clear c3b0
                try clear c3b1
                try clear c4
                try clear c4b0
                try clear c4b1
                try clear c5
                try clear c5b0
                try clear c5b1
                try clear c6
                try clear c6b0
                try clear c6b1
                try clear c7
                try clear c7b0
                try clear c7b1
                try clear c9
                try clear c9b0
                try clear c9b1
                try clear c10
                try clear c11
                try clear c11b0
                try clear c11b1
                try clear c13
                try clear c14
                try clear c14b0
                try clear c14b1
                try clear c15
                try clear c15b0
                try clear c15b1
                try clear c17
                try clear c18
                try clear p18
                try clear q18
                try clear hx18
                try clear qi18
                try clear c19
                try clear c19b0
                try clear c19b1
                try clear hx183_0
                try clear hx183_1
                try clear hx183_2
                try clear hx183_3
                try clear hx183_4
                try clear hx183_5
                try clear hx184_0
                try clear hx184_1
                try clear hx184_2
                try clear hx184_3
                try clear hx184_4
                try clear hx184_5
                try clear hx185_0
                try clear hx185_1
                try clear hx185_2
                try clear hx185_3
                try clear hx185_4
                try clear hx185_5
                try clear hx187_0
                try clear hx187_1
                try clear hx187_2
                try clear hx187_3
                try clear hx187_4
                try clear hx187_5
                try clear p1
                try clear p183
                try clear p184
                try clear p185
                try clear p187
                try clear p2
                try clear q1
                try clear q183
                try clear q184
                try clear q185
                try clear q187
                obtain ⟨kq, x51_17, rfl, HA, HJ17, ⟨mc17, rfl⟩⟩ := hcut
                cases kq with
                | zero => exact absurd HA.out (by simp [spec_l12Value.j1])
                | succ kj17 =>
                  have H := HA.out
                  clear HA
                  simp only [spec_l12Value.j1] at H
                  by_cases c20 : x51_17 = true
                  · subst c20
                    have H1 : (if 0 < (l0.length : Int) then ((spec_l12Codes.f kj17 ((rd_T115 l0 0).f2)).bind fun t190 => (if t190 = true then (some 0) else (some 3))) else (none)) = some r := by rw [if_pos rfl] at H; exact H
                    clear H
                    have H := H1
                    clear H1
                    by_cases c21 : 0 < (l0.length : Int)
                    · rw [if_pos c21] at H
                      have c21b0 : decide (0 < (l0.length : Int)) = true := decide_eq_true c21
                      have c21b1 : decide (0 < l0.length) = true := decide_eq_true (by omega)
                      clear c21
                      replace H := Option.bind_eq_some_iff.mp H
                      obtain ⟨t190, A220, H⟩ := H
                      replace H : (if t190 = true then (some 0) else (some 3)) = some r := H
                      have A22 := Aside0.mk A220
                      clear A220
                      by_cases c23 : t190 = true
                      · subst c23
                        have H1 : (some 0) = some r := by rw [if_pos rfl] at H; exact H
                        clear H
                        have H := H1
                        clear H1
                        obtain rfl := Option.some.inj H
                        have p189 : 0 ≤ (0 : Int) := (by omega)
                        have q189 : 0 < (l0.length : Int) := of_decide_eq_true (by first | (with_reducible assumption) | assumption)
                        obtain ⟨ad189, A189_2, c189_2, A189_3, c189_3, e189, hx189_0, hx189_1, hx189_2, hx189_3, hx189_4, hx189_5, hl189_2, hi189_2, hl189_3, hi189_3⟩ := at_T115 HR0.out 0 p189 q189
                        obtain rfl : ad183 = ad189 := (by injection e189)
                        have qi189 : (0 < l0.length) = True := eq_true (by omega)
                        (try rw [Int.toNat_zero] at hx189_0)
                        (try rw [Nat.zero_mul _] at hx189_0)
                        (try rw [Addr.add_zero'] at hx189_0)
                        (try rw [Int.toNat_zero] at hx189_1)
                        (try rw [Nat.zero_mul _] at hx189_1)
                        (try rw [Addr.add_zero'] at hx189_1)
                        (try rw [Int.toNat_zero] at hx189_2)
                        (try rw [Nat.zero_mul _] at hx189_2)
                        (try rw [Addr.add_zero'] at hx189_2)
                        (try rw [Int.toNat_zero] at hx189_3)
                        (try rw [Nat.zero_mul _] at hx189_3)
                        (try rw [Addr.add_zero'] at hx189_3)
                        (try rw [Int.toNat_zero] at hx189_4)
                        (try rw [Nat.zero_mul _] at hx189_4)
                        (try rw [Addr.add_zero'] at hx189_4)
                        (try rw [Int.toNat_zero] at hx189_5)
                        (try rw [Nat.zero_mul _] at hx189_5)
                        (try rw [Addr.add_zero'] at hx189_5)
                        have HR189_2 := Aside0.mk hi189_2
                        have HC189_2 := Aside0.mk hl189_2
                        clear hi189_2 hl189_2
                        have HR189_3 := Aside0.mk hi189_3
                        have HC189_3 := Aside0.mk hl189_3
                        clear hi189_3 hl189_3
                        replace p189 := eq_true p189
                        replace q189 := eq_true q189
                        (try clear hx183_0 hx183_1 hx183_2 hx183_3 hx183_4 hx183_5)
                        (try clear hx183_0 hx183_1 hx183_2 hx183_3 hx183_4 hx183_5)
                        (try clear hx183_0 hx183_1 hx183_2 hx183_3 hx183_4 hx183_5)
                        (try clear hx183_0 hx183_1 hx183_2 hx183_3 hx183_4 hx183_5)
                        (try clear hx183_0 hx183_1 hx183_2 hx183_3 hx183_4 hx183_5)
                        (try clear hx183_0 hx183_1 hx183_2 hx183_3 hx183_4 hx183_5)
                        (try clear hx185_0 hx185_1 hx185_2 hx185_3 hx185_4 hx185_5)
                        (try clear hx185_0 hx185_1 hx185_2 hx185_3 hx185_4 hx185_5)
                        (try clear hx187_0 hx187_1 hx187_2 hx187_3 hx187_4 hx187_5)
                        (try clear hx187_0 hx187_1 hx187_2 hx187_3 hx187_4 hx187_5)
                        go_wp2_with (first | ((with_reducible refine gate_callee (f := 172) rfl ?_); refine goesL_ (some 58) rfl rfl Try.func172 (by kernel_rfl) rfl #[.slice A189_2 ((rd_T115 l0 0).f2).length c189_2] rfl (by (try simp only [List.map_toArray, List.map_cons, List.map_nil]); first | done | rfl | (simp only [List.length_drop, List.length_take]; rfl)) ?_; (with_reducible refine (spec_l12Codes.calls kj17 _ _ ((rd_T115 l0 0).f2) true _ ?side1 ?side2 A22.out).mono ?_); (case side1 => repeat (first | exact HR189_2.out | (with_reducible refine Kd.C_alloc ?_ _) | (with_reducible refine Kd.C_drewN ?_ _) | (with_reducible refine Kd.C_drew ?_))); (case side2 => exact HC189_2.out); rintro e w' ⟨rfl, ⟨nd, rfl⟩⟩; refine ⟨_, rfl, ?_⟩))
                        go_ret
                        exact ⟨by first | rfl | (simp; done) | (simp [*]; done) | (simp; generalize ByteArray.toList _ = zq_; cases zq_ <;> rfl), by repeat (first | exact Drawn0.refl _ | apply Drawn0.step)⟩
                      · replace c23 := Bool.eq_false_iff.mpr c23
                        subst c23
                        have H1 : (some 3) = some r := by rw [if_neg (show ¬ (false = true) by decide)] at H; exact H
                        clear H
                        have H := H1
                        clear H1
                        obtain rfl := Option.some.inj H
                        have p189 : 0 ≤ (0 : Int) := (by omega)
                        have q189 : 0 < (l0.length : Int) := of_decide_eq_true (by first | (with_reducible assumption) | assumption)
                        obtain ⟨ad189, A189_2, c189_2, A189_3, c189_3, e189, hx189_0, hx189_1, hx189_2, hx189_3, hx189_4, hx189_5, hl189_2, hi189_2, hl189_3, hi189_3⟩ := at_T115 HR0.out 0 p189 q189
                        obtain rfl : ad183 = ad189 := (by injection e189)
                        have qi189 : (0 < l0.length) = True := eq_true (by omega)
                        (try rw [Int.toNat_zero] at hx189_0)
                        (try rw [Nat.zero_mul _] at hx189_0)
                        (try rw [Addr.add_zero'] at hx189_0)
                        (try rw [Int.toNat_zero] at hx189_1)
                        (try rw [Nat.zero_mul _] at hx189_1)
                        (try rw [Addr.add_zero'] at hx189_1)
                        (try rw [Int.toNat_zero] at hx189_2)
                        (try rw [Nat.zero_mul _] at hx189_2)
                        (try rw [Addr.add_zero'] at hx189_2)
                        (try rw [Int.toNat_zero] at hx189_3)
                        (try rw [Nat.zero_mul _] at hx189_3)
                        (try rw [Addr.add_zero'] at hx189_3)
                        (try rw [Int.toNat_zero] at hx189_4)
                        (try rw [Nat.zero_mul _] at hx189_4)
                        (try rw [Addr.add_zero'] at hx189_4)
                        (try rw [Int.toNat_zero] at hx189_5)
                        (try rw [Nat.zero_mul _] at hx189_5)
                        (try rw [Addr.add_zero'] at hx189_5)
                        have HR189_2 := Aside0.mk hi189_2
                        have HC189_2 := Aside0.mk hl189_2
                        clear hi189_2 hl189_2
                        have HR189_3 := Aside0.mk hi189_3
                        have HC189_3 := Aside0.mk hl189_3
                        clear hi189_3 hl189_3
                        replace p189 := eq_true p189
                        replace q189 := eq_true q189
                        (try clear hx183_0 hx183_1 hx183_2 hx183_3 hx183_4 hx183_5)
                        (try clear hx183_0 hx183_1 hx183_2 hx183_3 hx183_4 hx183_5)
                        (try clear hx183_0 hx183_1 hx183_2 hx183_3 hx183_4 hx183_5)
                        (try clear hx183_0 hx183_1 hx183_2 hx183_3 hx183_4 hx183_5)
                        (try clear hx183_0 hx183_1 hx183_2 hx183_3 hx183_4 hx183_5)
                        (try clear hx183_0 hx183_1 hx183_2 hx183_3 hx183_4 hx183_5)
                        (try clear hx185_0 hx185_1 hx185_2 hx185_3 hx185_4 hx185_5)
                        (try clear hx185_0 hx185_1 hx185_2 hx185_3 hx185_4 hx185_5)
                        (try clear hx187_0 hx187_1 hx187_2 hx187_3 hx187_4 hx187_5)
                        (try clear hx187_0 hx187_1 hx187_2 hx187_3 hx187_4 hx187_5)
                        go_wp2_with (first | ((with_reducible refine gate_callee (f := 172) rfl ?_); refine goesL_ (some 58) rfl rfl Try.func172 (by kernel_rfl) rfl #[.slice A189_2 ((rd_T115 l0 0).f2).length c189_2] rfl (by (try simp only [List.map_toArray, List.map_cons, List.map_nil]); first | done | rfl | (simp only [List.length_drop, List.length_take]; rfl)) ?_; (with_reducible refine (spec_l12Codes.calls kj17 _ _ ((rd_T115 l0 0).f2) false _ ?side1 ?side2 A22.out).mono ?_); (case side1 => repeat (first | exact HR189_2.out | (with_reducible refine Kd.C_alloc ?_ _) | (with_reducible refine Kd.C_drewN ?_ _) | (with_reducible refine Kd.C_drew ?_))); (case side2 => exact HC189_2.out); rintro e w' ⟨rfl, ⟨nd, rfl⟩⟩; refine ⟨_, rfl, ?_⟩))
                        go_ret
                        exact ⟨by first | rfl | (simp; done) | (simp [*]; done) | (simp; generalize ByteArray.toList _ = zq_; cases zq_ <;> rfl), by repeat (first | exact Drawn0.refl _ | apply Drawn0.step)⟩
                    · rw [if_neg c21] at H
                      exact absurd H (by simp)
                  · replace c20 := Bool.eq_false_iff.mpr c20
                    subst c20
                    have H1 : (if ((rd_T115 l0 0).f0) = 8 then (if 0 < (l0.length : Int) then ((spec_l11Fault.f kj17 ((rd_T115 l0 0).f3)).bind fun t192 => (some t192)) else (none)) else (if true = true then (some 0) else (some 3))) = some r := by rw [if_neg (show ¬ (false = true) by decide)] at H; exact H
                    clear H
                    have H := H1
                    clear H1
                    by_cases c24 : ((rd_T115 l0 0).f0) = 8
                    · rw [if_pos c24] at H
                      have c24b0 : (((rd_T115 l0 0).f0) == 8) = true := beq_iff_eq.mpr c24
                      have c24b1 : (((rd_T115 l0 0).f0) != 8) = false := bne_eq_false_iff_eq.mpr c24
                      clear c24
                      by_cases c25 : 0 < (l0.length : Int)
                      · rw [if_pos c25] at H
                        have c25b0 : decide (0 < (l0.length : Int)) = true := decide_eq_true c25
                        have c25b1 : decide (0 < l0.length) = true := decide_eq_true (by omega)
                        clear c25
                        replace H := Option.bind_eq_some_iff.mp H
                        obtain ⟨t192, A260, H⟩ := H
                        replace H : (some t192) = some r := H
                        have A26 := Aside0.mk A260
                        clear A260
                        obtain rfl := Option.some.inj H
                        have p191 : 0 ≤ (0 : Int) := (by omega)
                        have q191 : 0 < (l0.length : Int) := of_decide_eq_true (by first | (with_reducible assumption) | assumption)
                        obtain ⟨ad191, A191_2, c191_2, A191_3, c191_3, e191, hx191_0, hx191_1, hx191_2, hx191_3, hx191_4, hx191_5, hl191_2, hi191_2, hl191_3, hi191_3⟩ := at_T115 HR0.out 0 p191 q191
                        obtain rfl : ad183 = ad191 := (by injection e191)
                        have qi191 : (0 < l0.length) = True := eq_true (by omega)
                        (try rw [Int.toNat_zero] at hx191_0)
                        (try rw [Nat.zero_mul _] at hx191_0)
                        (try rw [Addr.add_zero'] at hx191_0)
                        (try rw [Int.toNat_zero] at hx191_1)
                        (try rw [Nat.zero_mul _] at hx191_1)
                        (try rw [Addr.add_zero'] at hx191_1)
                        (try rw [Int.toNat_zero] at hx191_2)
                        (try rw [Nat.zero_mul _] at hx191_2)
                        (try rw [Addr.add_zero'] at hx191_2)
                        (try rw [Int.toNat_zero] at hx191_3)
                        (try rw [Nat.zero_mul _] at hx191_3)
                        (try rw [Addr.add_zero'] at hx191_3)
                        (try rw [Int.toNat_zero] at hx191_4)
                        (try rw [Nat.zero_mul _] at hx191_4)
                        (try rw [Addr.add_zero'] at hx191_4)
                        (try rw [Int.toNat_zero] at hx191_5)
                        (try rw [Nat.zero_mul _] at hx191_5)
                        (try rw [Addr.add_zero'] at hx191_5)
                        have HR191_2 := Aside0.mk hi191_2
                        have HC191_2 := Aside0.mk hl191_2
                        clear hi191_2 hl191_2
                        have HR191_3 := Aside0.mk hi191_3
                        have HC191_3 := Aside0.mk hl191_3
                        clear hi191_3 hl191_3
                        replace p191 := eq_true p191
                        replace q191 := eq_true q191
                        (try clear hx183_0 hx183_1 hx183_2 hx183_3 hx183_4 hx183_5)
                        (try clear hx183_0 hx183_1 hx183_2 hx183_3 hx183_4 hx183_5)
                        (try clear hx183_0 hx183_1 hx183_2 hx183_3 hx183_4 hx183_5)
                        (try clear hx183_0 hx183_1 hx183_2 hx183_3 hx183_4 hx183_5)
                        (try clear hx183_0 hx183_1 hx183_2 hx183_3 hx183_4 hx183_5)
                        (try clear hx183_0 hx183_1 hx183_2 hx183_3 hx183_4 hx183_5)
                        (try clear hx185_0 hx185_1 hx185_2 hx185_3 hx185_4 hx185_5)
                        (try clear hx185_0 hx185_1 hx185_2 hx185_3 hx185_4 hx185_5)
                        (try clear hx187_0 hx187_1 hx187_2 hx187_3 hx187_4 hx187_5)
                        (try clear hx187_0 hx187_1 hx187_2 hx187_3 hx187_4 hx187_5)
                        (try clear hx189_0 hx189_1 hx189_2 hx189_3 hx189_4 hx189_5)
                        (try clear hx189_0 hx189_1 hx189_2 hx189_3 hx189_4 hx189_5)
                        go_wp2_with (first | ((with_reducible refine gate_callee (f := 173) rfl ?_); refine goesL_ (some 65) rfl rfl Try.func173 (by kernel_rfl) rfl #[.slice A191_3 ((rd_T115 l0 0).f3).length c191_3] rfl (by (try simp only [List.map_toArray, List.map_cons, List.map_nil]); first | done | rfl | (simp only [List.length_drop, List.length_take]; rfl)) ?_; (with_reducible refine (spec_l11Fault.calls kj17 _ _ ((rd_T115 l0 0).f3) t192 _ ?side1 ?side2 A26.out).mono ?_); (case side1 => repeat (first | exact HR191_3.out | (with_reducible refine Kd.C_alloc ?_ _) | (with_reducible refine Kd.C_drewN ?_ _) | (with_reducible refine Kd.C_drew ?_))); (case side2 => exact HC191_3.out); rintro e w' ⟨rfl, ⟨nd, rfl⟩⟩; refine ⟨_, rfl, ?_⟩))
                        go_ret
                        exact ⟨by first | rfl | (simp; done) | (simp [*]; done) | (simp; generalize ByteArray.toList _ = zq_; cases zq_ <;> rfl), by repeat (first | exact Drawn0.refl _ | apply Drawn0.step)⟩
                      · rw [if_neg c25] at H
                        exact absurd H (by simp)
                    · rw [if_neg c24] at H
                      have c24b0 : (((rd_T115 l0 0).f0) == 8) = false := beq_eq_false_iff_ne.mpr c24
                      have c24b1 : (((rd_T115 l0 0).f0) != 8) = true := bne_iff_ne.mpr c24
                      by_cases c27 : true = true
                      · clear c27
                        have H1 : (some 0) = some r := by rw [if_pos rfl] at H; exact H
                        clear H
                        have H := H1
                        clear H1
                        obtain rfl := Option.some.inj H
                        go_wp2
                        go_ret
                        exact ⟨by first | rfl | (simp; done) | (simp [*]; done) | (simp; generalize ByteArray.toList _ = zq_; cases zq_ <;> rfl), by repeat (first | exact Drawn0.refl _ | apply Drawn0.step)⟩
                      · exact absurd rfl c27
  rotate_left 5
  · rw [if_neg c2] at H
    exact absurd H (by simp)
  all_goals first
    | (with_reducible refine spec_l12Value.Tag.mk 1 ?_)
      have p183 : 0 ≤ (0 : Int) := (by omega)
      have q183 : 0 < (l0.length : Int) := of_decide_eq_true (by first | (with_reducible assumption) | assumption)
      obtain ⟨ad183, A183_2, c183_2, A183_3, c183_3, e183, hx183_0, hx183_1, hx183_2, hx183_3, hx183_4, hx183_5, hl183_2, hi183_2, hl183_3, hi183_3⟩ := at_T115 HR0.out 0 p183 q183
      cases e183
      have qi183 : (0 < l0.length) = True := eq_true (by omega)
      (try rw [Int.toNat_zero] at hx183_0)
      (try rw [Nat.zero_mul _] at hx183_0)
      (try rw [Addr.add_zero'] at hx183_0)
      (try rw [Int.toNat_zero] at hx183_1)
      (try rw [Nat.zero_mul _] at hx183_1)
      (try rw [Addr.add_zero'] at hx183_1)
      (try rw [Int.toNat_zero] at hx183_2)
      (try rw [Nat.zero_mul _] at hx183_2)
      (try rw [Addr.add_zero'] at hx183_2)
      (try rw [Int.toNat_zero] at hx183_3)
      (try rw [Nat.zero_mul _] at hx183_3)
      (try rw [Addr.add_zero'] at hx183_3)
      (try rw [Int.toNat_zero] at hx183_4)
      (try rw [Nat.zero_mul _] at hx183_4)
      (try rw [Addr.add_zero'] at hx183_4)
      (try rw [Int.toNat_zero] at hx183_5)
      (try rw [Nat.zero_mul _] at hx183_5)
      (try rw [Addr.add_zero'] at hx183_5)
      have HR183_2 := Aside0.mk hi183_2
      have HC183_2 := Aside0.mk hl183_2
      clear hi183_2 hl183_2
      have HR183_3 := Aside0.mk hi183_3
      have HC183_3 := Aside0.mk hl183_3
      clear hi183_3 hl183_3
      replace p183 := eq_true p183
      replace q183 := eq_true q183
      have p184 : 0 ≤ (0 : Int) := (by omega)
      have q184 : 0 < (l0.length : Int) := of_decide_eq_true (by first | (with_reducible assumption) | assumption)
      obtain ⟨ad184, A184_2, c184_2, A184_3, c184_3, e184, hx184_0, hx184_1, hx184_2, hx184_3, hx184_4, hx184_5, hl184_2, hi184_2, hl184_3, hi184_3⟩ := at_T115 HR0.out 0 p184 q184
      obtain rfl : ad183 = ad184 := (by injection e184)
      have qi184 : (0 < l0.length) = True := eq_true (by omega)
      (try rw [Int.toNat_zero] at hx184_0)
      (try rw [Nat.zero_mul _] at hx184_0)
      (try rw [Addr.add_zero'] at hx184_0)
      (try rw [Int.toNat_zero] at hx184_1)
      (try rw [Nat.zero_mul _] at hx184_1)
      (try rw [Addr.add_zero'] at hx184_1)
      (try rw [Int.toNat_zero] at hx184_2)
      (try rw [Nat.zero_mul _] at hx184_2)
      (try rw [Addr.add_zero'] at hx184_2)
      (try rw [Int.toNat_zero] at hx184_3)
      (try rw [Nat.zero_mul _] at hx184_3)
      (try rw [Addr.add_zero'] at hx184_3)
      (try rw [Int.toNat_zero] at hx184_4)
      (try rw [Nat.zero_mul _] at hx184_4)
      (try rw [Addr.add_zero'] at hx184_4)
      (try rw [Int.toNat_zero] at hx184_5)
      (try rw [Nat.zero_mul _] at hx184_5)
      (try rw [Addr.add_zero'] at hx184_5)
      have HR184_2 := Aside0.mk hi184_2
      have HC184_2 := Aside0.mk hl184_2
      clear hi184_2 hl184_2
      have HR184_3 := Aside0.mk hi184_3
      have HC184_3 := Aside0.mk hl184_3
      clear hi184_3 hl184_3
      replace p184 := eq_true p184
      replace q184 := eq_true q184
      have ea_ := Option.some.inj (hx183_2.symm.trans hx184_2)
      injection ea_ with ea_ en_ ec_
      subst ea_
      subst ec_
      clear en_
      have ea_ := Option.some.inj (hx183_3.symm.trans hx184_3)
      injection ea_ with ea_ en_ ec_
      subst ea_
      subst ec_
      clear en_
      (try clear hx184_0)
      (try clear hx184_1)
      (try clear hx184_2)
      (try clear hx184_3)
      (try clear hx184_4)
      (try clear hx184_5)
      (try clear qi184)
      go_enter Try.func145, Try.ntmps145
      go_wp2
      go_ret
      exact ⟨by first | rfl | (simp; done) | (simp [*]; done) | (simp; generalize ByteArray.toList _ = zq_; cases zq_ <;> rfl), by repeat (first | exact Drawn0.refl _ | apply Drawn0.step)⟩

end Go.Proofs.Ytlneiofnmbcheaa.PFnExactTermsFault

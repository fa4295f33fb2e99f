/- Functions of the program as Lean functions, each with the proof that its call comes to what that function says (texts written by a program of this session). Conditions: those that stand in each theorem. -/
import Derived.Test.YtfbgfakdflifdaaPFnExactOpFaultx0
import Derived.Test.YtfbgfakdflifdaaPFnExactOpFaultx1
namespace Go.Proofs.Ytfbgfakdflifdaa.PFnExactOpFault
open Go.RowKit Go.Proofs.YtfbgfakdflifdaaW.PrintWords Go.Proofs.YtfbgfakdflifdaaW.PrintLast Go.Proofs.YtfbgfakdflifdaaW.PrintMore
attribute [local go_sem] max2_int min2_int max_two min_two max_three min_three max_four min_four   -- for this text's walks alone
set_option linter.unusedVariables false
set_option linter.unusedSimpArgs false

/-! ### spec_l8Form: function 137 -/
mutual
def spec_l8Form.j0 : Nat → List (S40) → Bool → Option (Bool)
  | 0, _, _ => none
  | k + 1, x0, x23 => if x23 = true then (some false) else (if 0 < (x0.length : Int) then ((spec_l8Copies.f ((rd_T40 x0 0).f0)).bind fun t110 => (if t110 = true then (if ((rd_T40 x0 0).f0) = 4 then (spec_l8Form.j1 k x0 false) else (spec_l8Form.j1 k x0 (((rd_T40 x0 0).f4) != 0))) else (if ((rd_T40 x0 0).f0) = 4 then (spec_l8Form.j1 k x0 false) else (if (((rd_T40 x0 0).f3).length : Int) > 0 then (spec_l8Form.j1 k x0 true) else (spec_l8Form.j1 k x0 (((rd_T40 x0 0).f4) != 0)))))) else (none))
def spec_l8Form.j1 : Nat → List (S40) → Bool → Option (Bool)
  | 0, _, _ => none
  | k + 1, x0, x58 => if x58 = true then (some false) else (if 0 < (x0.length : Int) then (if ((rd_T40 x0 0).f0) = 3 then (some true) else (if ((rd_T40 x0 0).f6) = 0 then (if (((rd_T40 x0 0).f7).length : Int) > 0 then (some false) else (if ((rd_T40 x0 0).f0) = 4 then (some true) else (some (((rd_T40 x0 0).f5) == 0)))) else (some false))) else (none))
end
def spec_l8Form.f (k : Nat) (l0 : List (S40)) : Option (Bool) := if 0 < (l0.length : Int) then ((spec_l1In.f ((rd_T40 l0 0).f0) 1 7).bind fun t105 => (if t105 = true then ((spec_l8Copies.f ((rd_T40 l0 0).f0)).bind fun t107 => (if t107 = true then (spec_l8Form.j0 k l0 false) else (spec_l8Form.j0 k l0 (((rd_T40 l0 0).f2).toList != ([] : List UInt8))))) else (spec_l8Form.j0 k l0 true))) else (none)
theorem spec_l8Form.mono_l : ∀ k, (∀ y0 y1, LeO (spec_l8Form.j0 k y0 y1) (spec_l8Form.j0 (k + 1) y0 y1)) ∧ (∀ y0 y1, LeO (spec_l8Form.j1 k y0 y1) (spec_l8Form.j1 (k + 1) y0 y1))
  | 0 => ⟨fun _ _ r h => by simp [spec_l8Form.j0] at h, fun _ _ r h => by simp [spec_l8Form.j1] at h⟩
  | k + 1 => by
    obtain ⟨ih0, ih1⟩ := spec_l8Form.mono_l k
    refine ⟨?_, ?_⟩
    · intro y0 y1
      unfold spec_l8Form.j0
      repeat' first
      | (with_reducible exact ih0 _ _)
      | (with_reducible exact ih1 _ _)
      | (with_reducible exact LeO.refl _)
      | (with_reducible exact LeO.none _)
      | (with_reducible refine LeO.ite ?_ ?_)
      | (with_reducible refine LeO.bind ?_ (fun _ => ?_))
      | exact ih0 _ _
      | exact ih1 _ _
      | exact LeO.none _
      | refine LeO.ite ?_ ?_
      | refine LeO.bind ?_ (fun _ => ?_)
    · intro y0 y1
      unfold spec_l8Form.j1
      repeat' first
      | (with_reducible exact ih0 _ _)
      | (with_reducible exact ih1 _ _)
      | (with_reducible exact LeO.refl _)
      | (with_reducible exact LeO.none _)
      | (with_reducible refine LeO.ite ?_ ?_)
      | (with_reducible refine LeO.bind ?_ (fun _ => ?_))
      | exact ih0 _ _
      | exact ih1 _ _
      | exact LeO.none _
      | refine LeO.ite ?_ ?_
      | refine LeO.bind ?_ (fun _ => ?_)
theorem spec_l8Form.mono : ∀ a0 k, LeO (spec_l8Form.f k a0) (spec_l8Form.f (k + 1) a0) := by
  intro a0 k
  obtain ⟨ih0, ih1⟩ := spec_l8Form.mono_l k
  unfold spec_l8Form.f
  repeat' first
      | (with_reducible exact ih0 _ _)
      | (with_reducible exact ih1 _ _)
      | (with_reducible exact LeO.refl _)
      | (with_reducible exact LeO.none _)
      | (with_reducible refine LeO.ite ?_ ?_)
      | (with_reducible refine LeO.bind ?_ (fun _ => ?_))
      | exact ih0 _ _
      | exact ih1 _ _
      | exact LeO.none _
      | refine LeO.ite ?_ ?_
      | refine LeO.bind ?_ (fun _ => ?_)
set_option maxHeartbeats 8000000 in
set_option maxRecDepth 100000 in
theorem spec_l8Form.calls (k : Nat) (A0 : Option Addr) (c0 : Nat) (l0 : List (S40)) (r : Bool) (w : World) (hr0 : Kd.C k40 w A0 l0.length l0) (hc0 : l0.length ≤ c0) (h : spec_l8Form.f k l0 = some r) :
    Calls Try.prog 137 #[.pointer A0] w fun e w' => e = .returned (.bool r) ∧ Drawn0 w w' := by
  have HR0 := Aside0.mk hr0
  have HC0 := Aside0.mk hc0
  clear hr0 hc0
  have H : (if 0 < (l0.length : Int) then ((spec_l1In.f ((rd_T40 l0 0).f0) 1 7).bind fun t105 => (if t105 = true then ((spec_l8Copies.f ((rd_T40 l0 0).f0)).bind fun t107 => (if t107 = true then (spec_l8Form.j0 k l0 false) else (spec_l8Form.j0 k l0 (((rd_T40 l0 0).f2).toList != ([] : List UInt8))))) else (spec_l8Form.j0 k l0 true))) else (none)) = some r := h
  clear h
  have HC2 := Aside0.mk H
  clear H
  go_enter Try.func137, Try.ntmps137
  go_upto_region 1 with (fail)
  go_cut [23] (fun v23 wc => ∃ (kq : Nat) (x23_1 : Bool), v23 = .bool x23_1 ∧ Aside0 (spec_l8Form.j0 kq l0 x23_1 = some r) ∧ Aside0 (kq ≤ k) ∧ Drawn0 w wc)
  case first =>
    have H := HC2.out
    clear HC2
    by_cases c3 : 0 < (l0.length : Int)
    · rw [if_pos c3] at H
      have c3b0 : decide (0 < (l0.length : Int)) = true := decide_eq_true c3
      have c3b1 : decide (0 < l0.length) = true := decide_eq_true (by omega)
      clear c3
      (first | rw [c3b0] | (simp only [i64_w, i32_w]; rw [c3b0]) | skip)
      replace H := Option.bind_eq_some_iff.mp H
      obtain ⟨t105, A40, H⟩ := H
      replace H : (if t105 = true then ((spec_l8Copies.f ((rd_T40 l0 0).f0)).bind fun t107 => (if t107 = true then (spec_l8Form.j0 k l0 false) else (spec_l8Form.j0 k l0 (((rd_T40 l0 0).f2).toList != ([] : List UInt8))))) else (spec_l8Form.j0 k l0 true)) = some r := H
      have A4 := Aside0.mk A40
      clear A40
      by_cases c5 : t105 = true
      · subst c5
        have H1 : ((spec_l8Copies.f ((rd_T40 l0 0).f0)).bind fun t107 => (if t107 = true then (spec_l8Form.j0 k l0 false) else (spec_l8Form.j0 k l0 (((rd_T40 l0 0).f2).toList != ([] : List UInt8))))) = some r := by rw [if_pos rfl] at H; exact H
        clear H
        have H := H1
        clear H1
        replace H := Option.bind_eq_some_iff.mp H
        obtain ⟨t107, A60, H⟩ := H
        replace H : (if t107 = true then (spec_l8Form.j0 k l0 false) else (spec_l8Form.j0 k l0 (((rd_T40 l0 0).f2).toList != ([] : List UInt8)))) = some r := H
        have A6 := Aside0.mk A60
        clear A60
        by_cases c7 : t107 = true
        · subst c7
          have H1 : (spec_l8Form.j0 k l0 false) = some r := by rw [if_pos rfl] at H; exact H
          clear H
          have H := H1
          clear H1
          have H' := Aside0.mk H
          clear H
          have p104 : 0 ≤ (0 : Int) := (by omega)
          have q104 : 0 < (l0.length : Int) := of_decide_eq_true (by first | (with_reducible assumption) | assumption)
          obtain ⟨ad104, A104_3, c104_3, A104_7, c104_7, e104, hx104_0, hx104_1, hx104_2, hx104_3, hx104_4, hx104_5, hx104_6, hx104_7, hl104_3, hi104_3, hl104_7, hi104_7⟩ := at_T40 HR0.out 0 p104 q104
          cases e104
          have qi104 : (0 < l0.length) = True := eq_true (by omega)
          (try rw [show ((0 : Int)).toNat = 0 from rfl] at hx104_0)
          (try rw [show 0 * 8 = 0 from rfl] at hx104_0)
          (try rw [Addr.add_zero'] at hx104_0)
          (try rw [show ((0 : Int)).toNat = 0 from rfl] at hx104_1)
          (try rw [show 0 * 8 = 0 from rfl] at hx104_1)
          (try rw [Addr.add_zero'] at hx104_1)
          (try rw [show ((0 : Int)).toNat = 0 from rfl] at hx104_2)
          (try rw [show 0 * 8 = 0 from rfl] at hx104_2)
          (try rw [Addr.add_zero'] at hx104_2)
          (try rw [show ((0 : Int)).toNat = 0 from rfl] at hx104_3)
          (try rw [show 0 * 8 = 0 from rfl] at hx104_3)
          (try rw [Addr.add_zero'] at hx104_3)
          (try rw [show ((0 : Int)).toNat = 0 from rfl] at hx104_4)
          (try rw [show 0 * 8 = 0 from rfl] at hx104_4)
          (try rw [Addr.add_zero'] at hx104_4)
          (try rw [show ((0 : Int)).toNat = 0 from rfl] at hx104_5)
          (try rw [show 0 * 8 = 0 from rfl] at hx104_5)
          (try rw [Addr.add_zero'] at hx104_5)
          (try rw [show ((0 : Int)).toNat = 0 from rfl] at hx104_6)
          (try rw [show 0 * 8 = 0 from rfl] at hx104_6)
          (try rw [Addr.add_zero'] at hx104_6)
          (try rw [show ((0 : Int)).toNat = 0 from rfl] at hx104_7)
          (try rw [show 0 * 8 = 0 from rfl] at hx104_7)
          (try rw [Addr.add_zero'] at hx104_7)
          have HR104_3 := Aside0.mk hi104_3
          have HC104_3 := Aside0.mk hl104_3
          clear hi104_3 hl104_3
          have HR104_7 := Aside0.mk hi104_7
          have HC104_7 := Aside0.mk hl104_7
          clear hi104_7 hl104_7
          replace p104 := eq_true p104
          replace q104 := eq_true q104
          go_wp2_with (first | ((with_reducible refine gate_callee (f := 141) rfl ?_); refine goesL_ (some 7) rfl rfl Try.func141 (by kernel_rfl) rfl #[.int .i64 ((rd_T40 l0 0).f0), .int .i64 1, .int .i64 7] rfl (by (try simp only [List.map_toArray, List.map_cons, List.map_nil]); first | done | rfl | (simp only [List.length_drop, List.length_take]; rfl)) ?_; (with_reducible refine (spec_l1In.calls ((rd_T40 l0 0).f0) 1 7 true _ A4.out).mono ?_); rintro e w' ⟨rfl, ⟨nd, rfl⟩⟩; refine ⟨_, rfl, ?_⟩; have p106 : 0 ≤ (0 : Int) := (by omega); have q106 : 0 < (l0.length : Int) := of_decide_eq_true (by first | (with_reducible assumption) | assumption); obtain ⟨ad106, A106_3, c106_3, A106_7, c106_7, e106, hx106_0, hx106_1, hx106_2, hx106_3, hx106_4, hx106_5, hx106_6, hx106_7, hl106_3, hi106_3, hl106_7, hi106_7⟩ := at_T40 HR0.out 0 p106 q106; obtain rfl : ad104 = ad106 := (by injection e106); have qi106 : (0 < l0.length) = True := eq_true (by omega); (try rw [show ((0 : Int)).toNat = 0 from rfl] at hx106_0); (try rw [show 0 * 8 = 0 from rfl] at hx106_0); (try rw [Addr.add_zero'] at hx106_0); (try rw [show ((0 : Int)).toNat = 0 from rfl] at hx106_1); (try rw [show 0 * 8 = 0 from rfl] at hx106_1); (try rw [Addr.add_zero'] at hx106_1); (try rw [show ((0 : Int)).toNat = 0 from rfl] at hx106_2); (try rw [show 0 * 8 = 0 from rfl] at hx106_2); (try rw [Addr.add_zero'] at hx106_2); (try rw [show ((0 : Int)).toNat = 0 from rfl] at hx106_3); (try rw [show 0 * 8 = 0 from rfl] at hx106_3); (try rw [Addr.add_zero'] at hx106_3); (try rw [show ((0 : Int)).toNat = 0 from rfl] at hx106_4); (try rw [show 0 * 8 = 0 from rfl] at hx106_4); (try rw [Addr.add_zero'] at hx106_4); (try rw [show ((0 : Int)).toNat = 0 from rfl] at hx106_5); (try rw [show 0 * 8 = 0 from rfl] at hx106_5); (try rw [Addr.add_zero'] at hx106_5); (try rw [show ((0 : Int)).toNat = 0 from rfl] at hx106_6); (try rw [show 0 * 8 = 0 from rfl] at hx106_6); (try rw [Addr.add_zero'] at hx106_6); (try rw [show ((0 : Int)).toNat = 0 from rfl] at hx106_7); (try rw [show 0 * 8 = 0 from rfl] at hx106_7); (try rw [Addr.add_zero'] at hx106_7); have HR106_3 := Aside0.mk hi106_3; have HC106_3 := Aside0.mk hl106_3; clear hi106_3 hl106_3; have HR106_7 := Aside0.mk hi106_7; have HC106_7 := Aside0.mk hl106_7; clear hi106_7 hl106_7; replace p106 := eq_true p106; replace q106 := eq_true q106; have ea_ := Option.some.inj (hx104_3.symm.trans hx106_3); injection ea_ with ea_ en_ ec_; subst ea_; subst ec_; clear en_; have ea_ := Option.some.inj (hx104_7.symm.trans hx106_7); injection ea_ with ea_ en_ ec_; subst ea_; subst ec_; clear en_; (try clear hx106_0); (try clear hx106_1); (try clear hx106_2); (try clear hx106_3); (try clear hx106_4); (try clear hx106_5); (try clear hx106_6); (try clear hx106_7); (try clear qi106)) | (go_at_call 139; (with_reducible refine (spec_l8Copies.calls ((rd_T40 l0 0).f0) true _ A6.out).mono ?_); rintro e w' ⟨rfl, ⟨nd, rfl⟩⟩))
          go_meet
          case rel => exact ⟨_, (false), (by first | rfl | (simp; done) | (simp [*]; done) | (simp; generalize ByteArray.toList _ = zq_; cases zq_ <;> rfl)), H', ⟨by first | omega | exact Nat.le_refl _⟩, by repeat (first | exact Drawn0.refl _ | apply Drawn0.step)⟩
        · replace c7 := Bool.eq_false_iff.mpr c7
          subst c7
          have H1 : (spec_l8Form.j0 k l0 (((rd_T40 l0 0).f2).toList != ([] : List UInt8))) = some r := by rw [if_neg (show ¬ (false = true) by decide)] at H; exact H
          clear H
          have H := H1
          clear H1
          have H' := Aside0.mk H
          clear H
          have p104 : 0 ≤ (0 : Int) := (by omega)
          have q104 : 0 < (l0.length : Int) := of_decide_eq_true (by first | (with_reducible assumption) | assumption)
          obtain ⟨ad104, A104_3, c104_3, A104_7, c104_7, e104, hx104_0, hx104_1, hx104_2, hx104_3, hx104_4, hx104_5, hx104_6, hx104_7, hl104_3, hi104_3, hl104_7, hi104_7⟩ := at_T40 HR0.out 0 p104 q104
          cases e104
          have qi104 : (0 < l0.length) = True := eq_true (by omega)
          (try rw [show ((0 : Int)).toNat = 0 from rfl] at hx104_0)
          (try rw [show 0 * 8 = 0 from rfl] at hx104_0)
          (try rw [Addr.add_zero'] at hx104_0)
          (try rw [show ((0 : Int)).toNat = 0 from rfl] at hx104_1)
          (try rw [show 0 * 8 = 0 from rfl] at hx104_1)
          (try rw [Addr.add_zero'] at hx104_1)
          (try rw [show ((0 : Int)).toNat = 0 from rfl] at hx104_2)
          (try rw [show 0 * 8 = 0 from rfl] at hx104_2)
          (try rw [Addr.add_zero'] at hx104_2)
          (try rw [show ((0 : Int)).toNat = 0 from rfl] at hx104_3)
          (try rw [show 0 * 8 = 0 from rfl] at hx104_3)
          (try rw [Addr.add_zero'] at hx104_3)
          (try rw [show ((0 : Int)).toNat = 0 from rfl] at hx104_4)
          (try rw [show 0 * 8 = 0 from rfl] at hx104_4)
          (try rw [Addr.add_zero'] at hx104_4)
          (try rw [show ((0 : Int)).toNat = 0 from rfl] at hx104_5)
          (try rw [show 0 * 8 = 0 from rfl] at hx104_5)
          (try rw [Addr.add_zero'] at hx104_5)
          (try rw [show ((0 : Int)).toNat = 0 from rfl] at hx104_6)
          (try rw [show 0 * 8 = 0 from rfl] at hx104_6)
          (try rw [Addr.add_zero'] at hx104_6)
          (try rw [show ((0 : Int)).toNat = 0 from rfl] at hx104_7)
          (try rw [show 0 * 8 = 0 from rfl] at hx104_7)
          (try rw [Addr.add_zero'] at hx104_7)
          have HR104_3 := Aside0.mk hi104_3
          have HC104_3 := Aside0.mk hl104_3
          clear hi104_3 hl104_3
          have HR104_7 := Aside0.mk hi104_7
          have HC104_7 := Aside0.mk hl104_7
          clear hi104_7 hl104_7
          replace p104 := eq_true p104
          replace q104 := eq_true q104
          go_wp2_with (first | ((with_reducible refine gate_callee (f := 141) rfl ?_); refine goesL_ (some 7) rfl rfl Try.func141 (by kernel_rfl) rfl #[.int .i64 ((rd_T40 l0 0).f0), .int .i64 1, .int .i64 7] rfl (by (try simp only [List.map_toArray, List.map_cons, List.map_nil]); first | done | rfl | (simp only [List.length_drop, List.length_take]; rfl)) ?_; (with_reducible refine (spec_l1In.calls ((rd_T40 l0 0).f0) 1 7 true _ A4.out).mono ?_); rintro e w' ⟨rfl, ⟨nd, rfl⟩⟩; refine ⟨_, rfl, ?_⟩; have p106 : 0 ≤ (0 : Int) := (by omega); have q106 : 0 < (l0.length : Int) := of_decide_eq_true (by first | (with_reducible assumption) | assumption); obtain ⟨ad106, A106_3, c106_3, A106_7, c106_7, e106, hx106_0, hx106_1, hx106_2, hx106_3, hx106_4, hx106_5, hx106_6, hx106_7, hl106_3, hi106_3, hl106_7, hi106_7⟩ := at_T40 HR0.out 0 p106 q106; obtain rfl : ad104 = ad106 := (by injection e106); have qi106 : (0 < l0.length) = True := eq_true (by omega); (try rw [show ((0 : Int)).toNat = 0 from rfl] at hx106_0); (try rw [show 0 * 8 = 0 from rfl] at hx106_0); (try rw [Addr.add_zero'] at hx106_0); (try rw [show ((0 : Int)).toNat = 0 from rfl] at hx106_1); (try rw [show 0 * 8 = 0 from rfl] at hx106_1); (try rw [Addr.add_zero'] at hx106_1); (try rw [show ((0 : Int)).toNat = 0 from rfl] at hx106_2); (try rw [show 0 * 8 = 0 from rfl] at hx106_2); (try rw [Addr.add_zero'] at hx106_2); (try rw [show ((0 : Int)).toNat = 0 from rfl] at hx106_3); (try rw [show 0 * 8 = 0 from rfl] at hx106_3); (try rw [Addr.add_zero'] at hx106_3); (try rw [show ((0 : Int)).toNat = 0 from rfl] at hx106_4); (try rw [show 0 * 8 = 0 from rfl] at hx106_4); (try rw [Addr.add_zero'] at hx106_4); (try rw [show ((0 : Int)).toNat = 0 from rfl] at hx106_5); (try rw [show 0 * 8 = 0 from rfl] at hx106_5); (try rw [Addr.add_zero'] at hx106_5); (try rw [show ((0 : Int)).toNat = 0 from rfl] at hx106_6); (try rw [show 0 * 8 = 0 from rfl] at hx106_6); (try rw [Addr.add_zero'] at hx106_6); (try rw [show ((0 : Int)).toNat = 0 from rfl] at hx106_7); (try rw [show 0 * 8 = 0 from rfl] at hx106_7); (try rw [Addr.add_zero'] at hx106_7); have HR106_3 := Aside0.mk hi106_3; have HC106_3 := Aside0.mk hl106_3; clear hi106_3 hl106_3; have HR106_7 := Aside0.mk hi106_7; have HC106_7 := Aside0.mk hl106_7; clear hi106_7 hl106_7; replace p106 := eq_true p106; replace q106 := eq_true q106; have ea_ := Option.some.inj (hx104_3.symm.trans hx106_3); injection ea_ with ea_ en_ ec_; subst ea_; subst ec_; clear en_; have ea_ := Option.some.inj (hx104_7.symm.trans hx106_7); injection ea_ with ea_ en_ ec_; subst ea_; subst ec_; clear en_; (try clear hx106_0); (try clear hx106_1); (try clear hx106_2); (try clear hx106_3); (try clear hx106_4); (try clear hx106_5); (try clear hx106_6); (try clear hx106_7); (try clear qi106)) | (go_at_call 139; (with_reducible refine (spec_l8Copies.calls ((rd_T40 l0 0).f0) false _ A6.out).mono ?_); rintro e w' ⟨rfl, ⟨nd, rfl⟩⟩; have p108 : 0 ≤ (0 : Int) := (by omega); have q108 : 0 < (l0.length : Int) := of_decide_eq_true (by first | (with_reducible assumption) | assumption); obtain ⟨ad108, A108_3, c108_3, A108_7, c108_7, e108, hx108_0, hx108_1, hx108_2, hx108_3, hx108_4, hx108_5, hx108_6, hx108_7, hl108_3, hi108_3, hl108_7, hi108_7⟩ := at_T40 HR0.out 0 p108 q108; obtain rfl : ad104 = ad108 := (by injection e108); have qi108 : (0 < l0.length) = True := eq_true (by omega); (try rw [show ((0 : Int)).toNat = 0 from rfl] at hx108_0); (try rw [show 0 * 8 = 0 from rfl] at hx108_0); (try rw [Addr.add_zero'] at hx108_0); (try rw [show ((0 : Int)).toNat = 0 from rfl] at hx108_1); (try rw [show 0 * 8 = 0 from rfl] at hx108_1); (try rw [Addr.add_zero'] at hx108_1); (try rw [show ((0 : Int)).toNat = 0 from rfl] at hx108_2); (try rw [show 0 * 8 = 0 from rfl] at hx108_2); (try rw [Addr.add_zero'] at hx108_2); (try rw [show ((0 : Int)).toNat = 0 from rfl] at hx108_3); (try rw [show 0 * 8 = 0 from rfl] at hx108_3); (try rw [Addr.add_zero'] at hx108_3); (try rw [show ((0 : Int)).toNat = 0 from rfl] at hx108_4); (try rw [show 0 * 8 = 0 from rfl] at hx108_4); (try rw [Addr.add_zero'] at hx108_4); (try rw [show ((0 : Int)).toNat = 0 from rfl] at hx108_5); (try rw [show 0 * 8 = 0 from rfl] at hx108_5); (try rw [Addr.add_zero'] at hx108_5); (try rw [show ((0 : Int)).toNat = 0 from rfl] at hx108_6); (try rw [show 0 * 8 = 0 from rfl] at hx108_6); (try rw [Addr.add_zero'] at hx108_6); (try rw [show ((0 : Int)).toNat = 0 from rfl] at hx108_7); (try rw [show 0 * 8 = 0 from rfl] at hx108_7); (try rw [Addr.add_zero'] at hx108_7); have HR108_3 := Aside0.mk hi108_3; have HC108_3 := Aside0.mk hl108_3; clear hi108_3 hl108_3; have HR108_7 := Aside0.mk hi108_7; have HC108_7 := Aside0.mk hl108_7; clear hi108_7 hl108_7; replace p108 := eq_true p108; replace q108 := eq_true q108; have ea_ := Option.some.inj (hx104_3.symm.trans hx108_3); injection ea_ with ea_ en_ ec_; subst ea_; subst ec_; clear en_; have ea_ := Option.some.inj (hx104_7.symm.trans hx108_7); injection ea_ with ea_ en_ ec_; subst ea_; subst ec_; clear en_; (try clear hx108_0); (try clear hx108_1); (try clear hx108_2); (try clear hx108_3); (try clear hx108_4); (try clear hx108_5); (try clear hx108_6); (try clear hx108_7); (try clear qi108)))
          go_meet
          case rel => exact ⟨_, ((((rd_T40 l0 0).f2).toList != ([] : List UInt8))), (by first | rfl | (simp; done) | (simp [*]; done) | (simp; generalize ByteArray.toList _ = zq_; cases zq_ <;> rfl)), H', ⟨by first | omega | exact Nat.le_refl _⟩, by repeat (first | exact Drawn0.refl _ | apply Drawn0.step)⟩
      · replace c5 := Bool.eq_false_iff.mpr c5
        subst c5
        have H1 : (spec_l8Form.j0 k l0 true) = some r := by rw [if_neg (show ¬ (false = true) by decide)] at H; exact H
        clear H
        have H := H1
        clear H1
        have H' := Aside0.mk H
        clear H
        have p104 : 0 ≤ (0 : Int) := (by omega)
        have q104 : 0 < (l0.length : Int) := of_decide_eq_true (by first | (with_reducible assumption) | assumption)
        obtain ⟨ad104, A104_3, c104_3, A104_7, c104_7, e104, hx104_0, hx104_1, hx104_2, hx104_3, hx104_4, hx104_5, hx104_6, hx104_7, hl104_3, hi104_3, hl104_7, hi104_7⟩ := at_T40 HR0.out 0 p104 q104
        cases e104
        have qi104 : (0 < l0.length) = True := eq_true (by omega)
        (try rw [show ((0 : Int)).toNat = 0 from rfl] at hx104_0)
        (try rw [show 0 * 8 = 0 from rfl] at hx104_0)
        (try rw [Addr.add_zero'] at hx104_0)
        (try rw [show ((0 : Int)).toNat = 0 from rfl] at hx104_1)
        (try rw [show 0 * 8 = 0 from rfl] at hx104_1)
        (try rw [Addr.add_zero'] at hx104_1)
        (try rw [show ((0 : Int)).toNat = 0 from rfl] at hx104_2)
        (try rw [show 0 * 8 = 0 from rfl] at hx104_2)
        (try rw [Addr.add_zero'] at hx104_2)
        (try rw [show ((0 : Int)).toNat = 0 from rfl] at hx104_3)
        (try rw [show 0 * 8 = 0 from rfl] at hx104_3)
        (try rw [Addr.add_zero'] at hx104_3)
        (try rw [show ((0 : Int)).toNat = 0 from rfl] at hx104_4)
        (try rw [show 0 * 8 = 0 from rfl] at hx104_4)
        (try rw [Addr.add_zero'] at hx104_4)
        (try rw [show ((0 : Int)).toNat = 0 from rfl] at hx104_5)
        (try rw [show 0 * 8 = 0 from rfl] at hx104_5)
        (try rw [Addr.add_zero'] at hx104_5)
        (try rw [show ((0 : Int)).toNat = 0 from rfl] at hx104_6)
        (try rw [show 0 * 8 = 0 from rfl] at hx104_6)
        (try rw [Addr.add_zero'] at hx104_6)
        (try rw [show ((0 : Int)).toNat = 0 from rfl] at hx104_7)
        (try rw [show 0 * 8 = 0 from rfl] at hx104_7)
        (try rw [Addr.add_zero'] at hx104_7)
        have HR104_3 := Aside0.mk hi104_3
        have HC104_3 := Aside0.mk hl104_3
        clear hi104_3 hl104_3
        have HR104_7 := Aside0.mk hi104_7
        have HC104_7 := Aside0.mk hl104_7
        clear hi104_7 hl104_7
        replace p104 := eq_true p104
        replace q104 := eq_true q104
        go_wp2_with (first | ((with_reducible refine gate_callee (f := 141) rfl ?_); refine goesL_ (some 7) rfl rfl Try.func141 (by kernel_rfl) rfl #[.int .i64 ((rd_T40 l0 0).f0), .int .i64 1, .int .i64 7] rfl (by (try simp only [List.map_toArray, List.map_cons, List.map_nil]); first | done | rfl | (simp only [List.length_drop, List.length_take]; rfl)) ?_; (with_reducible refine (spec_l1In.calls ((rd_T40 l0 0).f0) 1 7 false _ A4.out).mono ?_); rintro e w' ⟨rfl, ⟨nd, rfl⟩⟩; refine ⟨_, rfl, ?_⟩))
        go_meet
        case rel => exact ⟨_, (true), (by first | rfl | (simp; done) | (simp [*]; done) | (simp; generalize ByteArray.toList _ = zq_; cases zq_ <;> rfl)), H', ⟨by first | omega | exact Nat.le_refl _⟩, by repeat (first | exact Drawn0.refl _ | apply Drawn0.step)⟩
    · rw [if_neg c3] at H
      exact absurd H (by simp)
  case rest =>
    clear HC2
    try clear c1
    try clear p1
    try clear q1
    try clear hx1
    try clear qi1
    try clear p2
    try clear c3
    try clear c3b0
    try clear c3b1
    try clear c5
    try clear c7
    try clear hx104_0
    try clear hx104_1
    try clear hx104_2
    try clear hx104_3
    try clear hx104_4
    try clear hx104_5
    try clear hx104_6
    try clear hx104_7
    try clear hx106_0
    try clear hx106_1
    try clear hx106_2
    try clear hx106_3
    try clear hx106_4
    try clear hx106_5
    try clear hx106_6
    try clear hx106_7
    try clear hx108_0
    try clear hx108_1
    try clear hx108_2
    try clear hx108_3
    try clear hx108_4
    try clear hx108_5
    try clear hx108_6
    try clear hx108_7
    try clear p104
    try clear p106
    try clear p108
    try clear q104
    try clear q106
    try clear q108
    obtain ⟨kq, x23_1, rfl, HA, HJ1, ⟨mc1, rfl⟩⟩ := hcut
    cases kq with
    | zero => exact absurd HA.out (by simp [spec_l8Form.j0])
    | succ kj1 =>
      have H := HA.out
      clear HA
      simp only [spec_l8Form.j0] at H
      by_cases c8 : x23_1 = true
      · subst c8
        have H1 : (some false) = some r := by rw [if_pos rfl] at H; exact H
        clear H
        have H := H1
        clear H1
        obtain rfl := Option.some.inj H
        go_wp2
        go_ret
        exact ⟨by first | rfl | (simp; done) | (simp [*]; done) | (simp; generalize ByteArray.toList _ = zq_; cases zq_ <;> rfl), by repeat (first | exact Drawn0.refl _ | apply Drawn0.step)⟩
      · replace c8 := Bool.eq_false_iff.mpr c8
        subst c8
        have H1 : (if 0 < (l0.length : Int) then ((spec_l8Copies.f ((rd_T40 l0 0).f0)).bind fun t110 => (if t110 = true then (if ((rd_T40 l0 0).f0) = 4 then (spec_l8Form.j1 kj1 l0 false) else (spec_l8Form.j1 kj1 l0 (((rd_T40 l0 0).f4) != 0))) else (if ((rd_T40 l0 0).f0) = 4 then (spec_l8Form.j1 kj1 l0 false) else (if (((rd_T40 l0 0).f3).length : Int) > 0 then (spec_l8Form.j1 kj1 l0 true) else (spec_l8Form.j1 kj1 l0 (((rd_T40 l0 0).f4) != 0)))))) else (none)) = some r := by rw [if_neg (show ¬ (false = true) by decide)] at H; exact H
        clear H
        have H := H1
        clear H1
        have HC9 := Aside0.mk H
        clear H
        go_upto_region 3 with (fail)
        go_cut [58] (fun v58 wc => ∃ (kq : Nat) (x58_8 : Bool), v58 = .bool x58_8 ∧ Aside0 (spec_l8Form.j1 kq l0 x58_8 = some r) ∧ Aside0 (kq ≤ kj1) ∧ Drawn0 w wc)
        case first =>
          have H := HC9.out
          clear HC9
          by_cases c10 : 0 < (l0.length : Int)
          · rw [if_pos c10] at H
            have c10b0 : decide (0 < (l0.length : Int)) = true := decide_eq_true c10
            have c10b1 : decide (0 < l0.length) = true := decide_eq_true (by omega)
            clear c10
            (first | rw [c10b0] | (simp only [i64_w, i32_w]; rw [c10b0]) | skip)
            replace H := Option.bind_eq_some_iff.mp H
            obtain ⟨t110, A110, H⟩ := H
            replace H : (if t110 = true then (if ((rd_T40 l0 0).f0) = 4 then (spec_l8Form.j1 kj1 l0 false) else (spec_l8Form.j1 kj1 l0 (((rd_T40 l0 0).f4) != 0))) else (if ((rd_T40 l0 0).f0) = 4 then (spec_l8Form.j1 kj1 l0 false) else (if (((rd_T40 l0 0).f3).length : Int) > 0 then (spec_l8Form.j1 kj1 l0 true) else (spec_l8Form.j1 kj1 l0 (((rd_T40 l0 0).f4) != 0))))) = some r := H
            have A11 := Aside0.mk A110
            clear A110
            by_cases c12 : t110 = true
            · subst c12
              have H1 : (if ((rd_T40 l0 0).f0) = 4 then (spec_l8Form.j1 kj1 l0 false) else (spec_l8Form.j1 kj1 l0 (((rd_T40 l0 0).f4) != 0))) = some r := by rw [if_pos rfl] at H; exact H
              clear H
              have H := H1
              clear H1
              by_cases c13 : ((rd_T40 l0 0).f0) = 4
              · rw [if_pos c13] at H
                have c13b0 : (((rd_T40 l0 0).f0) == 4) = true := beq_iff_eq.mpr c13
                have c13b1 : (((rd_T40 l0 0).f0) != 4) = false := bne_eq_false_iff_eq.mpr c13
                clear c13
                have H' := Aside0.mk H
                clear H
                have p109 : 0 ≤ (0 : Int) := (by omega)
                have q109 : 0 < (l0.length : Int) := of_decide_eq_true (by first | (with_reducible assumption) | assumption)
                obtain ⟨ad109, A109_3, c109_3, A109_7, c109_7, e109, hx109_0, hx109_1, hx109_2, hx109_3, hx109_4, hx109_5, hx109_6, hx109_7, hl109_3, hi109_3, hl109_7, hi109_7⟩ := at_T40 HR0.out 0 p109 q109
                cases e109
                have qi109 : (0 < l0.length) = True := eq_true (by omega)
                (try rw [show ((0 : Int)).toNat = 0 from rfl] at hx109_0)
                (try rw [show 0 * 8 = 0 from rfl] at hx109_0)
                (try rw [Addr.add_zero'] at hx109_0)
                (try rw [show ((0 : Int)).toNat = 0 from rfl] at hx109_1)
                (try rw [show 0 * 8 = 0 from rfl] at hx109_1)
                (try rw [Addr.add_zero'] at hx109_1)
                (try rw [show ((0 : Int)).toNat = 0 from rfl] at hx109_2)
                (try rw [show 0 * 8 = 0 from rfl] at hx109_2)
                (try rw [Addr.add_zero'] at hx109_2)
                (try rw [show ((0 : Int)).toNat = 0 from rfl] at hx109_3)
                (try rw [show 0 * 8 = 0 from rfl] at hx109_3)
                (try rw [Addr.add_zero'] at hx109_3)
                (try rw [show ((0 : Int)).toNat = 0 from rfl] at hx109_4)
                (try rw [show 0 * 8 = 0 from rfl] at hx109_4)
                (try rw [Addr.add_zero'] at hx109_4)
                (try rw [show ((0 : Int)).toNat = 0 from rfl] at hx109_5)
                (try rw [show 0 * 8 = 0 from rfl] at hx109_5)
                (try rw [Addr.add_zero'] at hx109_5)
                (try rw [show ((0 : Int)).toNat = 0 from rfl] at hx109_6)
                (try rw [show 0 * 8 = 0 from rfl] at hx109_6)
                (try rw [Addr.add_zero'] at hx109_6)
                (try rw [show ((0 : Int)).toNat = 0 from rfl] at hx109_7)
                (try rw [show 0 * 8 = 0 from rfl] at hx109_7)
                (try rw [Addr.add_zero'] at hx109_7)
                have HR109_3 := Aside0.mk hi109_3
                have HC109_3 := Aside0.mk hl109_3
                clear hi109_3 hl109_3
                have HR109_7 := Aside0.mk hi109_7
                have HC109_7 := Aside0.mk hl109_7
                clear hi109_7 hl109_7
                replace p109 := eq_true p109
                replace q109 := eq_true q109
                (try clear hx104_0 hx104_1 hx104_2 hx104_3 hx104_4 hx104_5 hx104_6 hx104_7)
                (try clear hx104_0 hx104_1 hx104_2 hx104_3 hx104_4 hx104_5 hx104_6 hx104_7)
                (try clear hx104_0 hx104_1 hx104_2 hx104_3 hx104_4 hx104_5 hx104_6 hx104_7)
                go_wp2_with (first | ((with_reducible refine gate_callee (f := 139) rfl ?_); refine goesL_ (some 28) rfl rfl Try.func139 (by kernel_rfl) rfl #[.int .i64 ((rd_T40 l0 0).f0)] rfl (by (try simp only [List.map_toArray, List.map_cons, List.map_nil]); first | done | rfl | (simp only [List.length_drop, List.length_take]; rfl)) ?_; (with_reducible refine (spec_l8Copies.calls ((rd_T40 l0 0).f0) true _ A11.out).mono ?_); rintro e w' ⟨rfl, ⟨nd, rfl⟩⟩; refine ⟨_, rfl, ?_⟩; have p111 : 0 ≤ (0 : Int) := (by omega); have q111 : 0 < (l0.length : Int) := of_decide_eq_true (by first | (with_reducible assumption) | assumption); obtain ⟨ad111, A111_3, c111_3, A111_7, c111_7, e111, hx111_0, hx111_1, hx111_2, hx111_3, hx111_4, hx111_5, hx111_6, hx111_7, hl111_3, hi111_3, hl111_7, hi111_7⟩ := at_T40 HR0.out 0 p111 q111; obtain rfl : ad109 = ad111 := (by injection e111); have qi111 : (0 < l0.length) = True := eq_true (by omega); (try rw [show ((0 : Int)).toNat = 0 from rfl] at hx111_0); (try rw [show 0 * 8 = 0 from rfl] at hx111_0); (try rw [Addr.add_zero'] at hx111_0); (try rw [show ((0 : Int)).toNat = 0 from rfl] at hx111_1); (try rw [show 0 * 8 = 0 from rfl] at hx111_1); (try rw [Addr.add_zero'] at hx111_1); (try rw [show ((0 : Int)).toNat = 0 from rfl] at hx111_2); (try rw [show 0 * 8 = 0 from rfl] at hx111_2); (try rw [Addr.add_zero'] at hx111_2); (try rw [show ((0 : Int)).toNat = 0 from rfl] at hx111_3); (try rw [show 0 * 8 = 0 from rfl] at hx111_3); (try rw [Addr.add_zero'] at hx111_3); (try rw [show ((0 : Int)).toNat = 0 from rfl] at hx111_4); (try rw [show 0 * 8 = 0 from rfl] at hx111_4); (try rw [Addr.add_zero'] at hx111_4); (try rw [show ((0 : Int)).toNat = 0 from rfl] at hx111_5); (try rw [show 0 * 8 = 0 from rfl] at hx111_5); (try rw [Addr.add_zero'] at hx111_5); (try rw [show ((0 : Int)).toNat = 0 from rfl] at hx111_6); (try rw [show 0 * 8 = 0 from rfl] at hx111_6); (try rw [Addr.add_zero'] at hx111_6); (try rw [show ((0 : Int)).toNat = 0 from rfl] at hx111_7); (try rw [show 0 * 8 = 0 from rfl] at hx111_7); (try rw [Addr.add_zero'] at hx111_7); have HR111_3 := Aside0.mk hi111_3; have HC111_3 := Aside0.mk hl111_3; clear hi111_3 hl111_3; have HR111_7 := Aside0.mk hi111_7; have HC111_7 := Aside0.mk hl111_7; clear hi111_7 hl111_7; replace p111 := eq_true p111; replace q111 := eq_true q111; have ea_ := Option.some.inj (hx109_3.symm.trans hx111_3); injection ea_ with ea_ en_ ec_; subst ea_; subst ec_; clear en_; have ea_ := Option.some.inj (hx109_7.symm.trans hx111_7); injection ea_ with ea_ en_ ec_; subst ea_; subst ec_; clear en_; (try clear hx111_0); (try clear hx111_1); (try clear hx111_2); (try clear hx111_3); (try clear hx111_4); (try clear hx111_5); (try clear hx111_6); (try clear hx111_7); (try clear qi111)))
                go_meet
                case rel => exact ⟨_, (false), (by first | rfl | (simp; done) | (simp [*]; done) | (simp; generalize ByteArray.toList _ = zq_; cases zq_ <;> rfl)), H', ⟨by have := HJ1.out; first | omega | exact Nat.le_refl _⟩, by repeat (first | exact Drawn0.refl _ | apply Drawn0.step)⟩
              · rw [if_neg c13] at H
                have c13b0 : (((rd_T40 l0 0).f0) == 4) = false := beq_eq_false_iff_ne.mpr c13
                have c13b1 : (((rd_T40 l0 0).f0) != 4) = true := bne_iff_ne.mpr c13
                have H' := Aside0.mk H
                clear H
                have p109 : 0 ≤ (0 : Int) := (by omega)
                have q109 : 0 < (l0.length : Int) := of_decide_eq_true (by first | (with_reducible assumption) | assumption)
                obtain ⟨ad109, A109_3, c109_3, A109_7, c109_7, e109, hx109_0, hx109_1, hx109_2, hx109_3, hx109_4, hx109_5, hx109_6, hx109_7, hl109_3, hi109_3, hl109_7, hi109_7⟩ := at_T40 HR0.out 0 p109 q109
                cases e109
                have qi109 : (0 < l0.length) = True := eq_true (by omega)
                (try rw [show ((0 : Int)).toNat = 0 from rfl] at hx109_0)
                (try rw [show 0 * 8 = 0 from rfl] at hx109_0)
                (try rw [Addr.add_zero'] at hx109_0)
                (try rw [show ((0 : Int)).toNat = 0 from rfl] at hx109_1)
                (try rw [show 0 * 8 = 0 from rfl] at hx109_1)
                (try rw [Addr.add_zero'] at hx109_1)
                (try rw [show ((0 : Int)).toNat = 0 from rfl] at hx109_2)
                (try rw [show 0 * 8 = 0 from rfl] at hx109_2)
                (try rw [Addr.add_zero'] at hx109_2)
                (try rw [show ((0 : Int)).toNat = 0 from rfl] at hx109_3)
                (try rw [show 0 * 8 = 0 from rfl] at hx109_3)
                (try rw [Addr.add_zero'] at hx109_3)
                (try rw [show ((0 : Int)).toNat = 0 from rfl] at hx109_4)
                (try rw [show 0 * 8 = 0 from rfl] at hx109_4)
                (try rw [Addr.add_zero'] at hx109_4)
                (try rw [show ((0 : Int)).toNat = 0 from rfl] at hx109_5)
                (try rw [show 0 * 8 = 0 from rfl] at hx109_5)
                (try rw [Addr.add_zero'] at hx109_5)
                (try rw [show ((0 : Int)).toNat = 0 from rfl] at hx109_6)
                (try rw [show 0 * 8 = 0 from rfl] at hx109_6)
                (try rw [Addr.add_zero'] at hx109_6)
                (try rw [show ((0 : Int)).toNat = 0 from rfl] at hx109_7)
                (try rw [show 0 * 8 = 0 from rfl] at hx109_7)
                (try rw [Addr.add_zero'] at hx109_7)
                have HR109_3 := Aside0.mk hi109_3
                have HC109_3 := Aside0.mk hl109_3
                clear hi109_3 hl109_3
                have HR109_7 := Aside0.mk hi109_7
                have HC109_7 := Aside0.mk hl109_7
                clear hi109_7 hl109_7
                replace p109 := eq_true p109
                replace q109 := eq_true q109
                (try clear hx104_0 hx104_1 hx104_2 hx104_3 hx104_4 hx104_5 hx104_6 hx104_7)
                (try clear hx104_0 hx104_1 hx104_2 hx104_3 hx104_4 hx104_5 hx104_6 hx104_7)
                (try clear hx104_0 hx104_1 hx104_2 hx104_3 hx104_4 hx104_5 hx104_6 hx104_7)
                go_wp2_with (first | ((with_reducible refine gate_callee (f := 139) rfl ?_); refine goesL_ (some 28) rfl rfl Try.func139 (by kernel_rfl) rfl #[.int .i64 ((rd_T40 l0 0).f0)] rfl (by (try simp only [List.map_toArray, List.map_cons, List.map_nil]); first | done | rfl | (simp only [List.length_drop, List.length_take]; rfl)) ?_; (with_reducible refine (spec_l8Copies.calls ((rd_T40 l0 0).f0) true _ A11.out).mono ?_); rintro e w' ⟨rfl, ⟨nd, rfl⟩⟩; refine ⟨_, rfl, ?_⟩; have p111 : 0 ≤ (0 : Int) := (by omega); have q111 : 0 < (l0.length : Int) := of_decide_eq_true (by first | (with_reducible assumption) | assumption); obtain ⟨ad111, A111_3, c111_3, A111_7, c111_7, e111, hx111_0, hx111_1, hx111_2, hx111_3, hx111_4, hx111_5, hx111_6, hx111_7, hl111_3, hi111_3, hl111_7, hi111_7⟩ := at_T40 HR0.out 0 p111 q111; obtain rfl : ad109 = ad111 := (by injection e111); have qi111 : (0 < l0.length) = True := eq_true (by omega); (try rw [show ((0 : Int)).toNat = 0 from rfl] at hx111_0); (try rw [show 0 * 8 = 0 from rfl] at hx111_0); (try rw [Addr.add_zero'] at hx111_0); (try rw [show ((0 : Int)).toNat = 0 from rfl] at hx111_1); (try rw [show 0 * 8 = 0 from rfl] at hx111_1); (try rw [Addr.add_zero'] at hx111_1); (try rw [show ((0 : Int)).toNat = 0 from rfl] at hx111_2); (try rw [show 0 * 8 = 0 from rfl] at hx111_2); (try rw [Addr.add_zero'] at hx111_2); (try rw [show ((0 : Int)).toNat = 0 from rfl] at hx111_3); (try rw [show 0 * 8 = 0 from rfl] at hx111_3); (try rw [Addr.add_zero'] at hx111_3); (try rw [show ((0 : Int)).toNat = 0 from rfl] at hx111_4); (try rw [show 0 * 8 = 0 from rfl] at hx111_4); (try rw [Addr.add_zero'] at hx111_4); (try rw [show ((0 : Int)).toNat = 0 from rfl] at hx111_5); (try rw [show 0 * 8 = 0 from rfl] at hx111_5); (try rw [Addr.add_zero'] at hx111_5); (try rw [show ((0 : Int)).toNat = 0 from rfl] at hx111_6); (try rw [show 0 * 8 = 0 from rfl] at hx111_6); (try rw [Addr.add_zero'] at hx111_6); (try rw [show ((0 : Int)).toNat = 0 from rfl] at hx111_7); (try rw [show 0 * 8 = 0 from rfl] at hx111_7); (try rw [Addr.add_zero'] at hx111_7); have HR111_3 := Aside0.mk hi111_3; have HC111_3 := Aside0.mk hl111_3; clear hi111_3 hl111_3; have HR111_7 := Aside0.mk hi111_7; have HC111_7 := Aside0.mk hl111_7; clear hi111_7 hl111_7; replace p111 := eq_true p111; replace q111 := eq_true q111; have ea_ := Option.some.inj (hx109_3.symm.trans hx111_3); injection ea_ with ea_ en_ ec_; subst ea_; subst ec_; clear en_; have ea_ := Option.some.inj (hx109_7.symm.trans hx111_7); injection ea_ with ea_ en_ ec_; subst ea_; subst ec_; clear en_; (try clear hx111_0); (try clear hx111_1); (try clear hx111_2); (try clear hx111_3); (try clear hx111_4); (try clear hx111_5); (try clear hx111_6); (try clear hx111_7); (try clear qi111); have p112 : 0 ≤ (0 : Int) := (by omega); have q112 : 0 < (l0.length : Int) := of_decide_eq_true (by first | (with_reducible assumption) | assumption); obtain ⟨ad112, A112_3, c112_3, A112_7, c112_7, e112, hx112_0, hx112_1, hx112_2, hx112_3, hx112_4, hx112_5, hx112_6, hx112_7, hl112_3, hi112_3, hl112_7, hi112_7⟩ := at_T40 HR0.out 0 p112 q112; obtain rfl : ad109 = ad112 := (by injection e112); have qi112 : (0 < l0.length) = True := eq_true (by omega); (try rw [show ((0 : Int)).toNat = 0 from rfl] at hx112_0); (try rw [show 0 * 8 = 0 from rfl] at hx112_0); (try rw [Addr.add_zero'] at hx112_0); (try rw [show ((0 : Int)).toNat = 0 from rfl] at hx112_1); (try rw [show 0 * 8 = 0 from rfl] at hx112_1); (try rw [Addr.add_zero'] at hx112_1); (try rw [show ((0 : Int)).toNat = 0 from rfl] at hx112_2); (try rw [show 0 * 8 = 0 from rfl] at hx112_2); (try rw [Addr.add_zero'] at hx112_2); (try rw [show ((0 : Int)).toNat = 0 from rfl] at hx112_3); (try rw [show 0 * 8 = 0 from rfl] at hx112_3); (try rw [Addr.add_zero'] at hx112_3); (try rw [show ((0 : Int)).toNat = 0 from rfl] at hx112_4); (try rw [show 0 * 8 = 0 from rfl] at hx112_4); (try rw [Addr.add_zero'] at hx112_4); (try rw [show ((0 : Int)).toNat = 0 from rfl] at hx112_5); (try rw [show 0 * 8 = 0 from rfl] at hx112_5); (try rw [Addr.add_zero'] at hx112_5); (try rw [show ((0 : Int)).toNat = 0 from rfl] at hx112_6); (try rw [show 0 * 8 = 0 from rfl] at hx112_6); (try rw [Addr.add_zero'] at hx112_6); (try rw [show ((0 : Int)).toNat = 0 from rfl] at hx112_7); (try rw [show 0 * 8 = 0 from rfl] at hx112_7); (try rw [Addr.add_zero'] at hx112_7); have HR112_3 := Aside0.mk hi112_3; have HC112_3 := Aside0.mk hl112_3; clear hi112_3 hl112_3; have HR112_7 := Aside0.mk hi112_7; have HC112_7 := Aside0.mk hl112_7; clear hi112_7 hl112_7; replace p112 := eq_true p112; replace q112 := eq_true q112; have ea_ := Option.some.inj (hx109_3.symm.trans hx112_3); injection ea_ with ea_ en_ ec_; subst ea_; subst ec_; clear en_; have ea_ := Option.some.inj (hx109_7.symm.trans hx112_7); injection ea_ with ea_ en_ ec_; subst ea_; subst ec_; clear en_; (try clear hx112_0); (try clear hx112_1); (try clear hx112_2); (try clear hx112_3); (try clear hx112_4); (try clear hx112_5); (try clear hx112_6); (try clear hx112_7); (try clear qi112)))
                go_meet
                case rel => exact ⟨_, ((((rd_T40 l0 0).f4) != 0)), (by first | rfl | (simp; done) | (simp [*]; done) | (simp; generalize ByteArray.toList _ = zq_; cases zq_ <;> rfl)), H', ⟨by have := HJ1.out; first | omega | exact Nat.le_refl _⟩, by repeat (first | exact Drawn0.refl _ | apply Drawn0.step)⟩
            · replace c12 := Bool.eq_false_iff.mpr c12
              subst c12
              have H1 : (if ((rd_T40 l0 0).f0) = 4 then (spec_l8Form.j1 kj1 l0 false) else (if (((rd_T40 l0 0).f3).length : Int) > 0 then (spec_l8Form.j1 kj1 l0 true) else (spec_l8Form.j1 kj1 l0 (((rd_T40 l0 0).f4) != 0)))) = some r := by rw [if_neg (show ¬ (false = true) by decide)] at H; exact H
              clear H
              have H := H1
              clear H1
              by_cases c14 : ((rd_T40 l0 0).f0) = 4
              · rw [if_pos c14] at H
                have c14b0 : (((rd_T40 l0 0).f0) == 4) = true := beq_iff_eq.mpr c14
                have c14b1 : (((rd_T40 l0 0).f0) != 4) = false := bne_eq_false_iff_eq.mpr c14
                clear c14
                have H' := Aside0.mk H
                clear H
                have p109 : 0 ≤ (0 : Int) := (by omega)
                have q109 : 0 < (l0.length : Int) := of_decide_eq_true (by first | (with_reducible assumption) | assumption)
                obtain ⟨ad109, A109_3, c109_3, A109_7, c109_7, e109, hx109_0, hx109_1, hx109_2, hx109_3, hx109_4, hx109_5, hx109_6, hx109_7, hl109_3, hi109_3, hl109_7, hi109_7⟩ := at_T40 HR0.out 0 p109 q109
                cases e109
                have qi109 : (0 < l0.length) = True := eq_true (by omega)
                (try rw [show ((0 : Int)).toNat = 0 from rfl] at hx109_0)
                (try rw [show 0 * 8 = 0 from rfl] at hx109_0)
                (try rw [Addr.add_zero'] at hx109_0)
                (try rw [show ((0 : Int)).toNat = 0 from rfl] at hx109_1)
                (try rw [show 0 * 8 = 0 from rfl] at hx109_1)
                (try rw [Addr.add_zero'] at hx109_1)
                (try rw [show ((0 : Int)).toNat = 0 from rfl] at hx109_2)
                (try rw [show 0 * 8 = 0 from rfl] at hx109_2)
                (try rw [Addr.add_zero'] at hx109_2)
                (try rw [show ((0 : Int)).toNat = 0 from rfl] at hx109_3)
                (try rw [show 0 * 8 = 0 from rfl] at hx109_3)
                (try rw [Addr.add_zero'] at hx109_3)
                (try rw [show ((0 : Int)).toNat = 0 from rfl] at hx109_4)
                (try rw [show 0 * 8 = 0 from rfl] at hx109_4)
                (try rw [Addr.add_zero'] at hx109_4)
                (try rw [show ((0 : Int)).toNat = 0 from rfl] at hx109_5)
                (try rw [show 0 * 8 = 0 from rfl] at hx109_5)
                (try rw [Addr.add_zero'] at hx109_5)
                (try rw [show ((0 : Int)).toNat = 0 from rfl] at hx109_6)
                (try rw [show 0 * 8 = 0 from rfl] at hx109_6)
                (try rw [Addr.add_zero'] at hx109_6)
                (try rw [show ((0 : Int)).toNat = 0 from rfl] at hx109_7)
                (try rw [show 0 * 8 = 0 from rfl] at hx109_7)
                (try rw [Addr.add_zero'] at hx109_7)
                have HR109_3 := Aside0.mk hi109_3
                have HC109_3 := Aside0.mk hl109_3
                clear hi109_3 hl109_3
                have HR109_7 := Aside0.mk hi109_7
                have HC109_7 := Aside0.mk hl109_7
                clear hi109_7 hl109_7
                replace p109 := eq_true p109
                replace q109 := eq_true q109
                (try clear hx104_0 hx104_1 hx104_2 hx104_3 hx104_4 hx104_5 hx104_6 hx104_7)
                (try clear hx104_0 hx104_1 hx104_2 hx104_3 hx104_4 hx104_5 hx104_6 hx104_7)
                (try clear hx104_0 hx104_1 hx104_2 hx104_3 hx104_4 hx104_5 hx104_6 hx104_7)
                go_wp2_with (first | ((with_reducible refine gate_callee (f := 139) rfl ?_); refine goesL_ (some 28) rfl rfl Try.func139 (by kernel_rfl) rfl #[.int .i64 ((rd_T40 l0 0).f0)] rfl (by (try simp only [List.map_toArray, List.map_cons, List.map_nil]); first | done | rfl | (simp only [List.length_drop, List.length_take]; rfl)) ?_; (with_reducible refine (spec_l8Copies.calls ((rd_T40 l0 0).f0) false _ A11.out).mono ?_); rintro e w' ⟨rfl, ⟨nd, rfl⟩⟩; refine ⟨_, rfl, ?_⟩; have p113 : 0 ≤ (0 : Int) := (by omega); have q113 : 0 < (l0.length : Int) := of_decide_eq_true (by first | (with_reducible assumption) | assumption); obtain ⟨ad113, A113_3, c113_3, A113_7, c113_7, e113, hx113_0, hx113_1, hx113_2, hx113_3, hx113_4, hx113_5, hx113_6, hx113_7, hl113_3, hi113_3, hl113_7, hi113_7⟩ := at_T40 HR0.out 0 p113 q113; obtain rfl : ad109 = ad113 := (by injection e113); have qi113 : (0 < l0.length) = True := eq_true (by omega); (try rw [show ((0 : Int)).toNat = 0 from rfl] at hx113_0); (try rw [show 0 * 8 = 0 from rfl] at hx113_0); (try rw [Addr.add_zero'] at hx113_0); (try rw [show ((0 : Int)).toNat = 0 from rfl] at hx113_1); (try rw [show 0 * 8 = 0 from rfl] at hx113_1); (try rw [Addr.add_zero'] at hx113_1); (try rw [show ((0 : Int)).toNat = 0 from rfl] at hx113_2); (try rw [show 0 * 8 = 0 from rfl] at hx113_2); (try rw [Addr.add_zero'] at hx113_2); (try rw [show ((0 : Int)).toNat = 0 from rfl] at hx113_3); (try rw [show 0 * 8 = 0 from rfl] at hx113_3); (try rw [Addr.add_zero'] at hx113_3); (try rw [show ((0 : Int)).toNat = 0 from rfl] at hx113_4); (try rw [show 0 * 8 = 0 from rfl] at hx113_4); (try rw [Addr.add_zero'] at hx113_4); (try rw [show ((0 : Int)).toNat = 0 from rfl] at hx113_5); (try rw [show 0 * 8 = 0 from rfl] at hx113_5); (try rw [Addr.add_zero'] at hx113_5); (try rw [show ((0 : Int)).toNat = 0 from rfl] at hx113_6); (try rw [show 0 * 8 = 0 from rfl] at hx113_6); (try rw [Addr.add_zero'] at hx113_6); (try rw [show ((0 : Int)).toNat = 0 from rfl] at hx113_7); (try rw [show 0 * 8 = 0 from rfl] at hx113_7); (try rw [Addr.add_zero'] at hx113_7); have HR113_3 := Aside0.mk hi113_3; have HC113_3 := Aside0.mk hl113_3; clear hi113_3 hl113_3; have HR113_7 := Aside0.mk hi113_7; have HC113_7 := Aside0.mk hl113_7; clear hi113_7 hl113_7; replace p113 := eq_true p113; replace q113 := eq_true q113; have ea_ := Option.some.inj (hx109_3.symm.trans hx113_3); injection ea_ with ea_ en_ ec_; subst ea_; subst ec_; clear en_; have ea_ := Option.some.inj (hx109_7.symm.trans hx113_7); injection ea_ with ea_ en_ ec_; subst ea_; subst ec_; clear en_; (try clear hx113_0); (try clear hx113_1); (try clear hx113_2); (try clear hx113_3); (try clear hx113_4); (try clear hx113_5); (try clear hx113_6); (try clear hx113_7); (try clear qi113); have p114 : 0 ≤ (0 : Int) := (by omega); have q114 : 0 < (l0.length : Int) := of_decide_eq_true (by first | (with_reducible assumption) | assumption); obtain ⟨ad114, A114_3, c114_3, A114_7, c114_7, e114, hx114_0, hx114_1, hx114_2, hx114_3, hx114_4, hx114_5, hx114_6, hx114_7, hl114_3, hi114_3, hl114_7, hi114_7⟩ := at_T40 HR0.out 0 p114 q114; obtain rfl : ad109 = ad114 := (by injection e114); have qi114 : (0 < l0.length) = True := eq_true (by omega); (try rw [show ((0 : Int)).toNat = 0 from rfl] at hx114_0); (try rw [show 0 * 8 = 0 from rfl] at hx114_0); (try rw [Addr.add_zero'] at hx114_0); (try rw [show ((0 : Int)).toNat = 0 from rfl] at hx114_1); (try rw [show 0 * 8 = 0 from rfl] at hx114_1); (try rw [Addr.add_zero'] at hx114_1); (try rw [show ((0 : Int)).toNat = 0 from rfl] at hx114_2); (try rw [show 0 * 8 = 0 from rfl] at hx114_2); (try rw [Addr.add_zero'] at hx114_2); (try rw [show ((0 : Int)).toNat = 0 from rfl] at hx114_3); (try rw [show 0 * 8 = 0 from rfl] at hx114_3); (try rw [Addr.add_zero'] at hx114_3); (try rw [show ((0 : Int)).toNat = 0 from rfl] at hx114_4); (try rw [show 0 * 8 = 0 from rfl] at hx114_4); (try rw [Addr.add_zero'] at hx114_4); (try rw [show ((0 : Int)).toNat = 0 from rfl] at hx114_5); (try rw [show 0 * 8 = 0 from rfl] at hx114_5); (try rw [Addr.add_zero'] at hx114_5); (try rw [show ((0 : Int)).toNat = 0 from rfl] at hx114_6); (try rw [show 0 * 8 = 0 from rfl] at hx114_6); (try rw [Addr.add_zero'] at hx114_6); (try rw [show ((0 : Int)).toNat = 0 from rfl] at hx114_7); (try rw [show 0 * 8 = 0 from rfl] at hx114_7); (try rw [Addr.add_zero'] at hx114_7); have HR114_3 := Aside0.mk hi114_3; have HC114_3 := Aside0.mk hl114_3; clear hi114_3 hl114_3; have HR114_7 := Aside0.mk hi114_7; have HC114_7 := Aside0.mk hl114_7; clear hi114_7 hl114_7; replace p114 := eq_true p114; replace q114 := eq_true q114; have ea_ := Option.some.inj (hx109_3.symm.trans hx114_3); injection ea_ with ea_ en_ ec_; subst ea_; subst ec_; clear en_; have ea_ := Option.some.inj (hx109_7.symm.trans hx114_7); injection ea_ with ea_ en_ ec_; subst ea_; subst ec_; clear en_; (try clear hx114_0); (try clear hx114_1); (try clear hx114_2); (try clear hx114_3); (try clear hx114_4); (try clear hx114_5); (try clear hx114_6); (try clear hx114_7); (try clear qi114)))
                go_meet
                case rel => exact ⟨_, (false), (by first | rfl | (simp; done) | (simp [*]; done) | (simp; generalize ByteArray.toList _ = zq_; cases zq_ <;> rfl)), H', ⟨by have := HJ1.out; first | omega | exact Nat.le_refl _⟩, by repeat (first | exact Drawn0.refl _ | apply Drawn0.step)⟩
              · rw [if_neg c14] at H
                have c14b0 : (((rd_T40 l0 0).f0) == 4) = false := beq_eq_false_iff_ne.mpr c14
                have c14b1 : (((rd_T40 l0 0).f0) != 4) = true := bne_iff_ne.mpr c14
                by_cases c15 : (((rd_T40 l0 0).f3).length : Int) > 0
                · rw [if_pos c15] at H
                  have c15b0 : decide (0 < (((rd_T40 l0 0).f3).length : Int)) = true := decide_eq_true c15
                  have c15b1 : decide (0 < ((rd_T40 l0 0).f3).length) = true := decide_eq_true (by omega)
                  clear c15
                  have H' := Aside0.mk H
                  clear H
                  have p109 : 0 ≤ (0 : Int) := (by omega)
                  have q109 : 0 < (l0.length : Int) := of_decide_eq_true (by first | (with_reducible assumption) | assumption)
                  obtain ⟨ad109, A109_3, c109_3, A109_7, c109_7, e109, hx109_0, hx109_1, hx109_2, hx109_3, hx109_4, hx109_5, hx109_6, hx109_7, hl109_3, hi109_3, hl109_7, hi109_7⟩ := at_T40 HR0.out 0 p109 q109
                  cases e109
                  have qi109 : (0 < l0.length) = True := eq_true (by omega)
                  (try rw [show ((0 : Int)).toNat = 0 from rfl] at hx109_0)
                  (try rw [show 0 * 8 = 0 from rfl] at hx109_0)
                  (try rw [Addr.add_zero'] at hx109_0)
                  (try rw [show ((0 : Int)).toNat = 0 from rfl] at hx109_1)
                  (try rw [show 0 * 8 = 0 from rfl] at hx109_1)
                  (try rw [Addr.add_zero'] at hx109_1)
                  (try rw [show ((0 : Int)).toNat = 0 from rfl] at hx109_2)
                  (try rw [show 0 * 8 = 0 from rfl] at hx109_2)
                  (try rw [Addr.add_zero'] at hx109_2)
                  (try rw [show ((0 : Int)).toNat = 0 from rfl] at hx109_3)
                  (try rw [show 0 * 8 = 0 from rfl] at hx109_3)
                  (try rw [Addr.add_zero'] at hx109_3)
                  (try rw [show ((0 : Int)).toNat = 0 from rfl] at hx109_4)
                  (try rw [show 0 * 8 = 0 from rfl] at hx109_4)
                  (try rw [Addr.add_zero'] at hx109_4)
                  (try rw [show ((0 : Int)).toNat = 0 from rfl] at hx109_5)
                  (try rw [show 0 * 8 = 0 from rfl] at hx109_5)
                  (try rw [Addr.add_zero'] at hx109_5)
                  (try rw [show ((0 : Int)).toNat = 0 from rfl] at hx109_6)
                  (try rw [show 0 * 8 = 0 from rfl] at hx109_6)
                  (try rw [Addr.add_zero'] at hx109_6)
                  (try rw [show ((0 : Int)).toNat = 0 from rfl] at hx109_7)
                  (try rw [show 0 * 8 = 0 from rfl] at hx109_7)
                  (try rw [Addr.add_zero'] at hx109_7)
                  have HR109_3 := Aside0.mk hi109_3
                  have HC109_3 := Aside0.mk hl109_3
                  clear hi109_3 hl109_3
                  have HR109_7 := Aside0.mk hi109_7
                  have HC109_7 := Aside0.mk hl109_7
                  clear hi109_7 hl109_7
                  replace p109 := eq_true p109
                  replace q109 := eq_true q109
                  (try clear hx104_0 hx104_1 hx104_2 hx104_3 hx104_4 hx104_5 hx104_6 hx104_7)
                  (try clear hx104_0 hx104_1 hx104_2 hx104_3 hx104_4 hx104_5 hx104_6 hx104_7)
                  (try clear hx104_0 hx104_1 hx104_2 hx104_3 hx104_4 hx104_5 hx104_6 hx104_7)
                  go_wp2_with (first | ((with_reducible refine gate_callee (f := 139) rfl ?_); refine goesL_ (some 28) rfl rfl Try.func139 (by kernel_rfl) rfl #[.int .i64 ((rd_T40 l0 0).f0)] rfl (by (try simp only [List.map_toArray, List.map_cons, List.map_nil]); first | done | rfl | (simp only [List.length_drop, List.length_take]; rfl)) ?_; (with_reducible refine (spec_l8Copies.calls ((rd_T40 l0 0).f0) false _ A11.out).mono ?_); rintro e w' ⟨rfl, ⟨nd, rfl⟩⟩; refine ⟨_, rfl, ?_⟩; have p113 : 0 ≤ (0 : Int) := (by omega); have q113 : 0 < (l0.length : Int) := of_decide_eq_true (by first | (with_reducible assumption) | assumption); obtain ⟨ad113, A113_3, c113_3, A113_7, c113_7, e113, hx113_0, hx113_1, hx113_2, hx113_3, hx113_4, hx113_5, hx113_6, hx113_7, hl113_3, hi113_3, hl113_7, hi113_7⟩ := at_T40 HR0.out 0 p113 q113; obtain rfl : ad109 = ad113 := (by injection e113); have qi113 : (0 < l0.length) = True := eq_true (by omega); (try rw [show ((0 : Int)).toNat = 0 from rfl] at hx113_0); (try rw [show 0 * 8 = 0 from rfl] at hx113_0); (try rw [Addr.add_zero'] at hx113_0); (try rw [show ((0 : Int)).toNat = 0 from rfl] at hx113_1); (try rw [show 0 * 8 = 0 from rfl] at hx113_1); (try rw [Addr.add_zero'] at hx113_1); (try rw [show ((0 : Int)).toNat = 0 from rfl] at hx113_2); (try rw [show 0 * 8 = 0 from rfl] at hx113_2); (try rw [Addr.add_zero'] at hx113_2); (try rw [show ((0 : Int)).toNat = 0 from rfl] at hx113_3); (try rw [show 0 * 8 = 0 from rfl] at hx113_3); (try rw [Addr.add_zero'] at hx113_3); (try rw [show ((0 : Int)).toNat = 0 from rfl] at hx113_4); (try rw [show 0 * 8 = 0 from rfl] at hx113_4); (try rw [Addr.add_zero'] at hx113_4); (try rw [show ((0 : Int)).toNat = 0 from rfl] at hx113_5); (try rw [show 0 * 8 = 0 from rfl] at hx113_5); (try rw [Addr.add_zero'] at hx113_5); (try rw [show ((0 : Int)).toNat = 0 from rfl] at hx113_6); (try rw [show 0 * 8 = 0 from rfl] at hx113_6); (try rw [Addr.add_zero'] at hx113_6); (try rw [show ((0 : Int)).toNat = 0 from rfl] at hx113_7); (try rw [show 0 * 8 = 0 from rfl] at hx113_7); (try rw [Addr.add_zero'] at hx113_7); have HR113_3 := Aside0.mk hi113_3; have HC113_3 := Aside0.mk hl113_3; clear hi113_3 hl113_3; have HR113_7 := Aside0.mk hi113_7; have HC113_7 := Aside0.mk hl113_7; clear hi113_7 hl113_7; replace p113 := eq_true p113; replace q113 := eq_true q113; have ea_ := Option.some.inj (hx109_3.symm.trans hx113_3); injection ea_ with ea_ en_ ec_; subst ea_; subst ec_; clear en_; have ea_ := Option.some.inj (hx109_7.symm.trans hx113_7); injection ea_ with ea_ en_ ec_; subst ea_; subst ec_; clear en_; (try clear hx113_0); (try clear hx113_1); (try clear hx113_2); (try clear hx113_3); (try clear hx113_4); (try clear hx113_5); (try clear hx113_6); (try clear hx113_7); (try clear qi113); have p115 : 0 ≤ (0 : Int) := (by omega); have q115 : 0 < (l0.length : Int) := of_decide_eq_true (by first | (with_reducible assumption) | assumption); obtain ⟨ad115, A115_3, c115_3, A115_7, c115_7, e115, hx115_0, hx115_1, hx115_2, hx115_3, hx115_4, hx115_5, hx115_6, hx115_7, hl115_3, hi115_3, hl115_7, hi115_7⟩ := at_T40 HR0.out 0 p115 q115; obtain rfl : ad109 = ad115 := (by injection e115); have qi115 : (0 < l0.length) = True := eq_true (by omega); (try rw [show ((0 : Int)).toNat = 0 from rfl] at hx115_0); (try rw [show 0 * 8 = 0 from rfl] at hx115_0); (try rw [Addr.add_zero'] at hx115_0); (try rw [show ((0 : Int)).toNat = 0 from rfl] at hx115_1); (try rw [show 0 * 8 = 0 from rfl] at hx115_1); (try rw [Addr.add_zero'] at hx115_1); (try rw [show ((0 : Int)).toNat = 0 from rfl] at hx115_2); (try rw [show 0 * 8 = 0 from rfl] at hx115_2); (try rw [Addr.add_zero'] at hx115_2); (try rw [show ((0 : Int)).toNat = 0 from rfl] at hx115_3); (try rw [show 0 * 8 = 0 from rfl] at hx115_3); (try rw [Addr.add_zero'] at hx115_3); (try rw [show ((0 : Int)).toNat = 0 from rfl] at hx115_4); (try rw [show 0 * 8 = 0 from rfl] at hx115_4); (try rw [Addr.add_zero'] at hx115_4); (try rw [show ((0 : Int)).toNat = 0 from rfl] at hx115_5); (try rw [show 0 * 8 = 0 from rfl] at hx115_5); (try rw [Addr.add_zero'] at hx115_5); (try rw [show ((0 : Int)).toNat = 0 from rfl] at hx115_6); (try rw [show 0 * 8 = 0 from rfl] at hx115_6); (try rw [Addr.add_zero'] at hx115_6); (try rw [show ((0 : Int)).toNat = 0 from rfl] at hx115_7); (try rw [show 0 * 8 = 0 from rfl] at hx115_7); (try rw [Addr.add_zero'] at hx115_7); have HR115_3 := Aside0.mk hi115_3; have HC115_3 := Aside0.mk hl115_3; clear hi115_3 hl115_3; have HR115_7 := Aside0.mk hi115_7; have HC115_7 := Aside0.mk hl115_7; clear hi115_7 hl115_7; replace p115 := eq_true p115; replace q115 := eq_true q115; have ea_ := Option.some.inj (hx109_3.symm.trans hx115_3); injection ea_ with ea_ en_ ec_; subst ea_; subst ec_; clear en_; have ea_ := Option.some.inj (hx109_7.symm.trans hx115_7); injection ea_ with ea_ en_ ec_; subst ea_; subst ec_; clear en_; (try clear hx115_0); (try clear hx115_1); (try clear hx115_2); (try clear hx115_3); (try clear hx115_4); (try clear hx115_5); (try clear hx115_6); (try clear hx115_7); (try clear qi115)))
                  go_meet
                  case rel => exact ⟨_, (true), (by first | rfl | (simp; done) | (simp [*]; done) | (simp; generalize ByteArray.toList _ = zq_; cases zq_ <;> rfl)), H', ⟨by have := HJ1.out; first | omega | exact Nat.le_refl _⟩, by repeat (first | exact Drawn0.refl _ | apply Drawn0.step)⟩
                · rw [if_neg c15] at H
                  have c15b0 : decide (0 < (((rd_T40 l0 0).f3).length : Int)) = false := decide_eq_false c15
                  have c15b1 : decide (0 < ((rd_T40 l0 0).f3).length) = false := decide_eq_false (by omega)
                  clear c15
                  have H' := Aside0.mk H
                  clear H
                  have p109 : 0 ≤ (0 : Int) := (by omega)
                  have q109 : 0 < (l0.length : Int) := of_decide_eq_true (by first | (with_reducible assumption) | assumption)
                  obtain ⟨ad109, A109_3, c109_3, A109_7, c109_7, e109, hx109_0, hx109_1, hx109_2, hx109_3, hx109_4, hx109_5, hx109_6, hx109_7, hl109_3, hi109_3, hl109_7, hi109_7⟩ := at_T40 HR0.out 0 p109 q109
                  cases e109
                  have qi109 : (0 < l0.length) = True := eq_true (by omega)
                  (try rw [show ((0 : Int)).toNat = 0 from rfl] at hx109_0)
                  (try rw [show 0 * 8 = 0 from rfl] at hx109_0)
                  (try rw [Addr.add_zero'] at hx109_0)
                  (try rw [show ((0 : Int)).toNat = 0 from rfl] at hx109_1)
                  (try rw [show 0 * 8 = 0 from rfl] at hx109_1)
                  (try rw [Addr.add_zero'] at hx109_1)
                  (try rw [show ((0 : Int)).toNat = 0 from rfl] at hx109_2)
                  (try rw [show 0 * 8 = 0 from rfl] at hx109_2)
                  (try rw [Addr.add_zero'] at hx109_2)
                  (try rw [show ((0 : Int)).toNat = 0 from rfl] at hx109_3)
                  (try rw [show 0 * 8 = 0 from rfl] at hx109_3)
                  (try rw [Addr.add_zero'] at hx109_3)
                  (try rw [show ((0 : Int)).toNat = 0 from rfl] at hx109_4)
                  (try rw [show 0 * 8 = 0 from rfl] at hx109_4)
                  (try rw [Addr.add_zero'] at hx109_4)
                  (try rw [show ((0 : Int)).toNat = 0 from rfl] at hx109_5)
                  (try rw [show 0 * 8 = 0 from rfl] at hx109_5)
                  (try rw [Addr.add_zero'] at hx109_5)
                  (try rw [show ((0 : Int)).toNat = 0 from rfl] at hx109_6)
                  (try rw [show 0 * 8 = 0 from rfl] at hx109_6)
                  (try rw [Addr.add_zero'] at hx109_6)
                  (try rw [show ((0 : Int)).toNat = 0 from rfl] at hx109_7)
                  (try rw [show 0 * 8 = 0 from rfl] at hx109_7)
                  (try rw [Addr.add_zero'] at hx109_7)
                  have HR109_3 := Aside0.mk hi109_3
                  have HC109_3 := Aside0.mk hl109_3
                  clear hi109_3 hl109_3
                  have HR109_7 := Aside0.mk hi109_7
                  have HC109_7 := Aside0.mk hl109_7
                  clear hi109_7 hl109_7
                  replace p109 := eq_true p109
                  replace q109 := eq_true q109
                  (try clear hx104_0 hx104_1 hx104_2 hx104_3 hx104_4 hx104_5 hx104_6 hx104_7)
                  (try clear hx104_0 hx104_1 hx104_2 hx104_3 hx104_4 hx104_5 hx104_6 hx104_7)
                  (try clear hx104_0 hx104_1 hx104_2 hx104_3 hx104_4 hx104_5 hx104_6 hx104_7)
                  go_wp2_with (first | ((with_reducible refine gate_callee (f := 139) rfl ?_); refine goesL_ (some 28) rfl rfl Try.func139 (by kernel_rfl) rfl #[.int .i64 ((rd_T40 l0 0).f0)] rfl (by (try simp only [List.map_toArray, List.map_cons, List.map_nil]); first | done | rfl | (simp only [List.length_drop, List.length_take]; rfl)) ?_; (with_reducible refine (spec_l8Copies.calls ((rd_T40 l0 0).f0) false _ A11.out).mono ?_); rintro e w' ⟨rfl, ⟨nd, rfl⟩⟩; refine ⟨_, rfl, ?_⟩; have p113 : 0 ≤ (0 : Int) := (by omega); have q113 : 0 < (l0.length : Int) := of_decide_eq_true (by first | (with_reducible assumption) | assumption); obtain ⟨ad113, A113_3, c113_3, A113_7, c113_7, e113, hx113_0, hx113_1, hx113_2, hx113_3, hx113_4, hx113_5, hx113_6, hx113_7, hl113_3, hi113_3, hl113_7, hi113_7⟩ := at_T40 HR0.out 0 p113 q113; obtain rfl : ad109 = ad113 := (by injection e113); have qi113 : (0 < l0.length) = True := eq_true (by omega); (try rw [show ((0 : Int)).toNat = 0 from rfl] at hx113_0); (try rw [show 0 * 8 = 0 from rfl] at hx113_0); (try rw [Addr.add_zero'] at hx113_0); (try rw [show ((0 : Int)).toNat = 0 from rfl] at hx113_1); (try rw [show 0 * 8 = 0 from rfl] at hx113_1); (try rw [Addr.add_zero'] at hx113_1); (try rw [show ((0 : Int)).toNat = 0 from rfl] at hx113_2); (try rw [show 0 * 8 = 0 from rfl] at hx113_2); (try rw [Addr.add_zero'] at hx113_2); (try rw [show ((0 : Int)).toNat = 0 from rfl] at hx113_3); (try rw [show 0 * 8 = 0 from rfl] at hx113_3); (try rw [Addr.add_zero'] at hx113_3); (try rw [show ((0 : Int)).toNat = 0 from rfl] at hx113_4); (try rw [show 0 * 8 = 0 from rfl] at hx113_4); (try rw [Addr.add_zero'] at hx113_4); (try rw [show ((0 : Int)).toNat = 0 from rfl] at hx113_5); (try rw [show 0 * 8 = 0 from rfl] at hx113_5); (try rw [Addr.add_zero'] at hx113_5); (try rw [show ((0 : Int)).toNat = 0 from rfl] at hx113_6); (try rw [show 0 * 8 = 0 from rfl] at hx113_6); (try rw [Addr.add_zero'] at hx113_6); (try rw [show ((0 : Int)).toNat = 0 from rfl] at hx113_7); (try rw [show 0 * 8 = 0 from rfl] at hx113_7); (try rw [Addr.add_zero'] at hx113_7); have HR113_3 := Aside0.mk hi113_3; have HC113_3 := Aside0.mk hl113_3; clear hi113_3 hl113_3; have HR113_7 := Aside0.mk hi113_7; have HC113_7 := Aside0.mk hl113_7; clear hi113_7 hl113_7; replace p113 := eq_true p113; replace q113 := eq_true q113; have ea_ := Option.some.inj (hx109_3.symm.trans hx113_3); injection ea_ with ea_ en_ ec_; subst ea_; subst ec_; clear en_; have ea_ := Option.some.inj (hx109_7.symm.trans hx113_7); injection ea_ with ea_ en_ ec_; subst ea_; subst ec_; clear en_; (try clear hx113_0); (try clear hx113_1); (try clear hx113_2); (try clear hx113_3); (try clear hx113_4); (try clear hx113_5); (try clear hx113_6); (try clear hx113_7); (try clear qi113); have p115 : 0 ≤ (0 : Int) := (by omega); have q115 : 0 < (l0.length : Int) := of_decide_eq_true (by first | (with_reducible assumption) | assumption); obtain ⟨ad115, A115_3, c115_3, A115_7, c115_7, e115, hx115_0, hx115_1, hx115_2, hx115_3, hx115_4, hx115_5, hx115_6, hx115_7, hl115_3, hi115_3, hl115_7, hi115_7⟩ := at_T40 HR0.out 0 p115 q115; obtain rfl : ad109 = ad115 := (by injection e115); have qi115 : (0 < l0.length) = True := eq_true (by omega); (try rw [show ((0 : Int)).toNat = 0 from rfl] at hx115_0); (try rw [show 0 * 8 = 0 from rfl] at hx115_0); (try rw [Addr.add_zero'] at hx115_0); (try rw [show ((0 : Int)).toNat = 0 from rfl] at hx115_1); (try rw [show 0 * 8 = 0 from rfl] at hx115_1); (try rw [Addr.add_zero'] at hx115_1); (try rw [show ((0 : Int)).toNat = 0 from rfl] at hx115_2); (try rw [show 0 * 8 = 0 from rfl] at hx115_2); (try rw [Addr.add_zero'] at hx115_2); (try rw [show ((0 : Int)).toNat = 0 from rfl] at hx115_3); (try rw [show 0 * 8 = 0 from rfl] at hx115_3); (try rw [Addr.add_zero'] at hx115_3); (try rw [show ((0 : Int)).toNat = 0 from rfl] at hx115_4); (try rw [show 0 * 8 = 0 from rfl] at hx115_4); (try rw [Addr.add_zero'] at hx115_4); (try rw [show ((0 : Int)).toNat = 0 from rfl] at hx115_5); (try rw [show 0 * 8 = 0 from rfl] at hx115_5); (try rw [Addr.add_zero'] at hx115_5); (try rw [show ((0 : Int)).toNat = 0 from rfl] at hx115_6); (try rw [show 0 * 8 = 0 from rfl] at hx115_6); (try rw [Addr.add_zero'] at hx115_6); (try rw [show ((0 : Int)).toNat = 0 from rfl] at hx115_7); (try rw [show 0 * 8 = 0 from rfl] at hx115_7); (try rw [Addr.add_zero'] at hx115_7); have HR115_3 := Aside0.mk hi115_3; have HC115_3 := Aside0.mk hl115_3; clear hi115_3 hl115_3; have HR115_7 := Aside0.mk hi115_7; have HC115_7 := Aside0.mk hl115_7; clear hi115_7 hl115_7; replace p115 := eq_true p115; replace q115 := eq_true q115; have ea_ := Option.some.inj (hx109_3.symm.trans hx115_3); injection ea_ with ea_ en_ ec_; subst ea_; subst ec_; clear en_; have ea_ := Option.some.inj (hx109_7.symm.trans hx115_7); injection ea_ with ea_ en_ ec_; subst ea_; subst ec_; clear en_; (try clear hx115_0); (try clear hx115_1); (try clear hx115_2); (try clear hx115_3); (try clear hx115_4); (try clear hx115_5); (try clear hx115_6); (try clear hx115_7); (try clear qi115); have p116 : 0 ≤ (0 : Int) := (by omega); have q116 : 0 < (l0.length : Int) := of_decide_eq_true (by first | (with_reducible assumption) | assumption); obtain ⟨ad116, A116_3, c116_3, A116_7, c116_7, e116, hx116_0, hx116_1, hx116_2, hx116_3, hx116_4, hx116_5, hx116_6, hx116_7, hl116_3, hi116_3, hl116_7, hi116_7⟩ := at_T40 HR0.out 0 p116 q116; obtain rfl : ad109 = ad116 := (by injection e116); have qi116 : (0 < l0.length) = True := eq_true (by omega); (try rw [show ((0 : Int)).toNat = 0 from rfl] at hx116_0); (try rw [show 0 * 8 = 0 from rfl] at hx116_0); (try rw [Addr.add_zero'] at hx116_0); (try rw [show ((0 : Int)).toNat = 0 from rfl] at hx116_1); (try rw [show 0 * 8 = 0 from rfl] at hx116_1); (try rw [Addr.add_zero'] at hx116_1); (try rw [show ((0 : Int)).toNat = 0 from rfl] at hx116_2); (try rw [show 0 * 8 = 0 from rfl] at hx116_2); (try rw [Addr.add_zero'] at hx116_2); (try rw [show ((0 : Int)).toNat = 0 from rfl] at hx116_3); (try rw [show 0 * 8 = 0 from rfl] at hx116_3); (try rw [Addr.add_zero'] at hx116_3); (try rw [show ((0 : Int)).toNat = 0 from rfl] at hx116_4); (try rw [show 0 * 8 = 0 from rfl] at hx116_4); (try rw [Addr.add_zero'] at hx116_4); (try rw [show ((0 : Int)).toNat = 0 from rfl] at hx116_5); (try rw [show 0 * 8 = 0 from rfl] at hx116_5); (try rw [Addr.add_zero'] at hx116_5); (try rw [show ((0 : Int)).toNat = 0 from rfl] at hx116_6); (try rw [show 0 * 8 = 0 from rfl] at hx116_6); (try rw [Addr.add_zero'] at hx116_6); (try rw [show ((0 : Int)).toNat = 0 from rfl] at hx116_7); (try rw [show 0 * 8 = 0 from rfl] at hx116_7); (try rw [Addr.add_zero'] at hx116_7); have HR116_3 := Aside0.mk hi116_3; have HC116_3 := Aside0.mk hl116_3; clear hi116_3 hl116_3; have HR116_7 := Aside0.mk hi116_7; have HC116_7 := Aside0.mk hl116_7; clear hi116_7 hl116_7; replace p116 := eq_true p116; replace q116 := eq_true q116; have ea_ := Option.some.inj (hx109_3.symm.trans hx116_3); injection ea_ with ea_ en_ ec_; subst ea_; subst ec_; clear en_; have ea_ := Option.some.inj (hx109_7.symm.trans hx116_7); injection ea_ with ea_ en_ ec_; subst ea_; subst ec_; clear en_; (try clear hx116_0); (try clear hx116_1); (try clear hx116_2); (try clear hx116_3); (try clear hx116_4); (try clear hx116_5); (try clear hx116_6); (try clear hx116_7); (try clear qi116); have p117 : 0 ≤ (0 : Int) := (by omega); have q117 : 0 < (l0.length : Int) := of_decide_eq_true (by first | (with_reducible assumption) | assumption); obtain ⟨ad117, A117_3, c117_3, A117_7, c117_7, e117, hx117_0, hx117_1, hx117_2, hx117_3, hx117_4, hx117_5, hx117_6, hx117_7, hl117_3, hi117_3, hl117_7, hi117_7⟩ := at_T40 HR0.out 0 p117 q117; obtain rfl : ad109 = ad117 := (by injection e117); have qi117 : (0 < l0.length) = True := eq_true (by omega); (try rw [show ((0 : Int)).toNat = 0 from rfl] at hx117_0); (try rw [show 0 * 8 = 0 from rfl] at hx117_0); (try rw [Addr.add_zero'] at hx117_0); (try rw [show ((0 : Int)).toNat = 0 from rfl] at hx117_1); (try rw [show 0 * 8 = 0 from rfl] at hx117_1); (try rw [Addr.add_zero'] at hx117_1); (try rw [show ((0 : Int)).toNat = 0 from rfl] at hx117_2); (try rw [show 0 * 8 = 0 from rfl] at hx117_2); (try rw [Addr.add_zero'] at hx117_2); (try rw [show ((0 : Int)).toNat = 0 from rfl] at hx117_3); (try rw [show 0 * 8 = 0 from rfl] at hx117_3); (try rw [Addr.add_zero'] at hx117_3); (try rw [show ((0 : Int)).toNat = 0 from rfl] at hx117_4); (try rw [show 0 * 8 = 0 from rfl] at hx117_4); (try rw [Addr.add_zero'] at hx117_4); (try rw [show ((0 : Int)).toNat = 0 from rfl] at hx117_5); (try rw [show 0 * 8 = 0 from rfl] at hx117_5); (try rw [Addr.add_zero'] at hx117_5); (try rw [show ((0 : Int)).toNat = 0 from rfl] at hx117_6); (try rw [show 0 * 8 = 0 from rfl] at hx117_6); (try rw [Addr.add_zero'] at hx117_6); (try rw [show ((0 : Int)).toNat = 0 from rfl] at hx117_7); (try rw [show 0 * 8 = 0 from rfl] at hx117_7); (try rw [Addr.add_zero'] at hx117_7); have HR117_3 := Aside0.mk hi117_3; have HC117_3 := Aside0.mk hl117_3; clear hi117_3 hl117_3; have HR117_7 := Aside0.mk hi117_7; have HC117_7 := Aside0.mk hl117_7; clear hi117_7 hl117_7; replace p117 := eq_true p117; replace q117 := eq_true q117; have ea_ := Option.some.inj (hx109_3.symm.trans hx117_3); injection ea_ with ea_ en_ ec_; subst ea_; subst ec_; clear en_; have ea_ := Option.some.inj (hx109_7.symm.trans hx117_7); injection ea_ with ea_ en_ ec_; subst ea_; subst ec_; clear en_; (try clear hx117_0); (try clear hx117_1); (try clear hx117_2); (try clear hx117_3); (try clear hx117_4); (try clear hx117_5); (try clear hx117_6); (try clear hx117_7); (try clear qi117)))
                  go_meet
                  case rel => exact ⟨_, ((((rd_T40 l0 0).f4) != 0)), (by first | rfl | (simp; done) | (simp [*]; done) | (simp; generalize ByteArray.toList _ = zq_; cases zq_ <;> rfl)), H', ⟨by have := HJ1.out; first | omega | exact Nat.le_refl _⟩, by repeat (first | exact Drawn0.refl _ | apply Drawn0.step)⟩
          · rw [if_neg c10] at H
            exact absurd H (by simp)
        case rest =>
          clear HC9
          try clear c1
          try clear p1
          try clear q1
          try clear hx1
          try clear qi1
          try clear p2
          try clear c3
          try clear c3b0
          try clear c3b1
          try clear c5
          try clear c7
          try clear c8
          try clear c10
          try clear c10b0
          try clear c10b1
          try clear p10
          try clear q10
          try clear hx10
          try clear qi10
          try clear c11
          try clear p11
          try clear q11
          try clear hx11
          try clear qi11
          try clear c12
          try clear c13
          try clear c13b0
          try clear c13b1
          try clear c14
          try clear c14b0
          try clear c14b1
          try clear c15
          try clear c15b0
          try clear c15b1
          try clear hx104_0
          try clear hx104_1
          try clear hx104_2
          try clear hx104_3
          try clear hx104_4
          try clear hx104_5
          try clear hx104_6
          try clear hx104_7
          try clear hx106_0
          try clear hx106_1
          try clear hx106_2
          try clear hx106_3
          try clear hx106_4
          try clear hx106_5
          try clear hx106_6
          try clear hx106_7
          try clear hx108_0
          try clear hx108_1
          try clear hx108_2
          try clear hx108_3
          try clear hx108_4
          try clear hx108_5
          try clear hx108_6
          try clear hx108_7
          try clear hx109_0
          try clear hx109_1
          try clear hx109_2
          try clear hx109_3
          try clear hx109_4
          try clear hx109_5
          try clear hx109_6
          try clear hx109_7
          try clear hx111_0
          try clear hx111_1
          try clear hx111_2
          try clear hx111_3
          try clear hx111_4
          try clear hx111_5
          try clear hx111_6
          try clear hx111_7
          try clear hx112_0
          try clear hx112_1
          try clear hx112_2
          try clear hx112_3
          try clear hx112_4
          try clear hx112_5
          try clear hx112_6
          try clear hx112_7
          try clear hx113_0
          try clear hx113_1
          try clear hx113_2
          try clear hx113_3
          try clear hx113_4
          try clear hx113_5
          try clear hx113_6
          try clear hx113_7
          try clear hx114_0
          try clear hx114_1
          try clear hx114_2
          try clear hx114_3
          try clear hx114_4
          try clear hx114_5
          try clear hx114_6
          try clear hx114_7
          try clear hx115_0
          try clear hx115_1
          try clear hx115_2
          try clear hx115_3
          try clear hx115_4
          try clear hx115_5
          try clear hx115_6
          try clear hx115_7
          try clear hx116_0
          try clear hx116_1
          try clear hx116_2
          try clear hx116_3
          try clear hx116_4
          try clear hx116_5
          try clear hx116_6
          try clear hx116_7
          try clear hx117_0
          try clear hx117_1
          try clear hx117_2
          try clear hx117_3
          try clear hx117_4
          try clear hx117_5
          try clear hx117_6
          try clear hx117_7
          try clear p1
          try clear p104
          try clear p106
          try clear p108
          try clear p109
          try clear p111
          try clear p112
          try clear p113
          try clear p114
          try clear p115
          try clear p116
          try clear p117
          try clear p2
          try clear q1
          try clear q104
          try clear q106
          try clear q108
          try clear q109
          try clear q111
          try clear q112
          try clear q113
          try clear q114
          try clear q115
          try clear q116
          try clear q117
          obtain ⟨kq, x58_8, rfl, HA, HJ8, ⟨mc8, rfl⟩⟩ := hcut
          cases kq with
          | zero => exact absurd HA.out (by simp [spec_l8Form.j1])
          | succ kj8 =>
            have H := HA.out
            clear HA
            simp only [spec_l8Form.j1] at H
            by_cases c16 : x58_8 = true
            · subst c16
              have H1 : (some false) = some r := by rw [if_pos rfl] at H; exact H
              clear H
              have H := H1
              clear H1
              obtain rfl := Option.some.inj H
              go_wp2
              go_ret
              exact ⟨by first | rfl | (simp; done) | (simp [*]; done) | (simp; generalize ByteArray.toList _ = zq_; cases zq_ <;> rfl), by repeat (first | exact Drawn0.refl _ | apply Drawn0.step)⟩
            · replace c16 := Bool.eq_false_iff.mpr c16
              subst c16
              have H1 : (if 0 < (l0.length : Int) then (if ((rd_T40 l0 0).f0) = 3 then (some true) else (if ((rd_T40 l0 0).f6) = 0 then (if (((rd_T40 l0 0).f7).length : Int) > 0 then (some false) else (if ((rd_T40 l0 0).f0) = 4 then (some true) else (some (((rd_T40 l0 0).f5) == 0)))) else (some false))) else (none)) = some r := by rw [if_neg (show ¬ (false = true) by decide)] at H; exact H
              clear H
              have H := H1
              clear H1
              by_cases c17 : 0 < (l0.length : Int)
              · rw [if_pos c17] at H
                have c17b0 : decide (0 < (l0.length : Int)) = true := decide_eq_true c17
                have c17b1 : decide (0 < l0.length) = true := decide_eq_true (by omega)
                clear c17
                by_cases c18 : ((rd_T40 l0 0).f0) = 3
                · rw [if_pos c18] at H
                  have c18b0 : (((rd_T40 l0 0).f0) == 3) = true := beq_iff_eq.mpr c18
                  have c18b1 : (((rd_T40 l0 0).f0) != 3) = false := bne_eq_false_iff_eq.mpr c18
                  clear c18
                  obtain rfl := Option.some.inj H
                  have p118 : 0 ≤ (0 : Int) := (by omega)
                  have q118 : 0 < (l0.length : Int) := of_decide_eq_true (by first | (with_reducible assumption) | assumption)
                  obtain ⟨ad118, A118_3, c118_3, A118_7, c118_7, e118, hx118_0, hx118_1, hx118_2, hx118_3, hx118_4, hx118_5, hx118_6, hx118_7, hl118_3, hi118_3, hl118_7, hi118_7⟩ := at_T40 HR0.out 0 p118 q118
                  cases e118
                  have qi118 : (0 < l0.length) = True := eq_true (by omega)
                  (try rw [show ((0 : Int)).toNat = 0 from rfl] at hx118_0)
                  (try rw [show 0 * 8 = 0 from rfl] at hx118_0)
                  (try rw [Addr.add_zero'] at hx118_0)
                  (try rw [show ((0 : Int)).toNat = 0 from rfl] at hx118_1)
                  (try rw [show 0 * 8 = 0 from rfl] at hx118_1)
                  (try rw [Addr.add_zero'] at hx118_1)
                  (try rw [show ((0 : Int)).toNat = 0 from rfl] at hx118_2)
                  (try rw [show 0 * 8 = 0 from rfl] at hx118_2)
                  (try rw [Addr.add_zero'] at hx118_2)
                  (try rw [show ((0 : Int)).toNat = 0 from rfl] at hx118_3)
                  (try rw [show 0 * 8 = 0 from rfl] at hx118_3)
                  (try rw [Addr.add_zero'] at hx118_3)
                  (try rw [show ((0 : Int)).toNat = 0 from rfl] at hx118_4)
                  (try rw [show 0 * 8 = 0 from rfl] at hx118_4)
                  (try rw [Addr.add_zero'] at hx118_4)
                  (try rw [show ((0 : Int)).toNat = 0 from rfl] at hx118_5)
                  (try rw [show 0 * 8 = 0 from rfl] at hx118_5)
                  (try rw [Addr.add_zero'] at hx118_5)
                  (try rw [show ((0 : Int)).toNat = 0 from rfl] at hx118_6)
                  (try rw [show 0 * 8 = 0 from rfl] at hx118_6)
                  (try rw [Addr.add_zero'] at hx118_6)
                  (try rw [show ((0 : Int)).toNat = 0 from rfl] at hx118_7)
                  (try rw [show 0 * 8 = 0 from rfl] at hx118_7)
                  (try rw [Addr.add_zero'] at hx118_7)
                  have HR118_3 := Aside0.mk hi118_3
                  have HC118_3 := Aside0.mk hl118_3
                  clear hi118_3 hl118_3
                  have HR118_7 := Aside0.mk hi118_7
                  have HC118_7 := Aside0.mk hl118_7
                  clear hi118_7 hl118_7
                  replace p118 := eq_true p118
                  replace q118 := eq_true q118
                  (try clear hx104_0 hx104_1 hx104_2 hx104_3 hx104_4 hx104_5 hx104_6 hx104_7)
                  (try clear hx104_0 hx104_1 hx104_2 hx104_3 hx104_4 hx104_5 hx104_6 hx104_7)
                  (try clear hx104_0 hx104_1 hx104_2 hx104_3 hx104_4 hx104_5 hx104_6 hx104_7)
                  (try clear hx109_0 hx109_1 hx109_2 hx109_3 hx109_4 hx109_5 hx109_6 hx109_7)
                  (try clear hx109_0 hx109_1 hx109_2 hx109_3 hx109_4 hx109_5 hx109_6 hx109_7)
                  (try clear hx109_0 hx109_1 hx109_2 hx109_3 hx109_4 hx109_5 hx109_6 hx109_7)
                  (try clear hx109_0 hx109_1 hx109_2 hx109_3 hx109_4 hx109_5 hx109_6 hx109_7)
                  (try clear hx109_0 hx109_1 hx109_2 hx109_3 hx109_4 hx109_5 hx109_6 hx109_7)
                  have p119 : 0 ≤ (0 : Int) := (by omega)
                  have q119 : 0 < (l0.length : Int) := of_decide_eq_true (by first | (with_reducible assumption) | assumption)
                  obtain ⟨ad119, A119_3, c119_3, A119_7, c119_7, e119, hx119_0, hx119_1, hx119_2, hx119_3, hx119_4, hx119_5, hx119_6, hx119_7, hl119_3, hi119_3, hl119_7, hi119_7⟩ := at_T40 HR0.out 0 p119 q119
                  obtain rfl : ad118 = ad119 := (by injection e119)
                  have qi119 : (0 < l0.length) = True := eq_true (by omega)
                  (try rw [show ((0 : Int)).toNat = 0 from rfl] at hx119_0)
                  (try rw [show 0 * 8 = 0 from rfl] at hx119_0)
                  (try rw [Addr.add_zero'] at hx119_0)
                  (try rw [show ((0 : Int)).toNat = 0 from rfl] at hx119_1)
                  (try rw [show 0 * 8 = 0 from rfl] at hx119_1)
                  (try rw [Addr.add_zero'] at hx119_1)
                  (try rw [show ((0 : Int)).toNat = 0 from rfl] at hx119_2)
                  (try rw [show 0 * 8 = 0 from rfl] at hx119_2)
                  (try rw [Addr.add_zero'] at hx119_2)
                  (try rw [show ((0 : Int)).toNat = 0 from rfl] at hx119_3)
                  (try rw [show 0 * 8 = 0 from rfl] at hx119_3)
                  (try rw [Addr.add_zero'] at hx119_3)
                  (try rw [show ((0 : Int)).toNat = 0 from rfl] at hx119_4)
                  (try rw [show 0 * 8 = 0 from rfl] at hx119_4)
                  (try rw [Addr.add_zero'] at hx119_4)
                  (try rw [show ((0 : Int)).toNat = 0 from rfl] at hx119_5)
                  (try rw [show 0 * 8 = 0 from rfl] at hx119_5)
                  (try rw [Addr.add_zero'] at hx119_5)
                  (try rw [show ((0 : Int)).toNat = 0 from rfl] at hx119_6)
                  (try rw [show 0 * 8 = 0 from rfl] at hx119_6)
                  (try rw [Addr.add_zero'] at hx119_6)
                  (try rw [show ((0 : Int)).toNat = 0 from rfl] at hx119_7)
                  (try rw [show 0 * 8 = 0 from rfl] at hx119_7)
                  (try rw [Addr.add_zero'] at hx119_7)
                  have HR119_3 := Aside0.mk hi119_3
                  have HC119_3 := Aside0.mk hl119_3
                  clear hi119_3 hl119_3
                  have HR119_7 := Aside0.mk hi119_7
                  have HC119_7 := Aside0.mk hl119_7
                  clear hi119_7 hl119_7
                  replace p119 := eq_true p119
                  replace q119 := eq_true q119
                  have ea_ := Option.some.inj (hx118_3.symm.trans hx119_3)
                  injection ea_ with ea_ en_ ec_
                  subst ea_
                  subst ec_
                  clear en_
                  have ea_ := Option.some.inj (hx118_7.symm.trans hx119_7)
                  injection ea_ with ea_ en_ ec_
                  subst ea_
                  subst ec_
                  clear en_
                  (try clear hx119_0)
                  (try clear hx119_1)
                  (try clear hx119_2)
                  (try clear hx119_3)
                  (try clear hx119_4)
                  (try clear hx119_5)
                  (try clear hx119_6)
                  (try clear hx119_7)
                  (try clear qi119)
                  go_wp2
                  go_ret
                  exact ⟨by first | rfl | (simp; done) | (simp [*]; done) | (simp; generalize ByteArray.toList _ = zq_; cases zq_ <;> rfl), by repeat (first | exact Drawn0.refl _ | apply Drawn0.step)⟩
                · rw [if_neg c18] at H
                  have c18b0 : (((rd_T40 l0 0).f0) == 3) = false := beq_eq_false_iff_ne.mpr c18
                  have c18b1 : (((rd_T40 l0 0).f0) != 3) = true := bne_iff_ne.mpr c18
                  by_cases c19 : ((rd_T40 l0 0).f6) = 0
                  · rw [if_pos c19] at H
                    have c19b0 : (((rd_T40 l0 0).f6) == 0) = true := beq_iff_eq.mpr c19
                    have c19b1 : (((rd_T40 l0 0).f6) != 0) = false := bne_eq_false_iff_eq.mpr c19
                    clear c19
                    by_cases c20 : (((rd_T40 l0 0).f7).length : Int) > 0
                    · rw [if_pos c20] at H
                      have c20b0 : decide (0 < (((rd_T40 l0 0).f7).length : Int)) = true := decide_eq_true c20
                      have c20b1 : decide (0 < ((rd_T40 l0 0).f7).length) = true := decide_eq_true (by omega)
                      clear c20
                      obtain rfl := Option.some.inj H
                      have p118 : 0 ≤ (0 : Int) := (by omega)
                      have q118 : 0 < (l0.length : Int) := of_decide_eq_true (by first | (with_reducible assumption) | assumption)
                      obtain ⟨ad118, A118_3, c118_3, A118_7, c118_7, e118, hx118_0, hx118_1, hx118_2, hx118_3, hx118_4, hx118_5, hx118_6, hx118_7, hl118_3, hi118_3, hl118_7, hi118_7⟩ := at_T40 HR0.out 0 p118 q118
                      cases e118
                      have qi118 : (0 < l0.length) = True := eq_true (by omega)
                      (try rw [show ((0 : Int)).toNat = 0 from rfl] at hx118_0)
                      (try rw [show 0 * 8 = 0 from rfl] at hx118_0)
                      (try rw [Addr.add_zero'] at hx118_0)
                      (try rw [show ((0 : Int)).toNat = 0 from rfl] at hx118_1)
                      (try rw [show 0 * 8 = 0 from rfl] at hx118_1)
                      (try rw [Addr.add_zero'] at hx118_1)
                      (try rw [show ((0 : Int)).toNat = 0 from rfl] at hx118_2)
                      (try rw [show 0 * 8 = 0 from rfl] at hx118_2)
                      (try rw [Addr.add_zero'] at hx118_2)
                      (try rw [show ((0 : Int)).toNat = 0 from rfl] at hx118_3)
                      (try rw [show 0 * 8 = 0 from rfl] at hx118_3)
                      (try rw [Addr.add_zero'] at hx118_3)
                      (try rw [show ((0 : Int)).toNat = 0 from rfl] at hx118_4)
                      (try rw [show 0 * 8 = 0 from rfl] at hx118_4)
                      (try rw [Addr.add_zero'] at hx118_4)
                      (try rw [show ((0 : Int)).toNat = 0 from rfl] at hx118_5)
                      (try rw [show 0 * 8 = 0 from rfl] at hx118_5)
                      (try rw [Addr.add_zero'] at hx118_5)
                      (try rw [show ((0 : Int)).toNat = 0 from rfl] at hx118_6)
                      (try rw [show 0 * 8 = 0 from rfl] at hx118_6)
                      (try rw [Addr.add_zero'] at hx118_6)
                      (try rw [show ((0 : Int)).toNat = 0 from rfl] at hx118_7)
                      (try rw [show 0 * 8 = 0 from rfl] at hx118_7)
                      (try rw [Addr.add_zero'] at hx118_7)
                      have HR118_3 := Aside0.mk hi118_3
                      have HC118_3 := Aside0.mk hl118_3
                      clear hi118_3 hl118_3
                      have HR118_7 := Aside0.mk hi118_7
                      have HC118_7 := Aside0.mk hl118_7
                      clear hi118_7 hl118_7
                      replace p118 := eq_true p118
                      replace q118 := eq_true q118
                      (try clear hx104_0 hx104_1 hx104_2 hx104_3 hx104_4 hx104_5 hx104_6 hx104_7)
                      (try clear hx104_0 hx104_1 hx104_2 hx104_3 hx104_4 hx104_5 hx104_6 hx104_7)
                      (try clear hx104_0 hx104_1 hx104_2 hx104_3 hx104_4 hx104_5 hx104_6 hx104_7)
                      (try clear hx109_0 hx109_1 hx109_2 hx109_3 hx109_4 hx109_5 hx109_6 hx109_7)
                      (try clear hx109_0 hx109_1 hx109_2 hx109_3 hx109_4 hx109_5 hx109_6 hx109_7)
                      (try clear hx109_0 hx109_1 hx109_2 hx109_3 hx109_4 hx109_5 hx109_6 hx109_7)
                      (try clear hx109_0 hx109_1 hx109_2 hx109_3 hx109_4 hx109_5 hx109_6 hx109_7)
                      (try clear hx109_0 hx109_1 hx109_2 hx109_3 hx109_4 hx109_5 hx109_6 hx109_7)
                      have p120 : 0 ≤ (0 : Int) := (by omega)
                      have q120 : 0 < (l0.length : Int) := of_decide_eq_true (by first | (with_reducible assumption) | assumption)
                      obtain ⟨ad120, A120_3, c120_3, A120_7, c120_7, e120, hx120_0, hx120_1, hx120_2, hx120_3, hx120_4, hx120_5, hx120_6, hx120_7, hl120_3, hi120_3, hl120_7, hi120_7⟩ := at_T40 HR0.out 0 p120 q120
                      obtain rfl : ad118 = ad120 := (by injection e120)
                      have qi120 : (0 < l0.length) = True := eq_true (by omega)
                      (try rw [show ((0 : Int)).toNat = 0 from rfl] at hx120_0)
                      (try rw [show 0 * 8 = 0 from rfl] at hx120_0)
                      (try rw [Addr.add_zero'] at hx120_0)
                      (try rw [show ((0 : Int)).toNat = 0 from rfl] at hx120_1)
                      (try rw [show 0 * 8 = 0 from rfl] at hx120_1)
                      (try rw [Addr.add_zero'] at hx120_1)
                      (try rw [show ((0 : Int)).toNat = 0 from rfl] at hx120_2)
                      (try rw [show 0 * 8 = 0 from rfl] at hx120_2)
                      (try rw [Addr.add_zero'] at hx120_2)
                      (try rw [show ((0 : Int)).toNat = 0 from rfl] at hx120_3)
                      (try rw [show 0 * 8 = 0 from rfl] at hx120_3)
                      (try rw [Addr.add_zero'] at hx120_3)
                      (try rw [show ((0 : Int)).toNat = 0 from rfl] at hx120_4)
                      (try rw [show 0 * 8 = 0 from rfl] at hx120_4)
                      (try rw [Addr.add_zero'] at hx120_4)
                      (try rw [show ((0 : Int)).toNat = 0 from rfl] at hx120_5)
                      (try rw [show 0 * 8 = 0 from rfl] at hx120_5)
                      (try rw [Addr.add_zero'] at hx120_5)
                      (try rw [show ((0 : Int)).toNat = 0 from rfl] at hx120_6)
                      (try rw [show 0 * 8 = 0 from rfl] at hx120_6)
                      (try rw [Addr.add_zero'] at hx120_6)
                      (try rw [show ((0 : Int)).toNat = 0 from rfl] at hx120_7)
                      (try rw [show 0 * 8 = 0 from rfl] at hx120_7)
                      (try rw [Addr.add_zero'] at hx120_7)
                      have HR120_3 := Aside0.mk hi120_3
                      have HC120_3 := Aside0.mk hl120_3
                      clear hi120_3 hl120_3
                      have HR120_7 := Aside0.mk hi120_7
                      have HC120_7 := Aside0.mk hl120_7
                      clear hi120_7 hl120_7
                      replace p120 := eq_true p120
                      replace q120 := eq_true q120
                      have ea_ := Option.some.inj (hx118_3.symm.trans hx120_3)
                      injection ea_ with ea_ en_ ec_
                      subst ea_
                      subst ec_
                      clear en_
                      have ea_ := Option.some.inj (hx118_7.symm.trans hx120_7)
                      injection ea_ with ea_ en_ ec_
                      subst ea_
                      subst ec_
                      clear en_
                      (try clear hx120_0)
                      (try clear hx120_1)
                      (try clear hx120_2)
                      (try clear hx120_3)
                      (try clear hx120_4)
                      (try clear hx120_5)
                      (try clear hx120_6)
                      (try clear hx120_7)
                      (try clear qi120)
                      have p121 : 0 ≤ (0 : Int) := (by omega)
                      have q121 : 0 < (l0.length : Int) := of_decide_eq_true (by first | (with_reducible assumption) | assumption)
                      obtain ⟨ad121, A121_3, c121_3, A121_7, c121_7, e121, hx121_0, hx121_1, hx121_2, hx121_3, hx121_4, hx121_5, hx121_6, hx121_7, hl121_3, hi121_3, hl121_7, hi121_7⟩ := at_T40 HR0.out 0 p121 q121
                      obtain rfl : ad118 = ad121 := (by injection e121)
                      have qi121 : (0 < l0.length) = True := eq_true (by omega)
                      (try rw [show ((0 : Int)).toNat = 0 from rfl] at hx121_0)
                      (try rw [show 0 * 8 = 0 from rfl] at hx121_0)
                      (try rw [Addr.add_zero'] at hx121_0)
                      (try rw [show ((0 : Int)).toNat = 0 from rfl] at hx121_1)
                      (try rw [show 0 * 8 = 0 from rfl] at hx121_1)
                      (try rw [Addr.add_zero'] at hx121_1)
                      (try rw [show ((0 : Int)).toNat = 0 from rfl] at hx121_2)
                      (try rw [show 0 * 8 = 0 from rfl] at hx121_2)
                      (try rw [Addr.add_zero'] at hx121_2)
                      (try rw [show ((0 : Int)).toNat = 0 from rfl] at hx121_3)
                      (try rw [show 0 * 8 = 0 from rfl] at hx121_3)
                      (try rw [Addr.add_zero'] at hx121_3)
                      (try rw [show ((0 : Int)).toNat = 0 from rfl] at hx121_4)
                      (try rw [show 0 * 8 = 0 from rfl] at hx121_4)
                      (try rw [Addr.add_zero'] at hx121_4)
                      (try rw [show ((0 : Int)).toNat = 0 from rfl] at hx121_5)
                      (try rw [show 0 * 8 = 0 from rfl] at hx121_5)
                      (try rw [Addr.add_zero'] at hx121_5)
                      (try rw [show ((0 : Int)).toNat = 0 from rfl] at hx121_6)
                      (try rw [show 0 * 8 = 0 from rfl] at hx121_6)
                      (try rw [Addr.add_zero'] at hx121_6)
                      (try rw [show ((0 : Int)).toNat = 0 from rfl] at hx121_7)
                      (try rw [show 0 * 8 = 0 from rfl] at hx121_7)
                      (try rw [Addr.add_zero'] at hx121_7)
                      have HR121_3 := Aside0.mk hi121_3
                      have HC121_3 := Aside0.mk hl121_3
                      clear hi121_3 hl121_3
                      have HR121_7 := Aside0.mk hi121_7
                      have HC121_7 := Aside0.mk hl121_7
                      clear hi121_7 hl121_7
                      replace p121 := eq_true p121
                      replace q121 := eq_true q121
                      have ea_ := Option.some.inj (hx118_3.symm.trans hx121_3)
                      injection ea_ with ea_ en_ ec_
                      subst ea_
                      subst ec_
                      clear en_
                      have ea_ := Option.some.inj (hx118_7.symm.trans hx121_7)
                      injection ea_ with ea_ en_ ec_
                      subst ea_
                      subst ec_
                      clear en_
                      (try clear hx121_0)
                      (try clear hx121_1)
                      (try clear hx121_2)
                      (try clear hx121_3)
                      (try clear hx121_4)
                      (try clear hx121_5)
                      (try clear hx121_6)
                      (try clear hx121_7)
                      (try clear qi121)
                      go_wp2
                      go_ret
                      exact ⟨by first | rfl | (simp; done) | (simp [*]; done) | (simp; generalize ByteArray.toList _ = zq_; cases zq_ <;> rfl), by repeat (first | exact Drawn0.refl _ | apply Drawn0.step)⟩
                    · rw [if_neg c20] at H
                      have c20b0 : decide (0 < (((rd_T40 l0 0).f7).length : Int)) = false := decide_eq_false c20
                      have c20b1 : decide (0 < ((rd_T40 l0 0).f7).length) = false := decide_eq_false (by omega)
                      clear c20
                      by_cases c21 : ((rd_T40 l0 0).f0) = 4
                      · rw [if_pos c21] at H
                        have c21b0 : (((rd_T40 l0 0).f0) == 4) = true := beq_iff_eq.mpr c21
                        have c21b1 : (((rd_T40 l0 0).f0) != 4) = false := bne_eq_false_iff_eq.mpr c21
                        clear c21
                        obtain rfl := Option.some.inj H
                        have p118 : 0 ≤ (0 : Int) := (by omega)
                        have q118 : 0 < (l0.length : Int) := of_decide_eq_true (by first | (with_reducible assumption) | assumption)
                        obtain ⟨ad118, A118_3, c118_3, A118_7, c118_7, e118, hx118_0, hx118_1, hx118_2, hx118_3, hx118_4, hx118_5, hx118_6, hx118_7, hl118_3, hi118_3, hl118_7, hi118_7⟩ := at_T40 HR0.out 0 p118 q118
                        cases e118
                        have qi118 : (0 < l0.length) = True := eq_true (by omega)
                        (try rw [show ((0 : Int)).toNat = 0 from rfl] at hx118_0)
                        (try rw [show 0 * 8 = 0 from rfl] at hx118_0)
                        (try rw [Addr.add_zero'] at hx118_0)
                        (try rw [show ((0 : Int)).toNat = 0 from rfl] at hx118_1)
                        (try rw [show 0 * 8 = 0 from rfl] at hx118_1)
                        (try rw [Addr.add_zero'] at hx118_1)
                        (try rw [show ((0 : Int)).toNat = 0 from rfl] at hx118_2)
                        (try rw [show 0 * 8 = 0 from rfl] at hx118_2)
                        (try rw [Addr.add_zero'] at hx118_2)
                        (try rw [show ((0 : Int)).toNat = 0 from rfl] at hx118_3)
                        (try rw [show 0 * 8 = 0 from rfl] at hx118_3)
                        (try rw [Addr.add_zero'] at hx118_3)
                        (try rw [show ((0 : Int)).toNat = 0 from rfl] at hx118_4)
                        (try rw [show 0 * 8 = 0 from rfl] at hx118_4)
                        (try rw [Addr.add_zero'] at hx118_4)
                        (try rw [show ((0 : Int)).toNat = 0 from rfl] at hx118_5)
                        (try rw [show 0 * 8 = 0 from rfl] at hx118_5)
                        (try rw [Addr.add_zero'] at hx118_5)
                        (try rw [show ((0 : Int)).toNat = 0 from rfl] at hx118_6)
                        (try rw [show 0 * 8 = 0 from rfl] at hx118_6)
                        (try rw [Addr.add_zero'] at hx118_6)
                        (try rw [show ((0 : Int)).toNat = 0 from rfl] at hx118_7)
                        (try rw [show 0 * 8 = 0 from rfl] at hx118_7)
                        (try rw [Addr.add_zero'] at hx118_7)
                        have HR118_3 := Aside0.mk hi118_3
                        have HC118_3 := Aside0.mk hl118_3
                        clear hi118_3 hl118_3
                        have HR118_7 := Aside0.mk hi118_7
                        have HC118_7 := Aside0.mk hl118_7
                        clear hi118_7 hl118_7
                        replace p118 := eq_true p118
                        replace q118 := eq_true q118
                        (try clear hx104_0 hx104_1 hx104_2 hx104_3 hx104_4 hx104_5 hx104_6 hx104_7)
                        (try clear hx104_0 hx104_1 hx104_2 hx104_3 hx104_4 hx104_5 hx104_6 hx104_7)
                        (try clear hx104_0 hx104_1 hx104_2 hx104_3 hx104_4 hx104_5 hx104_6 hx104_7)
                        (try clear hx109_0 hx109_1 hx109_2 hx109_3 hx109_4 hx109_5 hx109_6 hx109_7)
                        (try clear hx109_0 hx109_1 hx109_2 hx109_3 hx109_4 hx109_5 hx109_6 hx109_7)
                        (try clear hx109_0 hx109_1 hx109_2 hx109_3 hx109_4 hx109_5 hx109_6 hx109_7)
                        (try clear hx109_0 hx109_1 hx109_2 hx109_3 hx109_4 hx109_5 hx109_6 hx109_7)
                        (try clear hx109_0 hx109_1 hx109_2 hx109_3 hx109_4 hx109_5 hx109_6 hx109_7)
                        have p120 : 0 ≤ (0 : Int) := (by omega)
                        have q120 : 0 < (l0.length : Int) := of_decide_eq_true (by first | (with_reducible assumption) | assumption)
                        obtain ⟨ad120, A120_3, c120_3, A120_7, c120_7, e120, hx120_0, hx120_1, hx120_2, hx120_3, hx120_4, hx120_5, hx120_6, hx120_7, hl120_3, hi120_3, hl120_7, hi120_7⟩ := at_T40 HR0.out 0 p120 q120
                        obtain rfl : ad118 = ad120 := (by injection e120)
                        have qi120 : (0 < l0.length) = True := eq_true (by omega)
                        (try rw [show ((0 : Int)).toNat = 0 from rfl] at hx120_0)
                        (try rw [show 0 * 8 = 0 from rfl] at hx120_0)
                        (try rw [Addr.add_zero'] at hx120_0)
                        (try rw [show ((0 : Int)).toNat = 0 from rfl] at hx120_1)
                        (try rw [show 0 * 8 = 0 from rfl] at hx120_1)
                        (try rw [Addr.add_zero'] at hx120_1)
                        (try rw [show ((0 : Int)).toNat = 0 from rfl] at hx120_2)
                        (try rw [show 0 * 8 = 0 from rfl] at hx120_2)
                        (try rw [Addr.add_zero'] at hx120_2)
                        (try rw [show ((0 : Int)).toNat = 0 from rfl] at hx120_3)
                        (try rw [show 0 * 8 = 0 from rfl] at hx120_3)
                        (try rw [Addr.add_zero'] at hx120_3)
                        (try rw [show ((0 : Int)).toNat = 0 from rfl] at hx120_4)
                        (try rw [show 0 * 8 = 0 from rfl] at hx120_4)
                        (try rw [Addr.add_zero'] at hx120_4)
                        (try rw [show ((0 : Int)).toNat = 0 from rfl] at hx120_5)
                        (try rw [show 0 * 8 = 0 from rfl] at hx120_5)
                        (try rw [Addr.add_zero'] at hx120_5)
                        (try rw [show ((0 : Int)).toNat = 0 from rfl] at hx120_6)
                        (try rw [show 0 * 8 = 0 from rfl] at hx120_6)
                        (try rw [Addr.add_zero'] at hx120_6)
                        (try rw [show ((0 : Int)).toNat = 0 from rfl] at hx120_7)
                        (try rw [show 0 * 8 = 0 from rfl] at hx120_7)
                        (try rw [Addr.add_zero'] at hx120_7)
                        have HR120_3 := Aside0.mk hi120_3
                        have HC120_3 := Aside0.mk hl120_3
                        clear hi120_3 hl120_3
                        have HR120_7 := Aside0.mk hi120_7
                        have HC120_7 := Aside0.mk hl120_7
                        clear hi120_7 hl120_7
                        replace p120 := eq_true p120
                        replace q120 := eq_true q120
                        have ea_ := Option.some.inj (hx118_3.symm.trans hx120_3)
                        injection ea_ with ea_ en_ ec_
                        subst ea_
                        subst ec_
                        clear en_
                        have ea_ := Option.some.inj (hx118_7.symm.trans hx120_7)
                        injection ea_ with ea_ en_ ec_
                        subst ea_
                        subst ec_
                        clear en_
                        (try clear hx120_0)
                        (try clear hx120_1)
                        (try clear hx120_2)
                        (try clear hx120_3)
                        (try clear hx120_4)
                        (try clear hx120_5)
                        (try clear hx120_6)
                        (try clear hx120_7)
                        (try clear qi120)
                        have p121 : 0 ≤ (0 : Int) := (by omega)
                        have q121 : 0 < (l0.length : Int) := of_decide_eq_true (by first | (with_reducible assumption) | assumption)
                        obtain ⟨ad121, A121_3, c121_3, A121_7, c121_7, e121, hx121_0, hx121_1, hx121_2, hx121_3, hx121_4, hx121_5, hx121_6, hx121_7, hl121_3, hi121_3, hl121_7, hi121_7⟩ := at_T40 HR0.out 0 p121 q121
                        obtain rfl : ad118 = ad121 := (by injection e121)
                        have qi121 : (0 < l0.length) = True := eq_true (by omega)
                        (try rw [show ((0 : Int)).toNat = 0 from rfl] at hx121_0)
                        (try rw [show 0 * 8 = 0 from rfl] at hx121_0)
                        (try rw [Addr.add_zero'] at hx121_0)
                        (try rw [show ((0 : Int)).toNat = 0 from rfl] at hx121_1)
                        (try rw [show 0 * 8 = 0 from rfl] at hx121_1)
                        (try rw [Addr.add_zero'] at hx121_1)
                        (try rw [show ((0 : Int)).toNat = 0 from rfl] at hx121_2)
                        (try rw [show 0 * 8 = 0 from rfl] at hx121_2)
                        (try rw [Addr.add_zero'] at hx121_2)
                        (try rw [show ((0 : Int)).toNat = 0 from rfl] at hx121_3)
                        (try rw [show 0 * 8 = 0 from rfl] at hx121_3)
                        (try rw [Addr.add_zero'] at hx121_3)
                        (try rw [show ((0 : Int)).toNat = 0 from rfl] at hx121_4)
                        (try rw [show 0 * 8 = 0 from rfl] at hx121_4)
                        (try rw [Addr.add_zero'] at hx121_4)
                        (try rw [show ((0 : Int)).toNat = 0 from rfl] at hx121_5)
                        (try rw [show 0 * 8 = 0 from rfl] at hx121_5)
                        (try rw [Addr.add_zero'] at hx121_5)
                        (try rw [show ((0 : Int)).toNat = 0 from rfl] at hx121_6)
                        (try rw [show 0 * 8 = 0 from rfl] at hx121_6)
                        (try rw [Addr.add_zero'] at hx121_6)
                        (try rw [show ((0 : Int)).toNat = 0 from rfl] at hx121_7)
                        (try rw [show 0 * 8 = 0 from rfl] at hx121_7)
                        (try rw [Addr.add_zero'] at hx121_7)
                        have HR121_3 := Aside0.mk hi121_3
                        have HC121_3 := Aside0.mk hl121_3
                        clear hi121_3 hl121_3
                        have HR121_7 := Aside0.mk hi121_7
                        have HC121_7 := Aside0.mk hl121_7
                        clear hi121_7 hl121_7
                        replace p121 := eq_true p121
                        replace q121 := eq_true q121
                        have ea_ := Option.some.inj (hx118_3.symm.trans hx121_3)
                        injection ea_ with ea_ en_ ec_
                        subst ea_
                        subst ec_
                        clear en_
                        have ea_ := Option.some.inj (hx118_7.symm.trans hx121_7)
                        injection ea_ with ea_ en_ ec_
                        subst ea_
                        subst ec_
                        clear en_
                        (try clear hx121_0)
                        (try clear hx121_1)
                        (try clear hx121_2)
                        (try clear hx121_3)
                        (try clear hx121_4)
                        (try clear hx121_5)
                        (try clear hx121_6)
                        (try clear hx121_7)
                        (try clear qi121)
                        have p122 : 0 ≤ (0 : Int) := (by omega)
                        have q122 : 0 < (l0.length : Int) := of_decide_eq_true (by first | (with_reducible assumption) | assumption)
                        obtain ⟨ad122, A122_3, c122_3, A122_7, c122_7, e122, hx122_0, hx122_1, hx122_2, hx122_3, hx122_4, hx122_5, hx122_6, hx122_7, hl122_3, hi122_3, hl122_7, hi122_7⟩ := at_T40 HR0.out 0 p122 q122
                        obtain rfl : ad118 = ad122 := (by injection e122)
                        have qi122 : (0 < l0.length) = True := eq_true (by omega)
                        (try rw [show ((0 : Int)).toNat = 0 from rfl] at hx122_0)
                        (try rw [show 0 * 8 = 0 from rfl] at hx122_0)
                        (try rw [Addr.add_zero'] at hx122_0)
                        (try rw [show ((0 : Int)).toNat = 0 from rfl] at hx122_1)
                        (try rw [show 0 * 8 = 0 from rfl] at hx122_1)
                        (try rw [Addr.add_zero'] at hx122_1)
                        (try rw [show ((0 : Int)).toNat = 0 from rfl] at hx122_2)
                        (try rw [show 0 * 8 = 0 from rfl] at hx122_2)
                        (try rw [Addr.add_zero'] at hx122_2)
                        (try rw [show ((0 : Int)).toNat = 0 from rfl] at hx122_3)
                        (try rw [show 0 * 8 = 0 from rfl] at hx122_3)
                        (try rw [Addr.add_zero'] at hx122_3)
                        (try rw [show ((0 : Int)).toNat = 0 from rfl] at hx122_4)
                        (try rw [show 0 * 8 = 0 from rfl] at hx122_4)
                        (try rw [Addr.add_zero'] at hx122_4)
                        (try rw [show ((0 : Int)).toNat = 0 from rfl] at hx122_5)
                        (try rw [show 0 * 8 = 0 from rfl] at hx122_5)
                        (try rw [Addr.add_zero'] at hx122_5)
                        (try rw [show ((0 : Int)).toNat = 0 from rfl] at hx122_6)
                        (try rw [show 0 * 8 = 0 from rfl] at hx122_6)
                        (try rw [Addr.add_zero'] at hx122_6)
                        (try rw [show ((0 : Int)).toNat = 0 from rfl] at hx122_7)
                        (try rw [show 0 * 8 = 0 from rfl] at hx122_7)
                        (try rw [Addr.add_zero'] at hx122_7)
                        have HR122_3 := Aside0.mk hi122_3
                        have HC122_3 := Aside0.mk hl122_3
                        clear hi122_3 hl122_3
                        have HR122_7 := Aside0.mk hi122_7
                        have HC122_7 := Aside0.mk hl122_7
                        clear hi122_7 hl122_7
                        replace p122 := eq_true p122
                        replace q122 := eq_true q122
                        have ea_ := Option.some.inj (hx118_3.symm.trans hx122_3)
                        injection ea_ with ea_ en_ ec_
                        subst ea_
                        subst ec_
                        clear en_
                        have ea_ := Option.some.inj (hx118_7.symm.trans hx122_7)
                        injection ea_ with ea_ en_ ec_
                        subst ea_
                        subst ec_
                        clear en_
                        (try clear hx122_0)
                        (try clear hx122_1)
                        (try clear hx122_2)
                        (try clear hx122_3)
                        (try clear hx122_4)
                        (try clear hx122_5)
                        (try clear hx122_6)
                        (try clear hx122_7)
                        (try clear qi122)
                        have p123 : 0 ≤ (0 : Int) := (by omega)
                        have q123 : 0 < (l0.length : Int) := of_decide_eq_true (by first | (with_reducible assumption) | assumption)
                        obtain ⟨ad123, A123_3, c123_3, A123_7, c123_7, e123, hx123_0, hx123_1, hx123_2, hx123_3, hx123_4, hx123_5, hx123_6, hx123_7, hl123_3, hi123_3, hl123_7, hi123_7⟩ := at_T40 HR0.out 0 p123 q123
                        obtain rfl : ad118 = ad123 := (by injection e123)
                        have qi123 : (0 < l0.length) = True := eq_true (by omega)
                        (try rw [show ((0 : Int)).toNat = 0 from rfl] at hx123_0)
                        (try rw [show 0 * 8 = 0 from rfl] at hx123_0)
                        (try rw [Addr.add_zero'] at hx123_0)
                        (try rw [show ((0 : Int)).toNat = 0 from rfl] at hx123_1)
                        (try rw [show 0 * 8 = 0 from rfl] at hx123_1)
                        (try rw [Addr.add_zero'] at hx123_1)
                        (try rw [show ((0 : Int)).toNat = 0 from rfl] at hx123_2)
                        (try rw [show 0 * 8 = 0 from rfl] at hx123_2)
                        (try rw [Addr.add_zero'] at hx123_2)
                        (try rw [show ((0 : Int)).toNat = 0 from rfl] at hx123_3)
                        (try rw [show 0 * 8 = 0 from rfl] at hx123_3)
                        (try rw [Addr.add_zero'] at hx123_3)
                        (try rw [show ((0 : Int)).toNat = 0 from rfl] at hx123_4)
                        (try rw [show 0 * 8 = 0 from rfl] at hx123_4)
                        (try rw [Addr.add_zero'] at hx123_4)
                        (try rw [show ((0 : Int)).toNat = 0 from rfl] at hx123_5)
                        (try rw [show 0 * 8 = 0 from rfl] at hx123_5)
                        (try rw [Addr.add_zero'] at hx123_5)
                        (try rw [show ((0 : Int)).toNat = 0 from rfl] at hx123_6)
                        (try rw [show 0 * 8 = 0 from rfl] at hx123_6)
                        (try rw [Addr.add_zero'] at hx123_6)
                        (try rw [show ((0 : Int)).toNat = 0 from rfl] at hx123_7)
                        (try rw [show 0 * 8 = 0 from rfl] at hx123_7)
                        (try rw [Addr.add_zero'] at hx123_7)
                        have HR123_3 := Aside0.mk hi123_3
                        have HC123_3 := Aside0.mk hl123_3
                        clear hi123_3 hl123_3
                        have HR123_7 := Aside0.mk hi123_7
                        have HC123_7 := Aside0.mk hl123_7
                        clear hi123_7 hl123_7
                        replace p123 := eq_true p123
                        replace q123 := eq_true q123
                        have ea_ := Option.some.inj (hx118_3.symm.trans hx123_3)
                        injection ea_ with ea_ en_ ec_
                        subst ea_
                        subst ec_
                        clear en_
                        have ea_ := Option.some.inj (hx118_7.symm.trans hx123_7)
                        injection ea_ with ea_ en_ ec_
                        subst ea_
                        subst ec_
                        clear en_
                        (try clear hx123_0)
                        (try clear hx123_1)
                        (try clear hx123_2)
                        (try clear hx123_3)
                        (try clear hx123_4)
                        (try clear hx123_5)
                        (try clear hx123_6)
                        (try clear hx123_7)
                        (try clear qi123)
                        go_wp2
                        go_ret
                        exact ⟨by first | rfl | (simp; done) | (simp [*]; done) | (simp; generalize ByteArray.toList _ = zq_; cases zq_ <;> rfl), by repeat (first | exact Drawn0.refl _ | apply Drawn0.step)⟩
                      · rw [if_neg c21] at H
                        have c21b0 : (((rd_T40 l0 0).f0) == 4) = false := beq_eq_false_iff_ne.mpr c21
                        have c21b1 : (((rd_T40 l0 0).f0) != 4) = true := bne_iff_ne.mpr c21
                        obtain rfl := Option.some.inj H
                        have p118 : 0 ≤ (0 : Int) := (by omega)
                        have q118 : 0 < (l0.length : Int) := of_decide_eq_true (by first | (with_reducible assumption) | assumption)
                        obtain ⟨ad118, A118_3, c118_3, A118_7, c118_7, e118, hx118_0, hx118_1, hx118_2, hx118_3, hx118_4, hx118_5, hx118_6, hx118_7, hl118_3, hi118_3, hl118_7, hi118_7⟩ := at_T40 HR0.out 0 p118 q118
                        cases e118
                        have qi118 : (0 < l0.length) = True := eq_true (by omega)
                        (try rw [show ((0 : Int)).toNat = 0 from rfl] at hx118_0)
                        (try rw [show 0 * 8 = 0 from rfl] at hx118_0)
                        (try rw [Addr.add_zero'] at hx118_0)
                        (try rw [show ((0 : Int)).toNat = 0 from rfl] at hx118_1)
                        (try rw [show 0 * 8 = 0 from rfl] at hx118_1)
                        (try rw [Addr.add_zero'] at hx118_1)
                        (try rw [show ((0 : Int)).toNat = 0 from rfl] at hx118_2)
                        (try rw [show 0 * 8 = 0 from rfl] at hx118_2)
                        (try rw [Addr.add_zero'] at hx118_2)
                        (try rw [show ((0 : Int)).toNat = 0 from rfl] at hx118_3)
                        (try rw [show 0 * 8 = 0 from rfl] at hx118_3)
                        (try rw [Addr.add_zero'] at hx118_3)
                        (try rw [show ((0 : Int)).toNat = 0 from rfl] at hx118_4)
                        (try rw [show 0 * 8 = 0 from rfl] at hx118_4)
                        (try rw [Addr.add_zero'] at hx118_4)
                        (try rw [show ((0 : Int)).toNat = 0 from rfl] at hx118_5)
                        (try rw [show 0 * 8 = 0 from rfl] at hx118_5)
                        (try rw [Addr.add_zero'] at hx118_5)
                        (try rw [show ((0 : Int)).toNat = 0 from rfl] at hx118_6)
                        (try rw [show 0 * 8 = 0 from rfl] at hx118_6)
                        (try rw [Addr.add_zero'] at hx118_6)
                        (try rw [show ((0 : Int)).toNat = 0 from rfl] at hx118_7)
                        (try rw [show 0 * 8 = 0 from rfl] at hx118_7)
                        (try rw [Addr.add_zero'] at hx118_7)
                        have HR118_3 := Aside0.mk hi118_3
                        have HC118_3 := Aside0.mk hl118_3
                        clear hi118_3 hl118_3
                        have HR118_7 := Aside0.mk hi118_7
                        have HC118_7 := Aside0.mk hl118_7
                        clear hi118_7 hl118_7
                        replace p118 := eq_true p118
                        replace q118 := eq_true q118
                        (try clear hx104_0 hx104_1 hx104_2 hx104_3 hx104_4 hx104_5 hx104_6 hx104_7)
                        (try clear hx104_0 hx104_1 hx104_2 hx104_3 hx104_4 hx104_5 hx104_6 hx104_7)
                        (try clear hx104_0 hx104_1 hx104_2 hx104_3 hx104_4 hx104_5 hx104_6 hx104_7)
                        (try clear hx109_0 hx109_1 hx109_2 hx109_3 hx109_4 hx109_5 hx109_6 hx109_7)
                        (try clear hx109_0 hx109_1 hx109_2 hx109_3 hx109_4 hx109_5 hx109_6 hx109_7)
                        (try clear hx109_0 hx109_1 hx109_2 hx109_3 hx109_4 hx109_5 hx109_6 hx109_7)
                        (try clear hx109_0 hx109_1 hx109_2 hx109_3 hx109_4 hx109_5 hx109_6 hx109_7)
                        (try clear hx109_0 hx109_1 hx109_2 hx109_3 hx109_4 hx109_5 hx109_6 hx109_7)
                        have p120 : 0 ≤ (0 : Int) := (by omega)
                        have q120 : 0 < (l0.length : Int) := of_decide_eq_true (by first | (with_reducible assumption) | assumption)
                        obtain ⟨ad120, A120_3, c120_3, A120_7, c120_7, e120, hx120_0, hx120_1, hx120_2, hx120_3, hx120_4, hx120_5, hx120_6, hx120_7, hl120_3, hi120_3, hl120_7, hi120_7⟩ := at_T40 HR0.out 0 p120 q120
                        obtain rfl : ad118 = ad120 := (by injection e120)
                        have qi120 : (0 < l0.length) = True := eq_true (by omega)
                        (try rw [show ((0 : Int)).toNat = 0 from rfl] at hx120_0)
                        (try rw [show 0 * 8 = 0 from rfl] at hx120_0)
                        (try rw [Addr.add_zero'] at hx120_0)
                        (try rw [show ((0 : Int)).toNat = 0 from rfl] at hx120_1)
                        (try rw [show 0 * 8 = 0 from rfl] at hx120_1)
                        (try rw [Addr.add_zero'] at hx120_1)
                        (try rw [show ((0 : Int)).toNat = 0 from rfl] at hx120_2)
                        (try rw [show 0 * 8 = 0 from rfl] at hx120_2)
                        (try rw [Addr.add_zero'] at hx120_2)
                        (try rw [show ((0 : Int)).toNat = 0 from rfl] at hx120_3)
                        (try rw [show 0 * 8 = 0 from rfl] at hx120_3)
                        (try rw [Addr.add_zero'] at hx120_3)
                        (try rw [show ((0 : Int)).toNat = 0 from rfl] at hx120_4)
                        (try rw [show 0 * 8 = 0 from rfl] at hx120_4)
                        (try rw [Addr.add_zero'] at hx120_4)
                        (try rw [show ((0 : Int)).toNat = 0 from rfl] at hx120_5)
                        (try rw [show 0 * 8 = 0 from rfl] at hx120_5)
                        (try rw [Addr.add_zero'] at hx120_5)
                        (try rw [show ((0 : Int)).toNat = 0 from rfl] at hx120_6)
                        (try rw [show 0 * 8 = 0 from rfl] at hx120_6)
                        (try rw [Addr.add_zero'] at hx120_6)
                        (try rw [show ((0 : Int)).toNat = 0 from rfl] at hx120_7)
                        (try rw [show 0 * 8 = 0 from rfl] at hx120_7)
                        (try rw [Addr.add_zero'] at hx120_7)
                        have HR120_3 := Aside0.mk hi120_3
                        have HC120_3 := Aside0.mk hl120_3
                        clear hi120_3 hl120_3
                        have HR120_7 := Aside0.mk hi120_7
                        have HC120_7 := Aside0.mk hl120_7
                        clear hi120_7 hl120_7
                        replace p120 := eq_true p120
                        replace q120 := eq_true q120
                        have ea_ := Option.some.inj (hx118_3.symm.trans hx120_3)
                        injection ea_ with ea_ en_ ec_
                        subst ea_
                        subst ec_
                        clear en_
                        have ea_ := Option.some.inj (hx118_7.symm.trans hx120_7)
                        injection ea_ with ea_ en_ ec_
                        subst ea_
                        subst ec_
                        clear en_
                        (try clear hx120_0)
                        (try clear hx120_1)
                        (try clear hx120_2)
                        (try clear hx120_3)
                        (try clear hx120_4)
                        (try clear hx120_5)
                        (try clear hx120_6)
                        (try clear hx120_7)
                        (try clear qi120)
                        have p121 : 0 ≤ (0 : Int) := (by omega)
                        have q121 : 0 < (l0.length : Int) := of_decide_eq_true (by first | (with_reducible assumption) | assumption)
                        obtain ⟨ad121, A121_3, c121_3, A121_7, c121_7, e121, hx121_0, hx121_1, hx121_2, hx121_3, hx121_4, hx121_5, hx121_6, hx121_7, hl121_3, hi121_3, hl121_7, hi121_7⟩ := at_T40 HR0.out 0 p121 q121
                        obtain rfl : ad118 = ad121 := (by injection e121)
                        have qi121 : (0 < l0.length) = True := eq_true (by omega)
                        (try rw [show ((0 : Int)).toNat = 0 from rfl] at hx121_0)
                        (try rw [show 0 * 8 = 0 from rfl] at hx121_0)
                        (try rw [Addr.add_zero'] at hx121_0)
                        (try rw [show ((0 : Int)).toNat = 0 from rfl] at hx121_1)
                        (try rw [show 0 * 8 = 0 from rfl] at hx121_1)
                        (try rw [Addr.add_zero'] at hx121_1)
                        (try rw [show ((0 : Int)).toNat = 0 from rfl] at hx121_2)
                        (try rw [show 0 * 8 = 0 from rfl] at hx121_2)
                        (try rw [Addr.add_zero'] at hx121_2)
                        (try rw [show ((0 : Int)).toNat = 0 from rfl] at hx121_3)
                        (try rw [show 0 * 8 = 0 from rfl] at hx121_3)
                        (try rw [Addr.add_zero'] at hx121_3)
                        (try rw [show ((0 : Int)).toNat = 0 from rfl] at hx121_4)
                        (try rw [show 0 * 8 = 0 from rfl] at hx121_4)
                        (try rw [Addr.add_zero'] at hx121_4)
                        (try rw [show ((0 : Int)).toNat = 0 from rfl] at hx121_5)
                        (try rw [show 0 * 8 = 0 from rfl] at hx121_5)
                        (try rw [Addr.add_zero'] at hx121_5)
                        (try rw [show ((0 : Int)).toNat = 0 from rfl] at hx121_6)
                        (try rw [show 0 * 8 = 0 from rfl] at hx121_6)
                        (try rw [Addr.add_zero'] at hx121_6)
                        (try rw [show ((0 : Int)).toNat = 0 from rfl] at hx121_7)
                        (try rw [show 0 * 8 = 0 from rfl] at hx121_7)
                        (try rw [Addr.add_zero'] at hx121_7)
                        have HR121_3 := Aside0.mk hi121_3
                        have HC121_3 := Aside0.mk hl121_3
                        clear hi121_3 hl121_3
                        have HR121_7 := Aside0.mk hi121_7
                        have HC121_7 := Aside0.mk hl121_7
                        clear hi121_7 hl121_7
                        replace p121 := eq_true p121
                        replace q121 := eq_true q121
                        have ea_ := Option.some.inj (hx118_3.symm.trans hx121_3)
                        injection ea_ with ea_ en_ ec_
                        subst ea_
                        subst ec_
                        clear en_
                        have ea_ := Option.some.inj (hx118_7.symm.trans hx121_7)
                        injection ea_ with ea_ en_ ec_
                        subst ea_
                        subst ec_
                        clear en_
                        (try clear hx121_0)
                        (try clear hx121_1)
                        (try clear hx121_2)
                        (try clear hx121_3)
                        (try clear hx121_4)
                        (try clear hx121_5)
                        (try clear hx121_6)
                        (try clear hx121_7)
                        (try clear qi121)
                        have p122 : 0 ≤ (0 : Int) := (by omega)
                        have q122 : 0 < (l0.length : Int) := of_decide_eq_true (by first | (with_reducible assumption) | assumption)
                        obtain ⟨ad122, A122_3, c122_3, A122_7, c122_7, e122, hx122_0, hx122_1, hx122_2, hx122_3, hx122_4, hx122_5, hx122_6, hx122_7, hl122_3, hi122_3, hl122_7, hi122_7⟩ := at_T40 HR0.out 0 p122 q122
                        obtain rfl : ad118 = ad122 := (by injection e122)
                        have qi122 : (0 < l0.length) = True := eq_true (by omega)
                        (try rw [show ((0 : Int)).toNat = 0 from rfl] at hx122_0)
                        (try rw [show 0 * 8 = 0 from rfl] at hx122_0)
                        (try rw [Addr.add_zero'] at hx122_0)
                        (try rw [show ((0 : Int)).toNat = 0 from rfl] at hx122_1)
                        (try rw [show 0 * 8 = 0 from rfl] at hx122_1)
                        (try rw [Addr.add_zero'] at hx122_1)
                        (try rw [show ((0 : Int)).toNat = 0 from rfl] at hx122_2)
                        (try rw [show 0 * 8 = 0 from rfl] at hx122_2)
                        (try rw [Addr.add_zero'] at hx122_2)
                        (try rw [show ((0 : Int)).toNat = 0 from rfl] at hx122_3)
                        (try rw [show 0 * 8 = 0 from rfl] at hx122_3)
                        (try rw [Addr.add_zero'] at hx122_3)
                        (try rw [show ((0 : Int)).toNat = 0 from rfl] at hx122_4)
                        (try rw [show 0 * 8 = 0 from rfl] at hx122_4)
                        (try rw [Addr.add_zero'] at hx122_4)
                        (try rw [show ((0 : Int)).toNat = 0 from rfl] at hx122_5)
                        (try rw [show 0 * 8 = 0 from rfl] at hx122_5)
                        (try rw [Addr.add_zero'] at hx122_5)
                        (try rw [show ((0 : Int)).toNat = 0 from rfl] at hx122_6)
                        (try rw [show 0 * 8 = 0 from rfl] at hx122_6)
                        (try rw [Addr.add_zero'] at hx122_6)
                        (try rw [show ((0 : Int)).toNat = 0 from rfl] at hx122_7)
                        (try rw [show 0 * 8 = 0 from rfl] at hx122_7)
                        (try rw [Addr.add_zero'] at hx122_7)
                        have HR122_3 := Aside0.mk hi122_3
                        have HC122_3 := Aside0.mk hl122_3
                        clear hi122_3 hl122_3
                        have HR122_7 := Aside0.mk hi122_7
                        have HC122_7 := Aside0.mk hl122_7
                        clear hi122_7 hl122_7
                        replace p122 := eq_true p122
                        replace q122 := eq_true q122
                        have ea_ := Option.some.inj (hx118_3.symm.trans hx122_3)
                        injection ea_ with ea_ en_ ec_
                        subst ea_
                        subst ec_
                        clear en_
                        have ea_ := Option.some.inj (hx118_7.symm.trans hx122_7)
                        injection ea_ with ea_ en_ ec_
                        subst ea_
                        subst ec_
                        clear en_
                        (try clear hx122_0)
                        (try clear hx122_1)
                        (try clear hx122_2)
                        (try clear hx122_3)
                        (try clear hx122_4)
                        (try clear hx122_5)
                        (try clear hx122_6)
                        (try clear hx122_7)
                        (try clear qi122)
                        have p123 : 0 ≤ (0 : Int) := (by omega)
                        have q123 : 0 < (l0.length : Int) := of_decide_eq_true (by first | (with_reducible assumption) | assumption)
                        obtain ⟨ad123, A123_3, c123_3, A123_7, c123_7, e123, hx123_0, hx123_1, hx123_2, hx123_3, hx123_4, hx123_5, hx123_6, hx123_7, hl123_3, hi123_3, hl123_7, hi123_7⟩ := at_T40 HR0.out 0 p123 q123
                        obtain rfl : ad118 = ad123 := (by injection e123)
                        have qi123 : (0 < l0.length) = True := eq_true (by omega)
                        (try rw [show ((0 : Int)).toNat = 0 from rfl] at hx123_0)
                        (try rw [show 0 * 8 = 0 from rfl] at hx123_0)
                        (try rw [Addr.add_zero'] at hx123_0)
                        (try rw [show ((0 : Int)).toNat = 0 from rfl] at hx123_1)
                        (try rw [show 0 * 8 = 0 from rfl] at hx123_1)
                        (try rw [Addr.add_zero'] at hx123_1)
                        (try rw [show ((0 : Int)).toNat = 0 from rfl] at hx123_2)
                        (try rw [show 0 * 8 = 0 from rfl] at hx123_2)
                        (try rw [Addr.add_zero'] at hx123_2)
                        (try rw [show ((0 : Int)).toNat = 0 from rfl] at hx123_3)
                        (try rw [show 0 * 8 = 0 from rfl] at hx123_3)
                        (try rw [Addr.add_zero'] at hx123_3)
                        (try rw [show ((0 : Int)).toNat = 0 from rfl] at hx123_4)
                        (try rw [show 0 * 8 = 0 from rfl] at hx123_4)
                        (try rw [Addr.add_zero'] at hx123_4)
                        (try rw [show ((0 : Int)).toNat = 0 from rfl] at hx123_5)
                        (try rw [show 0 * 8 = 0 from rfl] at hx123_5)
                        (try rw [Addr.add_zero'] at hx123_5)
                        (try rw [show ((0 : Int)).toNat = 0 from rfl] at hx123_6)
                        (try rw [show 0 * 8 = 0 from rfl] at hx123_6)
                        (try rw [Addr.add_zero'] at hx123_6)
                        (try rw [show ((0 : Int)).toNat = 0 from rfl] at hx123_7)
                        (try rw [show 0 * 8 = 0 from rfl] at hx123_7)
                        (try rw [Addr.add_zero'] at hx123_7)
                        have HR123_3 := Aside0.mk hi123_3
                        have HC123_3 := Aside0.mk hl123_3
                        clear hi123_3 hl123_3
                        have HR123_7 := Aside0.mk hi123_7
                        have HC123_7 := Aside0.mk hl123_7
                        clear hi123_7 hl123_7
                        replace p123 := eq_true p123
                        replace q123 := eq_true q123
                        have ea_ := Option.some.inj (hx118_3.symm.trans hx123_3)
                        injection ea_ with ea_ en_ ec_
                        subst ea_
                        subst ec_
                        clear en_
                        have ea_ := Option.some.inj (hx118_7.symm.trans hx123_7)
                        injection ea_ with ea_ en_ ec_
                        subst ea_
                        subst ec_
                        clear en_
                        (try clear hx123_0)
                        (try clear hx123_1)
                        (try clear hx123_2)
                        (try clear hx123_3)
                        (try clear hx123_4)
                        (try clear hx123_5)
                        (try clear hx123_6)
                        (try clear hx123_7)
                        (try clear qi123)
                        have p124 : 0 ≤ (0 : Int) := (by omega)
                        have q124 : 0 < (l0.length : Int) := of_decide_eq_true (by first | (with_reducible assumption) | assumption)
                        obtain ⟨ad124, A124_3, c124_3, A124_7, c124_7, e124, hx124_0, hx124_1, hx124_2, hx124_3, hx124_4, hx124_5, hx124_6, hx124_7, hl124_3, hi124_3, hl124_7, hi124_7⟩ := at_T40 HR0.out 0 p124 q124
                        obtain rfl : ad118 = ad124 := (by injection e124)
                        have qi124 : (0 < l0.length) = True := eq_true (by omega)
                        (try rw [show ((0 : Int)).toNat = 0 from rfl] at hx124_0)
                        (try rw [show 0 * 8 = 0 from rfl] at hx124_0)
                        (try rw [Addr.add_zero'] at hx124_0)
                        (try rw [show ((0 : Int)).toNat = 0 from rfl] at hx124_1)
                        (try rw [show 0 * 8 = 0 from rfl] at hx124_1)
                        (try rw [Addr.add_zero'] at hx124_1)
                        (try rw [show ((0 : Int)).toNat = 0 from rfl] at hx124_2)
                        (try rw [show 0 * 8 = 0 from rfl] at hx124_2)
                        (try rw [Addr.add_zero'] at hx124_2)
                        (try rw [show ((0 : Int)).toNat = 0 from rfl] at hx124_3)
                        (try rw [show 0 * 8 = 0 from rfl] at hx124_3)
                        (try rw [Addr.add_zero'] at hx124_3)
                        (try rw [show ((0 : Int)).toNat = 0 from rfl] at hx124_4)
                        (try rw [show 0 * 8 = 0 from rfl] at hx124_4)
                        (try rw [Addr.add_zero'] at hx124_4)
                        (try rw [show ((0 : Int)).toNat = 0 from rfl] at hx124_5)
                        (try rw [show 0 * 8 = 0 from rfl] at hx124_5)
                        (try rw [Addr.add_zero'] at hx124_5)
                        (try rw [show ((0 : Int)).toNat = 0 from rfl] at hx124_6)
                        (try rw [show 0 * 8 = 0 from rfl] at hx124_6)
                        (try rw [Addr.add_zero'] at hx124_6)
                        (try rw [show ((0 : Int)).toNat = 0 from rfl] at hx124_7)
                        (try rw [show 0 * 8 = 0 from rfl] at hx124_7)
                        (try rw [Addr.add_zero'] at hx124_7)
                        have HR124_3 := Aside0.mk hi124_3
                        have HC124_3 := Aside0.mk hl124_3
                        clear hi124_3 hl124_3
                        have HR124_7 := Aside0.mk hi124_7
                        have HC124_7 := Aside0.mk hl124_7
                        clear hi124_7 hl124_7
                        replace p124 := eq_true p124
                        replace q124 := eq_true q124
                        have ea_ := Option.some.inj (hx118_3.symm.trans hx124_3)
                        injection ea_ with ea_ en_ ec_
                        subst ea_
                        subst ec_
                        clear en_
                        have ea_ := Option.some.inj (hx118_7.symm.trans hx124_7)
                        injection ea_ with ea_ en_ ec_
                        subst ea_
                        subst ec_
                        clear en_
                        (try clear hx124_0)
                        (try clear hx124_1)
                        (try clear hx124_2)
                        (try clear hx124_3)
                        (try clear hx124_4)
                        (try clear hx124_5)
                        (try clear hx124_6)
                        (try clear hx124_7)
                        (try clear qi124)
                        go_wp2
                        go_ret
                        exact ⟨by first | rfl | (simp; done) | (simp [*]; done) | (simp; generalize ByteArray.toList _ = zq_; cases zq_ <;> rfl), by repeat (first | exact Drawn0.refl _ | apply Drawn0.step)⟩
                  · rw [if_neg c19] at H
                    have c19b0 : (((rd_T40 l0 0).f6) == 0) = false := beq_eq_false_iff_ne.mpr c19
                    have c19b1 : (((rd_T40 l0 0).f6) != 0) = true := bne_iff_ne.mpr c19
                    obtain rfl := Option.some.inj H
                    have p118 : 0 ≤ (0 : Int) := (by omega)
                    have q118 : 0 < (l0.length : Int) := of_decide_eq_true (by first | (with_reducible assumption) | assumption)
                    obtain ⟨ad118, A118_3, c118_3, A118_7, c118_7, e118, hx118_0, hx118_1, hx118_2, hx118_3, hx118_4, hx118_5, hx118_6, hx118_7, hl118_3, hi118_3, hl118_7, hi118_7⟩ := at_T40 HR0.out 0 p118 q118
                    cases e118
                    have qi118 : (0 < l0.length) = True := eq_true (by omega)
                    (try rw [show ((0 : Int)).toNat = 0 from rfl] at hx118_0)
                    (try rw [show 0 * 8 = 0 from rfl] at hx118_0)
                    (try rw [Addr.add_zero'] at hx118_0)
                    (try rw [show ((0 : Int)).toNat = 0 from rfl] at hx118_1)
                    (try rw [show 0 * 8 = 0 from rfl] at hx118_1)
                    (try rw [Addr.add_zero'] at hx118_1)
                    (try rw [show ((0 : Int)).toNat = 0 from rfl] at hx118_2)
                    (try rw [show 0 * 8 = 0 from rfl] at hx118_2)
                    (try rw [Addr.add_zero'] at hx118_2)
                    (try rw [show ((0 : Int)).toNat = 0 from rfl] at hx118_3)
                    (try rw [show 0 * 8 = 0 from rfl] at hx118_3)
                    (try rw [Addr.add_zero'] at hx118_3)
                    (try rw [show ((0 : Int)).toNat = 0 from rfl] at hx118_4)
                    (try rw [show 0 * 8 = 0 from rfl] at hx118_4)
                    (try rw [Addr.add_zero'] at hx118_4)
                    (try rw [show ((0 : Int)).toNat = 0 from rfl] at hx118_5)
                    (try rw [show 0 * 8 = 0 from rfl] at hx118_5)
                    (try rw [Addr.add_zero'] at hx118_5)
                    (try rw [show ((0 : Int)).toNat = 0 from rfl] at hx118_6)
                    (try rw [show 0 * 8 = 0 from rfl] at hx118_6)
                    (try rw [Addr.add_zero'] at hx118_6)
                    (try rw [show ((0 : Int)).toNat = 0 from rfl] at hx118_7)
                    (try rw [show 0 * 8 = 0 from rfl] at hx118_7)
                    (try rw [Addr.add_zero'] at hx118_7)
                    have HR118_3 := Aside0.mk hi118_3
                    have HC118_3 := Aside0.mk hl118_3
                    clear hi118_3 hl118_3
                    have HR118_7 := Aside0.mk hi118_7
                    have HC118_7 := Aside0.mk hl118_7
                    clear hi118_7 hl118_7
                    replace p118 := eq_true p118
                    replace q118 := eq_true q118
                    (try clear hx104_0 hx104_1 hx104_2 hx104_3 hx104_4 hx104_5 hx104_6 hx104_7)
                    (try clear hx104_0 hx104_1 hx104_2 hx104_3 hx104_4 hx104_5 hx104_6 hx104_7)
                    (try clear hx104_0 hx104_1 hx104_2 hx104_3 hx104_4 hx104_5 hx104_6 hx104_7)
                    (try clear hx109_0 hx109_1 hx109_2 hx109_3 hx109_4 hx109_5 hx109_6 hx109_7)
                    (try clear hx109_0 hx109_1 hx109_2 hx109_3 hx109_4 hx109_5 hx109_6 hx109_7)
                    (try clear hx109_0 hx109_1 hx109_2 hx109_3 hx109_4 hx109_5 hx109_6 hx109_7)
                    (try clear hx109_0 hx109_1 hx109_2 hx109_3 hx109_4 hx109_5 hx109_6 hx109_7)
                    (try clear hx109_0 hx109_1 hx109_2 hx109_3 hx109_4 hx109_5 hx109_6 hx109_7)
                    have p120 : 0 ≤ (0 : Int) := (by omega)
                    have q120 : 0 < (l0.length : Int) := of_decide_eq_true (by first | (with_reducible assumption) | assumption)
                    obtain ⟨ad120, A120_3, c120_3, A120_7, c120_7, e120, hx120_0, hx120_1, hx120_2, hx120_3, hx120_4, hx120_5, hx120_6, hx120_7, hl120_3, hi120_3, hl120_7, hi120_7⟩ := at_T40 HR0.out 0 p120 q120
                    obtain rfl : ad118 = ad120 := (by injection e120)
                    have qi120 : (0 < l0.length) = True := eq_true (by omega)
                    (try rw [show ((0 : Int)).toNat = 0 from rfl] at hx120_0)
                    (try rw [show 0 * 8 = 0 from rfl] at hx120_0)
                    (try rw [Addr.add_zero'] at hx120_0)
                    (try rw [show ((0 : Int)).toNat = 0 from rfl] at hx120_1)
                    (try rw [show 0 * 8 = 0 from rfl] at hx120_1)
                    (try rw [Addr.add_zero'] at hx120_1)
                    (try rw [show ((0 : Int)).toNat = 0 from rfl] at hx120_2)
                    (try rw [show 0 * 8 = 0 from rfl] at hx120_2)
                    (try rw [Addr.add_zero'] at hx120_2)
                    (try rw [show ((0 : Int)).toNat = 0 from rfl] at hx120_3)
                    (try rw [show 0 * 8 = 0 from rfl] at hx120_3)
                    (try rw [Addr.add_zero'] at hx120_3)
                    (try rw [show ((0 : Int)).toNat = 0 from rfl] at hx120_4)
                    (try rw [show 0 * 8 = 0 from rfl] at hx120_4)
                    (try rw [Addr.add_zero'] at hx120_4)
                    (try rw [show ((0 : Int)).toNat = 0 from rfl] at hx120_5)
                    (try rw [show 0 * 8 = 0 from rfl] at hx120_5)
                    (try rw [Addr.add_zero'] at hx120_5)
                    (try rw [show ((0 : Int)).toNat = 0 from rfl] at hx120_6)
                    (try rw [show 0 * 8 = 0 from rfl] at hx120_6)
                    (try rw [Addr.add_zero'] at hx120_6)
                    (try rw [show ((0 : Int)).toNat = 0 from rfl] at hx120_7)
                    (try rw [show 0 * 8 = 0 from rfl] at hx120_7)
                    (try rw [Addr.add_zero'] at hx120_7)
                    have HR120_3 := Aside0.mk hi120_3
                    have HC120_3 := Aside0.mk hl120_3
                    clear hi120_3 hl120_3
                    have HR120_7 := Aside0.mk hi120_7
                    have HC120_7 := Aside0.mk hl120_7
                    clear hi120_7 hl120_7
                    replace p120 := eq_true p120
                    replace q120 := eq_true q120
                    have ea_ := Option.some.inj (hx118_3.symm.trans hx120_3)
                    injection ea_ with ea_ en_ ec_
                    subst ea_
                    subst ec_
                    clear en_
                    have ea_ := Option.some.inj (hx118_7.symm.trans hx120_7)
                    injection ea_ with ea_ en_ ec_
                    subst ea_
                    subst ec_
                    clear en_
                    (try clear hx120_0)
                    (try clear hx120_1)
                    (try clear hx120_2)
                    (try clear hx120_3)
                    (try clear hx120_4)
                    (try clear hx120_5)
                    (try clear hx120_6)
                    (try clear hx120_7)
                    (try clear qi120)
                    go_wp2
                    go_ret
                    exact ⟨by first | rfl | (simp; done) | (simp [*]; done) | (simp; generalize ByteArray.toList _ = zq_; cases zq_ <;> rfl), by repeat (first | exact Drawn0.refl _ | apply Drawn0.step)⟩
              · rw [if_neg c17] at H
                exact absurd H (by simp)

end Go.Proofs.Ytfbgfakdflifdaa.PFnExactOpFault

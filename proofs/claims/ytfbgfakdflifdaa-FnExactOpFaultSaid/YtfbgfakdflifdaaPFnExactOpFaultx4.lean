/- Functions of the program as Lean functions, each with the proof that its call comes to what that function says (texts written by a program of this session). Conditions: those that stand in each theorem. -/
import Derived.Test.YtfbgfakdflifdaaPFnExactOpFaultx0
import Derived.Test.YtfbgfakdflifdaaPFnExactOpFaultx1
import Derived.Test.YtfbgfakdflifdaaPFnExactOpFaultx2
import Derived.Test.YtfbgfakdflifdaaPFnExactOpFaultx3
namespace Go.Proofs.Ytfbgfakdflifdaa.PFnExactOpFault
open Go.RowKit Go.Proofs.YtfbgfakdflifdaaW.PrintWords Go.Proofs.YtfbgfakdflifdaaW.PrintLast Go.Proofs.YtfbgfakdflifdaaW.PrintMore
attribute [local go_sem] max2_int min2_int max_two min_two max_three min_three max_four min_four   -- for this text's walks alone
set_option linter.unusedVariables false
set_option linter.unusedSimpArgs false

/-! ### spec_l8Fault: function 82 -/
mutual
def spec_l8Fault.j0 : Nat → List (S40) → Bool → Option (Int)
  | 0, _, _ => none
  | k + 1, x0, x26 => if x26 = true then (some 5) else (if 0 < (x0.length : Int) then (if (((rd_T40 x0 0).f3).length : Int) > 6 then (some 2) else ((spec_l8Uids.f k ((rd_T40 x0 0).f3)).bind fun t139 => (if t139 = true then (if ((rd_T40 x0 0).f0) = 4 then ((spec_l1In.f ((rd_T40 x0 0).f4) 1 3).bind fun t142 => (if t142 = true then ((spec_l1In.f ((rd_T40 x0 0).f5) 0 15).bind fun t144 => (if t144 = true then ((spec_l1In.f ((rd_T40 x0 0).f6) 0 9999).bind fun t146 => (spec_l8Fault.j1 k x0 (!t146))) else (spec_l8Fault.j1 k x0 true))) else (spec_l8Fault.j1 k x0 true))) else ((spec_l1In.f ((rd_T40 x0 0).f5) 0 15).bind fun t148 => (if t148 = true then ((spec_l1In.f ((rd_T40 x0 0).f6) 0 9999).bind fun t150 => (spec_l8Fault.j1 k x0 (!t150))) else (spec_l8Fault.j1 k x0 true)))) else (spec_l8Fault.j1 k x0 true)))) else (none))
def spec_l8Fault.j1 : Nat → List (S40) → Bool → Option (Int)
  | 0, _, _ => none
  | k + 1, x0, x69 => if x69 = true then (some 3) else (if 0 < (x0.length : Int) then (if (((rd_T40 x0 0).f7).length : Int) > 400 then (some 2) else (some 0)) else (none))
end
def spec_l8Fault.f (k : Nat) (l0 : List (S40)) : Option (Int) := (spec_l8Form.f k l0).bind fun t130 => (if t130 = true then (if 0 < (l0.length : Int) then ((spec_l7Name.f k ((rd_T40 l0 0).f1)).bind fun t132 => (if t132 = true then ((spec_l8Copies.f ((rd_T40 l0 0).f0)).bind fun t134 => (if t134 = true then ((spec_l7Name.f k ((rd_T40 l0 0).f2)).bind fun t136 => (spec_l8Fault.j0 k l0 (!t136))) else (spec_l8Fault.j0 k l0 false))) else (spec_l8Fault.j0 k l0 true))) else (none)) else (some 1))
theorem spec_l8Fault.mono_l : ∀ k, (∀ y0 y1, LeO (spec_l8Fault.j0 k y0 y1) (spec_l8Fault.j0 (k + 1) y0 y1)) ∧ (∀ y0 y1, LeO (spec_l8Fault.j1 k y0 y1) (spec_l8Fault.j1 (k + 1) y0 y1))
  | 0 => ⟨fun _ _ r h => by simp [spec_l8Fault.j0] at h, fun _ _ r h => by simp [spec_l8Fault.j1] at h⟩
  | k + 1 => by
    obtain ⟨ih0, ih1⟩ := spec_l8Fault.mono_l k
    refine ⟨?_, ?_⟩
    · intro y0 y1
      unfold spec_l8Fault.j0
      repeat' first
      | (with_reducible exact ih0 _ _)
      | (with_reducible exact ih1 _ _)
      | (with_reducible exact spec_l7Name.mono _ _)
      | (with_reducible exact spec_l8Form.mono _ _)
      | (with_reducible exact spec_l8Uids.mono _ _)
      | (with_reducible exact LeO.refl _)
      | (with_reducible exact LeO.none _)
      | (with_reducible refine LeO.ite ?_ ?_)
      | (with_reducible refine LeO.bind ?_ (fun _ => ?_))
      | exact ih0 _ _
      | exact ih1 _ _
      | exact spec_l7Name.mono _ _
      | exact spec_l8Form.mono _ _
      | exact spec_l8Uids.mono _ _
      | exact LeO.none _
      | refine LeO.ite ?_ ?_
      | refine LeO.bind ?_ (fun _ => ?_)
    · intro y0 y1
      unfold spec_l8Fault.j1
      repeat' first
      | (with_reducible exact ih0 _ _)
      | (with_reducible exact ih1 _ _)
      | (with_reducible exact spec_l7Name.mono _ _)
      | (with_reducible exact spec_l8Form.mono _ _)
      | (with_reducible exact spec_l8Uids.mono _ _)
      | (with_reducible exact LeO.refl _)
      | (with_reducible exact LeO.none _)
      | (with_reducible refine LeO.ite ?_ ?_)
      | (with_reducible refine LeO.bind ?_ (fun _ => ?_))
      | exact ih0 _ _
      | exact ih1 _ _
      | exact spec_l7Name.mono _ _
      | exact spec_l8Form.mono _ _
      | exact spec_l8Uids.mono _ _
      | exact LeO.none _
      | refine LeO.ite ?_ ?_
      | refine LeO.bind ?_ (fun _ => ?_)
theorem spec_l8Fault.mono : ∀ a0 k, LeO (spec_l8Fault.f k a0) (spec_l8Fault.f (k + 1) a0) := by
  intro a0 k
  obtain ⟨ih0, ih1⟩ := spec_l8Fault.mono_l k
  unfold spec_l8Fault.f
  repeat' first
      | (with_reducible exact ih0 _ _)
      | (with_reducible exact ih1 _ _)
      | (with_reducible exact spec_l7Name.mono _ _)
      | (with_reducible exact spec_l8Form.mono _ _)
      | (with_reducible exact spec_l8Uids.mono _ _)
      | (with_reducible exact LeO.refl _)
      | (with_reducible exact LeO.none _)
      | (with_reducible refine LeO.ite ?_ ?_)
      | (with_reducible refine LeO.bind ?_ (fun _ => ?_))
      | exact ih0 _ _
      | exact ih1 _ _
      | exact spec_l7Name.mono _ _
      | exact spec_l8Form.mono _ _
      | exact spec_l8Uids.mono _ _
      | exact LeO.none _
      | refine LeO.ite ?_ ?_
      | refine LeO.bind ?_ (fun _ => ?_)
set_option maxHeartbeats 8000000 in
set_option maxRecDepth 100000 in
theorem spec_l8Fault.calls (k : Nat) (A0 : Option Addr) (c0 : Nat) (l0 : List (S40)) (r : Int) (w : World) (hr0 : Kd.C k40 w A0 l0.length l0) (hc0 : l0.length ≤ c0) (h : spec_l8Fault.f k l0 = some r) :
    Calls Try.prog 82 #[.pointer A0] w fun e w' => e = .returned (.int .i64 r) ∧ Drawn0 w w' := by
  have HR0 := Aside0.mk hr0
  have HC0 := Aside0.mk hc0
  clear hr0 hc0
  have H : ((spec_l8Form.f k l0).bind fun t130 => (if t130 = true then (if 0 < (l0.length : Int) then ((spec_l7Name.f k ((rd_T40 l0 0).f1)).bind fun t132 => (if t132 = true then ((spec_l8Copies.f ((rd_T40 l0 0).f0)).bind fun t134 => (if t134 = true then ((spec_l7Name.f k ((rd_T40 l0 0).f2)).bind fun t136 => (spec_l8Fault.j0 k l0 (!t136))) else (spec_l8Fault.j0 k l0 false))) else (spec_l8Fault.j0 k l0 true))) else (none)) else (some 1))) = some r := h
  clear h
  replace H := Option.bind_eq_some_iff.mp H
  obtain ⟨t130, A20, H⟩ := H
  replace H : (if t130 = true then (if 0 < (l0.length : Int) then ((spec_l7Name.f k ((rd_T40 l0 0).f1)).bind fun t132 => (if t132 = true then ((spec_l8Copies.f ((rd_T40 l0 0).f0)).bind fun t134 => (if t134 = true then ((spec_l7Name.f k ((rd_T40 l0 0).f2)).bind fun t136 => (spec_l8Fault.j0 k l0 (!t136))) else (spec_l8Fault.j0 k l0 false))) else (spec_l8Fault.j0 k l0 true))) else (none)) else (some 1)) = some r := H
  have A2 := Aside0.mk A20
  clear A20
  by_cases c3 : t130 = true
  · subst c3
    have H1 : (if 0 < (l0.length : Int) then ((spec_l7Name.f k ((rd_T40 l0 0).f1)).bind fun t132 => (if t132 = true then ((spec_l8Copies.f ((rd_T40 l0 0).f0)).bind fun t134 => (if t134 = true then ((spec_l7Name.f k ((rd_T40 l0 0).f2)).bind fun t136 => (spec_l8Fault.j0 k l0 (!t136))) else (spec_l8Fault.j0 k l0 false))) else (spec_l8Fault.j0 k l0 true))) else (none)) = some r := by rw [if_pos rfl] at H; exact H
    clear H
    have H := H1
    clear H1
    have HC4 := Aside0.mk H
    clear H
    go_enter Try.func82, Try.ntmps82
    go_upto_region 3 with (first | ((with_reducible refine gate_callee (f := 137) rfl ?_); refine goesL_ (some 4) rfl rfl Try.func137 (by kernel_rfl) rfl #[.pointer A0] rfl (by (try simp only [List.map_toArray, List.map_cons, List.map_nil]); first | done | rfl | (simp only [List.length_drop, List.length_take]; rfl)) ?_; (with_reducible refine (spec_l8Form.calls k _ (l0).length l0 true _ ?side1 ?side2 A2.out).mono ?_); (case side1 => repeat (first | exact HR0.out | (with_reducible refine Kd.C_alloc ?_ _) | (with_reducible refine Kd.C_drewN ?_ _) | (with_reducible refine Kd.C_drew ?_))); (case side2 => exact Nat.le_refl _); rintro e w' ⟨rfl, ⟨nd, rfl⟩⟩; refine ⟨_, rfl, ?_⟩))
    (try simp only [Act.put, List.setIfInBounds_toArray, List.set_cons_zero, List.set_cons_succ])
    go_cut [26] (fun v26 wc => ∃ (kq : Nat) (x26_3 : Bool), v26 = .bool x26_3 ∧ Aside0 (spec_l8Fault.j0 kq l0 x26_3 = some r) ∧ Aside0 (kq ≤ k) ∧ Drawn0 w wc)
    case first =>
      have H := HC4.out
      clear HC4
      by_cases c5 : 0 < (l0.length : Int)
      · rw [if_pos c5] at H
        have c5b0 : decide (0 < (l0.length : Int)) = true := decide_eq_true c5
        have c5b1 : decide (0 < l0.length) = true := decide_eq_true (by omega)
        clear c5
        (first | rw [c5b0] | (simp only [i64_w, i32_w]; rw [c5b0]) | skip)
        replace H := Option.bind_eq_some_iff.mp H
        obtain ⟨t132, A60, H⟩ := H
        replace H : (if t132 = true then ((spec_l8Copies.f ((rd_T40 l0 0).f0)).bind fun t134 => (if t134 = true then ((spec_l7Name.f k ((rd_T40 l0 0).f2)).bind fun t136 => (spec_l8Fault.j0 k l0 (!t136))) else (spec_l8Fault.j0 k l0 false))) else (spec_l8Fault.j0 k l0 true)) = some r := H
        have A6 := Aside0.mk A60
        clear A60
        by_cases c7 : t132 = true
        · subst c7
          have H1 : ((spec_l8Copies.f ((rd_T40 l0 0).f0)).bind fun t134 => (if t134 = true then ((spec_l7Name.f k ((rd_T40 l0 0).f2)).bind fun t136 => (spec_l8Fault.j0 k l0 (!t136))) else (spec_l8Fault.j0 k l0 false))) = some r := by rw [if_pos rfl] at H; exact H
          clear H
          have H := H1
          clear H1
          replace H := Option.bind_eq_some_iff.mp H
          obtain ⟨t134, A80, H⟩ := H
          replace H : (if t134 = true then ((spec_l7Name.f k ((rd_T40 l0 0).f2)).bind fun t136 => (spec_l8Fault.j0 k l0 (!t136))) else (spec_l8Fault.j0 k l0 false)) = some r := H
          have A8 := Aside0.mk A80
          clear A80
          by_cases c9 : t134 = true
          · subst c9
            have H1 : ((spec_l7Name.f k ((rd_T40 l0 0).f2)).bind fun t136 => (spec_l8Fault.j0 k l0 (!t136))) = some r := by rw [if_pos rfl] at H; exact H
            clear H
            have H := H1
            clear H1
            replace H := Option.bind_eq_some_iff.mp H
            obtain ⟨t136, A100, H⟩ := H
            replace H : (spec_l8Fault.j0 k l0 (!t136)) = some r := H
            have A10 := Aside0.mk A100
            clear A100
            have H' := Aside0.mk H
            clear H
            have p131 : 0 ≤ (0 : Int) := (by omega)
            have q131 : 0 < (l0.length : Int) := of_decide_eq_true (by first | (with_reducible assumption) | assumption)
            obtain ⟨ad131, A131_3, c131_3, A131_7, c131_7, e131, hx131_0, hx131_1, hx131_2, hx131_3, hx131_4, hx131_5, hx131_6, hx131_7, hl131_3, hi131_3, hl131_7, hi131_7⟩ := at_T40 HR0.out 0 p131 q131
            cases e131
            have qi131 : (0 < l0.length) = True := eq_true (by omega)
            (try rw [show ((0 : Int)).toNat = 0 from rfl] at hx131_0)
            (try rw [show 0 * 8 = 0 from rfl] at hx131_0)
            (try rw [Addr.add_zero'] at hx131_0)
            (try rw [show ((0 : Int)).toNat = 0 from rfl] at hx131_1)
            (try rw [show 0 * 8 = 0 from rfl] at hx131_1)
            (try rw [Addr.add_zero'] at hx131_1)
            (try rw [show ((0 : Int)).toNat = 0 from rfl] at hx131_2)
            (try rw [show 0 * 8 = 0 from rfl] at hx131_2)
            (try rw [Addr.add_zero'] at hx131_2)
            (try rw [show ((0 : Int)).toNat = 0 from rfl] at hx131_3)
            (try rw [show 0 * 8 = 0 from rfl] at hx131_3)
            (try rw [Addr.add_zero'] at hx131_3)
            (try rw [show ((0 : Int)).toNat = 0 from rfl] at hx131_4)
            (try rw [show 0 * 8 = 0 from rfl] at hx131_4)
            (try rw [Addr.add_zero'] at hx131_4)
            (try rw [show ((0 : Int)).toNat = 0 from rfl] at hx131_5)
            (try rw [show 0 * 8 = 0 from rfl] at hx131_5)
            (try rw [Addr.add_zero'] at hx131_5)
            (try rw [show ((0 : Int)).toNat = 0 from rfl] at hx131_6)
            (try rw [show 0 * 8 = 0 from rfl] at hx131_6)
            (try rw [Addr.add_zero'] at hx131_6)
            (try rw [show ((0 : Int)).toNat = 0 from rfl] at hx131_7)
            (try rw [show 0 * 8 = 0 from rfl] at hx131_7)
            (try rw [Addr.add_zero'] at hx131_7)
            have HR131_3 := Aside0.mk hi131_3
            have HC131_3 := Aside0.mk hl131_3
            clear hi131_3 hl131_3
            have HR131_7 := Aside0.mk hi131_7
            have HC131_7 := Aside0.mk hl131_7
            clear hi131_7 hl131_7
            replace p131 := eq_true p131
            replace q131 := eq_true q131
            go_wp2_with (first | ((with_reducible refine gate_callee (f := 138) rfl ?_); refine goesL_ (some 10) rfl rfl Try.func138 (by kernel_rfl) rfl #[.string ((rd_T40 l0 0).f1)] rfl (by (try simp only [List.map_toArray, List.map_cons, List.map_nil]); first | done | rfl | (simp only [List.length_drop, List.length_take]; rfl)) ?_; (with_reducible refine (spec_l7Name.calls k ((rd_T40 l0 0).f1) true _ A6.out).mono ?_); rintro e w' ⟨rfl, ⟨nd, rfl⟩⟩; refine ⟨_, rfl, ?_⟩; have p133 : 0 ≤ (0 : Int) := (by omega); have q133 : 0 < (l0.length : Int) := of_decide_eq_true (by first | (with_reducible assumption) | assumption); obtain ⟨ad133, A133_3, c133_3, A133_7, c133_7, e133, hx133_0, hx133_1, hx133_2, hx133_3, hx133_4, hx133_5, hx133_6, hx133_7, hl133_3, hi133_3, hl133_7, hi133_7⟩ := at_T40 HR0.out 0 p133 q133; obtain rfl : ad131 = ad133 := (by injection e133); have qi133 : (0 < l0.length) = True := eq_true (by omega); (try rw [show ((0 : Int)).toNat = 0 from rfl] at hx133_0); (try rw [show 0 * 8 = 0 from rfl] at hx133_0); (try rw [Addr.add_zero'] at hx133_0); (try rw [show ((0 : Int)).toNat = 0 from rfl] at hx133_1); (try rw [show 0 * 8 = 0 from rfl] at hx133_1); (try rw [Addr.add_zero'] at hx133_1); (try rw [show ((0 : Int)).toNat = 0 from rfl] at hx133_2); (try rw [show 0 * 8 = 0 from rfl] at hx133_2); (try rw [Addr.add_zero'] at hx133_2); (try rw [show ((0 : Int)).toNat = 0 from rfl] at hx133_3); (try rw [show 0 * 8 = 0 from rfl] at hx133_3); (try rw [Addr.add_zero'] at hx133_3); (try rw [show ((0 : Int)).toNat = 0 from rfl] at hx133_4); (try rw [show 0 * 8 = 0 from rfl] at hx133_4); (try rw [Addr.add_zero'] at hx133_4); (try rw [show ((0 : Int)).toNat = 0 from rfl] at hx133_5); (try rw [show 0 * 8 = 0 from rfl] at hx133_5); (try rw [Addr.add_zero'] at hx133_5); (try rw [show ((0 : Int)).toNat = 0 from rfl] at hx133_6); (try rw [show 0 * 8 = 0 from rfl] at hx133_6); (try rw [Addr.add_zero'] at hx133_6); (try rw [show ((0 : Int)).toNat = 0 from rfl] at hx133_7); (try rw [show 0 * 8 = 0 from rfl] at hx133_7); (try rw [Addr.add_zero'] at hx133_7); have HR133_3 := Aside0.mk hi133_3; have HC133_3 := Aside0.mk hl133_3; clear hi133_3 hl133_3; have HR133_7 := Aside0.mk hi133_7; have HC133_7 := Aside0.mk hl133_7; clear hi133_7 hl133_7; replace p133 := eq_true p133; replace q133 := eq_true q133; have ea_ := Option.some.inj (hx131_3.symm.trans hx133_3); injection ea_ with ea_ en_ ec_; subst ea_; subst ec_; clear en_; have ea_ := Option.some.inj (hx131_7.symm.trans hx133_7); injection ea_ with ea_ en_ ec_; subst ea_; subst ec_; clear en_; (try clear hx133_0); (try clear hx133_1); (try clear hx133_2); (try clear hx133_3); (try clear hx133_4); (try clear hx133_5); (try clear hx133_6); (try clear hx133_7); (try clear qi133)) | (go_at_call 139; (with_reducible refine (spec_l8Copies.calls ((rd_T40 l0 0).f0) true _ A8.out).mono ?_); rintro e w' ⟨rfl, ⟨nd, rfl⟩⟩; have p135 : 0 ≤ (0 : Int) := (by omega); have q135 : 0 < (l0.length : Int) := of_decide_eq_true (by first | (with_reducible assumption) | assumption); obtain ⟨ad135, A135_3, c135_3, A135_7, c135_7, e135, hx135_0, hx135_1, hx135_2, hx135_3, hx135_4, hx135_5, hx135_6, hx135_7, hl135_3, hi135_3, hl135_7, hi135_7⟩ := at_T40 HR0.out 0 p135 q135; obtain rfl : ad131 = ad135 := (by injection e135); have qi135 : (0 < l0.length) = True := eq_true (by omega); (try rw [show ((0 : Int)).toNat = 0 from rfl] at hx135_0); (try rw [show 0 * 8 = 0 from rfl] at hx135_0); (try rw [Addr.add_zero'] at hx135_0); (try rw [show ((0 : Int)).toNat = 0 from rfl] at hx135_1); (try rw [show 0 * 8 = 0 from rfl] at hx135_1); (try rw [Addr.add_zero'] at hx135_1); (try rw [show ((0 : Int)).toNat = 0 from rfl] at hx135_2); (try rw [show 0 * 8 = 0 from rfl] at hx135_2); (try rw [Addr.add_zero'] at hx135_2); (try rw [show ((0 : Int)).toNat = 0 from rfl] at hx135_3); (try rw [show 0 * 8 = 0 from rfl] at hx135_3); (try rw [Addr.add_zero'] at hx135_3); (try rw [show ((0 : Int)).toNat = 0 from rfl] at hx135_4); (try rw [show 0 * 8 = 0 from rfl] at hx135_4); (try rw [Addr.add_zero'] at hx135_4); (try rw [show ((0 : Int)).toNat = 0 from rfl] at hx135_5); (try rw [show 0 * 8 = 0 from rfl] at hx135_5); (try rw [Addr.add_zero'] at hx135_5); (try rw [show ((0 : Int)).toNat = 0 from rfl] at hx135_6); (try rw [show 0 * 8 = 0 from rfl] at hx135_6); (try rw [Addr.add_zero'] at hx135_6); (try rw [show ((0 : Int)).toNat = 0 from rfl] at hx135_7); (try rw [show 0 * 8 = 0 from rfl] at hx135_7); (try rw [Addr.add_zero'] at hx135_7); have HR135_3 := Aside0.mk hi135_3; have HC135_3 := Aside0.mk hl135_3; clear hi135_3 hl135_3; have HR135_7 := Aside0.mk hi135_7; have HC135_7 := Aside0.mk hl135_7; clear hi135_7 hl135_7; replace p135 := eq_true p135; replace q135 := eq_true q135; have ea_ := Option.some.inj (hx131_3.symm.trans hx135_3); injection ea_ with ea_ en_ ec_; subst ea_; subst ec_; clear en_; have ea_ := Option.some.inj (hx131_7.symm.trans hx135_7); injection ea_ with ea_ en_ ec_; subst ea_; subst ec_; clear en_; (try clear hx135_0); (try clear hx135_1); (try clear hx135_2); (try clear hx135_3); (try clear hx135_4); (try clear hx135_5); (try clear hx135_6); (try clear hx135_7); (try clear qi135)) | (go_at_call 138; (with_reducible refine (spec_l7Name.calls k ((rd_T40 l0 0).f2) t136 _ A10.out).mono ?_); rintro e w' ⟨rfl, ⟨nd, rfl⟩⟩))
            go_meet
            case rel => exact ⟨_, (!t136), (by first | rfl | (simp; done) | (simp [*]; done) | (simp; generalize ByteArray.toList _ = zq_; cases zq_ <;> rfl)), H', ⟨by first | omega | exact Nat.le_refl _⟩, by repeat (first | exact Drawn0.refl _ | apply Drawn0.step)⟩
          · replace c9 := Bool.eq_false_iff.mpr c9
            subst c9
            have H1 : (spec_l8Fault.j0 k l0 false) = some r := by rw [if_neg (show ¬ (false = true) by decide)] at H; exact H
            clear H
            have H := H1
            clear H1
            have H' := Aside0.mk H
            clear H
            have p131 : 0 ≤ (0 : Int) := (by omega)
            have q131 : 0 < (l0.length : Int) := of_decide_eq_true (by first | (with_reducible assumption) | assumption)
            obtain ⟨ad131, A131_3, c131_3, A131_7, c131_7, e131, hx131_0, hx131_1, hx131_2, hx131_3, hx131_4, hx131_5, hx131_6, hx131_7, hl131_3, hi131_3, hl131_7, hi131_7⟩ := at_T40 HR0.out 0 p131 q131
            cases e131
            have qi131 : (0 < l0.length) = True := eq_true (by omega)
            (try rw [show ((0 : Int)).toNat = 0 from rfl] at hx131_0)
            (try rw [show 0 * 8 = 0 from rfl] at hx131_0)
            (try rw [Addr.add_zero'] at hx131_0)
            (try rw [show ((0 : Int)).toNat = 0 from rfl] at hx131_1)
            (try rw [show 0 * 8 = 0 from rfl] at hx131_1)
            (try rw [Addr.add_zero'] at hx131_1)
            (try rw [show ((0 : Int)).toNat = 0 from rfl] at hx131_2)
            (try rw [show 0 * 8 = 0 from rfl] at hx131_2)
            (try rw [Addr.add_zero'] at hx131_2)
            (try rw [show ((0 : Int)).toNat = 0 from rfl] at hx131_3)
            (try rw [show 0 * 8 = 0 from rfl] at hx131_3)
            (try rw [Addr.add_zero'] at hx131_3)
            (try rw [show ((0 : Int)).toNat = 0 from rfl] at hx131_4)
            (try rw [show 0 * 8 = 0 from rfl] at hx131_4)
            (try rw [Addr.add_zero'] at hx131_4)
            (try rw [show ((0 : Int)).toNat = 0 from rfl] at hx131_5)
            (try rw [show 0 * 8 = 0 from rfl] at hx131_5)
            (try rw [Addr.add_zero'] at hx131_5)
            (try rw [show ((0 : Int)).toNat = 0 from rfl] at hx131_6)
            (try rw [show 0 * 8 = 0 from rfl] at hx131_6)
            (try rw [Addr.add_zero'] at hx131_6)
            (try rw [show ((0 : Int)).toNat = 0 from rfl] at hx131_7)
            (try rw [show 0 * 8 = 0 from rfl] at hx131_7)
            (try rw [Addr.add_zero'] at hx131_7)
            have HR131_3 := Aside0.mk hi131_3
            have HC131_3 := Aside0.mk hl131_3
            clear hi131_3 hl131_3
            have HR131_7 := Aside0.mk hi131_7
            have HC131_7 := Aside0.mk hl131_7
            clear hi131_7 hl131_7
            replace p131 := eq_true p131
            replace q131 := eq_true q131
            go_wp2_with (first | ((with_reducible refine gate_callee (f := 138) rfl ?_); refine goesL_ (some 10) rfl rfl Try.func138 (by kernel_rfl) rfl #[.string ((rd_T40 l0 0).f1)] rfl (by (try simp only [List.map_toArray, List.map_cons, List.map_nil]); first | done | rfl | (simp only [List.length_drop, List.length_take]; rfl)) ?_; (with_reducible refine (spec_l7Name.calls k ((rd_T40 l0 0).f1) true _ A6.out).mono ?_); rintro e w' ⟨rfl, ⟨nd, rfl⟩⟩; refine ⟨_, rfl, ?_⟩; have p133 : 0 ≤ (0 : Int) := (by omega); have q133 : 0 < (l0.length : Int) := of_decide_eq_true (by first | (with_reducible assumption) | assumption); obtain ⟨ad133, A133_3, c133_3, A133_7, c133_7, e133, hx133_0, hx133_1, hx133_2, hx133_3, hx133_4, hx133_5, hx133_6, hx133_7, hl133_3, hi133_3, hl133_7, hi133_7⟩ := at_T40 HR0.out 0 p133 q133; obtain rfl : ad131 = ad133 := (by injection e133); have qi133 : (0 < l0.length) = True := eq_true (by omega); (try rw [show ((0 : Int)).toNat = 0 from rfl] at hx133_0); (try rw [show 0 * 8 = 0 from rfl] at hx133_0); (try rw [Addr.add_zero'] at hx133_0); (try rw [show ((0 : Int)).toNat = 0 from rfl] at hx133_1); (try rw [show 0 * 8 = 0 from rfl] at hx133_1); (try rw [Addr.add_zero'] at hx133_1); (try rw [show ((0 : Int)).toNat = 0 from rfl] at hx133_2); (try rw [show 0 * 8 = 0 from rfl] at hx133_2); (try rw [Addr.add_zero'] at hx133_2); (try rw [show ((0 : Int)).toNat = 0 from rfl] at hx133_3); (try rw [show 0 * 8 = 0 from rfl] at hx133_3); (try rw [Addr.add_zero'] at hx133_3); (try rw [show ((0 : Int)).toNat = 0 from rfl] at hx133_4); (try rw [show 0 * 8 = 0 from rfl] at hx133_4); (try rw [Addr.add_zero'] at hx133_4); (try rw [show ((0 : Int)).toNat = 0 from rfl] at hx133_5); (try rw [show 0 * 8 = 0 from rfl] at hx133_5); (try rw [Addr.add_zero'] at hx133_5); (try rw [show ((0 : Int)).toNat = 0 from rfl] at hx133_6); (try rw [show 0 * 8 = 0 from rfl] at hx133_6); (try rw [Addr.add_zero'] at hx133_6); (try rw [show ((0 : Int)).toNat = 0 from rfl] at hx133_7); (try rw [show 0 * 8 = 0 from rfl] at hx133_7); (try rw [Addr.add_zero'] at hx133_7); have HR133_3 := Aside0.mk hi133_3; have HC133_3 := Aside0.mk hl133_3; clear hi133_3 hl133_3; have HR133_7 := Aside0.mk hi133_7; have HC133_7 := Aside0.mk hl133_7; clear hi133_7 hl133_7; replace p133 := eq_true p133; replace q133 := eq_true q133; have ea_ := Option.some.inj (hx131_3.symm.trans hx133_3); injection ea_ with ea_ en_ ec_; subst ea_; subst ec_; clear en_; have ea_ := Option.some.inj (hx131_7.symm.trans hx133_7); injection ea_ with ea_ en_ ec_; subst ea_; subst ec_; clear en_; (try clear hx133_0); (try clear hx133_1); (try clear hx133_2); (try clear hx133_3); (try clear hx133_4); (try clear hx133_5); (try clear hx133_6); (try clear hx133_7); (try clear qi133)) | (go_at_call 139; (with_reducible refine (spec_l8Copies.calls ((rd_T40 l0 0).f0) false _ A8.out).mono ?_); rintro e w' ⟨rfl, ⟨nd, rfl⟩⟩))
            go_meet
            case rel => exact ⟨_, (false), (by first | rfl | (simp; done) | (simp [*]; done) | (simp; generalize ByteArray.toList _ = zq_; cases zq_ <;> rfl)), H', ⟨by first | omega | exact Nat.le_refl _⟩, by repeat (first | exact Drawn0.refl _ | apply Drawn0.step)⟩
        · replace c7 := Bool.eq_false_iff.mpr c7
          subst c7
          have H1 : (spec_l8Fault.j0 k l0 true) = some r := by rw [if_neg (show ¬ (false = true) by decide)] at H; exact H
          clear H
          have H := H1
          clear H1
          have H' := Aside0.mk H
          clear H
          have p131 : 0 ≤ (0 : Int) := (by omega)
          have q131 : 0 < (l0.length : Int) := of_decide_eq_true (by first | (with_reducible assumption) | assumption)
          obtain ⟨ad131, A131_3, c131_3, A131_7, c131_7, e131, hx131_0, hx131_1, hx131_2, hx131_3, hx131_4, hx131_5, hx131_6, hx131_7, hl131_3, hi131_3, hl131_7, hi131_7⟩ := at_T40 HR0.out 0 p131 q131
          cases e131
          have qi131 : (0 < l0.length) = True := eq_true (by omega)
          (try rw [show ((0 : Int)).toNat = 0 from rfl] at hx131_0)
          (try rw [show 0 * 8 = 0 from rfl] at hx131_0)
          (try rw [Addr.add_zero'] at hx131_0)
          (try rw [show ((0 : Int)).toNat = 0 from rfl] at hx131_1)
          (try rw [show 0 * 8 = 0 from rfl] at hx131_1)
          (try rw [Addr.add_zero'] at hx131_1)
          (try rw [show ((0 : Int)).toNat = 0 from rfl] at hx131_2)
          (try rw [show 0 * 8 = 0 from rfl] at hx131_2)
          (try rw [Addr.add_zero'] at hx131_2)
          (try rw [show ((0 : Int)).toNat = 0 from rfl] at hx131_3)
          (try rw [show 0 * 8 = 0 from rfl] at hx131_3)
          (try rw [Addr.add_zero'] at hx131_3)
          (try rw [show ((0 : Int)).toNat = 0 from rfl] at hx131_4)
          (try rw [show 0 * 8 = 0 from rfl] at hx131_4)
          (try rw [Addr.add_zero'] at hx131_4)
          (try rw [show ((0 : Int)).toNat = 0 from rfl] at hx131_5)
          (try rw [show 0 * 8 = 0 from rfl] at hx131_5)
          (try rw [Addr.add_zero'] at hx131_5)
          (try rw [show ((0 : Int)).toNat = 0 from rfl] at hx131_6)
          (try rw [show 0 * 8 = 0 from rfl] at hx131_6)
          (try rw [Addr.add_zero'] at hx131_6)
          (try rw [show ((0 : Int)).toNat = 0 from rfl] at hx131_7)
          (try rw [show 0 * 8 = 0 from rfl] at hx131_7)
          (try rw [Addr.add_zero'] at hx131_7)
          have HR131_3 := Aside0.mk hi131_3
          have HC131_3 := Aside0.mk hl131_3
          clear hi131_3 hl131_3
          have HR131_7 := Aside0.mk hi131_7
          have HC131_7 := Aside0.mk hl131_7
          clear hi131_7 hl131_7
          replace p131 := eq_true p131
          replace q131 := eq_true q131
          go_wp2_with (first | ((with_reducible refine gate_callee (f := 138) rfl ?_); refine goesL_ (some 10) rfl rfl Try.func138 (by kernel_rfl) rfl #[.string ((rd_T40 l0 0).f1)] rfl (by (try simp only [List.map_toArray, List.map_cons, List.map_nil]); first | done | rfl | (simp only [List.length_drop, List.length_take]; rfl)) ?_; (with_reducible refine (spec_l7Name.calls k ((rd_T40 l0 0).f1) false _ A6.out).mono ?_); rintro e w' ⟨rfl, ⟨nd, rfl⟩⟩; refine ⟨_, rfl, ?_⟩))
          go_meet
          case rel => exact ⟨_, (true), (by first | rfl | (simp; done) | (simp [*]; done) | (simp; generalize ByteArray.toList _ = zq_; cases zq_ <;> rfl)), H', ⟨by first | omega | exact Nat.le_refl _⟩, by repeat (first | exact Drawn0.refl _ | apply Drawn0.step)⟩
      · rw [if_neg c5] at H
        exact absurd H (by simp)
    case rest =>
      clear HC4
      try clear c1
      try clear p1
      try clear q1
      try clear hx1
      try clear qi1
      try clear p2
      try clear c3
      try clear c5
      try clear c5b0
      try clear c5b1
      try clear c7
      try clear c8
      try clear c9
      try clear hx131_0
      try clear hx131_1
      try clear hx131_2
      try clear hx131_3
      try clear hx131_4
      try clear hx131_5
      try clear hx131_6
      try clear hx131_7
      try clear hx133_0
      try clear hx133_1
      try clear hx133_2
      try clear hx133_3
      try clear hx133_4
      try clear hx133_5
      try clear hx133_6
      try clear hx133_7
      try clear hx135_0
      try clear hx135_1
      try clear hx135_2
      try clear hx135_3
      try clear hx135_4
      try clear hx135_5
      try clear hx135_6
      try clear hx135_7
      try clear p131
      try clear p133
      try clear p135
      try clear q131
      try clear q133
      try clear q135
      obtain ⟨kq, x26_3, rfl, HA, HJ3, ⟨mc3, rfl⟩⟩ := hcut
      cases kq with
      | zero => exact absurd HA.out (by simp [spec_l8Fault.j0])
      | succ kj3 =>
        have H := HA.out
        clear HA
        simp only [spec_l8Fault.j0] at H
        by_cases c11 : x26_3 = true
        · subst c11
          have H1 : (some 5) = some r := by rw [if_pos rfl] at H; exact H
          clear H
          have H := H1
          clear H1
          obtain rfl := Option.some.inj H
          go_wp2
          go_ret
          exact ⟨by first | rfl | (simp; done) | (simp [*]; done) | (simp; generalize ByteArray.toList _ = zq_; cases zq_ <;> rfl), by repeat (first | exact Drawn0.refl _ | apply Drawn0.step)⟩
        · replace c11 := Bool.eq_false_iff.mpr c11
          subst c11
          have H1 : (if 0 < (l0.length : Int) then (if (((rd_T40 l0 0).f3).length : Int) > 6 then (some 2) else ((spec_l8Uids.f kj3 ((rd_T40 l0 0).f3)).bind fun t139 => (if t139 = true then (if ((rd_T40 l0 0).f0) = 4 then ((spec_l1In.f ((rd_T40 l0 0).f4) 1 3).bind fun t142 => (if t142 = true then ((spec_l1In.f ((rd_T40 l0 0).f5) 0 15).bind fun t144 => (if t144 = true then ((spec_l1In.f ((rd_T40 l0 0).f6) 0 9999).bind fun t146 => (spec_l8Fault.j1 kj3 l0 (!t146))) else (spec_l8Fault.j1 kj3 l0 true))) else (spec_l8Fault.j1 kj3 l0 true))) else ((spec_l1In.f ((rd_T40 l0 0).f5) 0 15).bind fun t148 => (if t148 = true then ((spec_l1In.f ((rd_T40 l0 0).f6) 0 9999).bind fun t150 => (spec_l8Fault.j1 kj3 l0 (!t150))) else (spec_l8Fault.j1 kj3 l0 true)))) else (spec_l8Fault.j1 kj3 l0 true)))) else (none)) = some r := by rw [if_neg (show ¬ (false = true) by decide)] at H; exact H
          clear H
          have H := H1
          clear H1
          by_cases c12 : 0 < (l0.length : Int)
          · rw [if_pos c12] at H
            have c12b0 : decide (0 < (l0.length : Int)) = true := decide_eq_true c12
            have c12b1 : decide (0 < l0.length) = true := decide_eq_true (by omega)
            clear c12
            by_cases c13 : (((rd_T40 l0 0).f3).length : Int) > 6
            · rw [if_pos c13] at H
              have c13b0 : decide (6 < (((rd_T40 l0 0).f3).length : Int)) = true := decide_eq_true c13
              have c13b1 : decide (6 < ((rd_T40 l0 0).f3).length) = true := decide_eq_true (by omega)
              clear c13
              obtain rfl := Option.some.inj H
              have p137 : 0 ≤ (0 : Int) := (by omega)
              have q137 : 0 < (l0.length : Int) := of_decide_eq_true (by first | (with_reducible assumption) | assumption)
              obtain ⟨ad137, A137_3, c137_3, A137_7, c137_7, e137, hx137_0, hx137_1, hx137_2, hx137_3, hx137_4, hx137_5, hx137_6, hx137_7, hl137_3, hi137_3, hl137_7, hi137_7⟩ := at_T40 HR0.out 0 p137 q137
              cases e137
              have qi137 : (0 < l0.length) = True := eq_true (by omega)
              (try rw [show ((0 : Int)).toNat = 0 from rfl] at hx137_0)
              (try rw [show 0 * 8 = 0 from rfl] at hx137_0)
              (try rw [Addr.add_zero'] at hx137_0)
              (try rw [show ((0 : Int)).toNat = 0 from rfl] at hx137_1)
              (try rw [show 0 * 8 = 0 from rfl] at hx137_1)
              (try rw [Addr.add_zero'] at hx137_1)
              (try rw [show ((0 : Int)).toNat = 0 from rfl] at hx137_2)
              (try rw [show 0 * 8 = 0 from rfl] at hx137_2)
              (try rw [Addr.add_zero'] at hx137_2)
              (try rw [show ((0 : Int)).toNat = 0 from rfl] at hx137_3)
              (try rw [show 0 * 8 = 0 from rfl] at hx137_3)
              (try rw [Addr.add_zero'] at hx137_3)
              (try rw [show ((0 : Int)).toNat = 0 from rfl] at hx137_4)
              (try rw [show 0 * 8 = 0 from rfl] at hx137_4)
              (try rw [Addr.add_zero'] at hx137_4)
              (try rw [show ((0 : Int)).toNat = 0 from rfl] at hx137_5)
              (try rw [show 0 * 8 = 0 from rfl] at hx137_5)
              (try rw [Addr.add_zero'] at hx137_5)
              (try rw [show ((0 : Int)).toNat = 0 from rfl] at hx137_6)
              (try rw [show 0 * 8 = 0 from rfl] at hx137_6)
              (try rw [Addr.add_zero'] at hx137_6)
              (try rw [show ((0 : Int)).toNat = 0 from rfl] at hx137_7)
              (try rw [show 0 * 8 = 0 from rfl] at hx137_7)
              (try rw [Addr.add_zero'] at hx137_7)
              have HR137_3 := Aside0.mk hi137_3
              have HC137_3 := Aside0.mk hl137_3
              clear hi137_3 hl137_3
              have HR137_7 := Aside0.mk hi137_7
              have HC137_7 := Aside0.mk hl137_7
              clear hi137_7 hl137_7
              replace p137 := eq_true p137
              replace q137 := eq_true q137
              (try clear hx131_0 hx131_1 hx131_2 hx131_3 hx131_4 hx131_5 hx131_6 hx131_7)
              (try clear hx131_0 hx131_1 hx131_2 hx131_3 hx131_4 hx131_5 hx131_6 hx131_7)
              (try clear hx131_0 hx131_1 hx131_2 hx131_3 hx131_4 hx131_5 hx131_6 hx131_7)
              go_wp2
              go_ret
              exact ⟨by first | rfl | (simp; done) | (simp [*]; done) | (simp; generalize ByteArray.toList _ = zq_; cases zq_ <;> rfl), by repeat (first | exact Drawn0.refl _ | apply Drawn0.step)⟩
            · rw [if_neg c13] at H
              have c13b0 : decide (6 < (((rd_T40 l0 0).f3).length : Int)) = false := decide_eq_false c13
              have c13b1 : decide (6 < ((rd_T40 l0 0).f3).length) = false := decide_eq_false (by omega)
              clear c13
              have HC14 := Aside0.mk H
              clear H
              have p137 : 0 ≤ (0 : Int) := (by omega)
              have q137 : 0 < (l0.length : Int) := of_decide_eq_true (by first | (with_reducible assumption) | assumption)
              obtain ⟨ad137, A137_3, c137_3, A137_7, c137_7, e137, hx137_0, hx137_1, hx137_2, hx137_3, hx137_4, hx137_5, hx137_6, hx137_7, hl137_3, hi137_3, hl137_7, hi137_7⟩ := at_T40 HR0.out 0 p137 q137
              cases e137
              have qi137 : (0 < l0.length) = True := eq_true (by omega)
              (try rw [show ((0 : Int)).toNat = 0 from rfl] at hx137_0)
              (try rw [show 0 * 8 = 0 from rfl] at hx137_0)
              (try rw [Addr.add_zero'] at hx137_0)
              (try rw [show ((0 : Int)).toNat = 0 from rfl] at hx137_1)
              (try rw [show 0 * 8 = 0 from rfl] at hx137_1)
              (try rw [Addr.add_zero'] at hx137_1)
              (try rw [show ((0 : Int)).toNat = 0 from rfl] at hx137_2)
              (try rw [show 0 * 8 = 0 from rfl] at hx137_2)
              (try rw [Addr.add_zero'] at hx137_2)
              (try rw [show ((0 : Int)).toNat = 0 from rfl] at hx137_3)
              (try rw [show 0 * 8 = 0 from rfl] at hx137_3)
              (try rw [Addr.add_zero'] at hx137_3)
              (try rw [show ((0 : Int)).toNat = 0 from rfl] at hx137_4)
              (try rw [show 0 * 8 = 0 from rfl] at hx137_4)
              (try rw [Addr.add_zero'] at hx137_4)
              (try rw [show ((0 : Int)).toNat = 0 from rfl] at hx137_5)
              (try rw [show 0 * 8 = 0 from rfl] at hx137_5)
              (try rw [Addr.add_zero'] at hx137_5)
              (try rw [show ((0 : Int)).toNat = 0 from rfl] at hx137_6)
              (try rw [show 0 * 8 = 0 from rfl] at hx137_6)
              (try rw [Addr.add_zero'] at hx137_6)
              (try rw [show ((0 : Int)).toNat = 0 from rfl] at hx137_7)
              (try rw [show 0 * 8 = 0 from rfl] at hx137_7)
              (try rw [Addr.add_zero'] at hx137_7)
              have HR137_3 := Aside0.mk hi137_3
              have HC137_3 := Aside0.mk hl137_3
              clear hi137_3 hl137_3
              have HR137_7 := Aside0.mk hi137_7
              have HC137_7 := Aside0.mk hl137_7
              clear hi137_7 hl137_7
              replace p137 := eq_true p137
              replace q137 := eq_true q137
              (try clear hx131_0 hx131_1 hx131_2 hx131_3 hx131_4 hx131_5 hx131_6 hx131_7)
              (try clear hx131_0 hx131_1 hx131_2 hx131_3 hx131_4 hx131_5 hx131_6 hx131_7)
              (try clear hx131_0 hx131_1 hx131_2 hx131_3 hx131_4 hx131_5 hx131_6 hx131_7)
              go_upto_region 7 with (fail)
              go_cut [69] (fun v69 wc => ∃ (kq : Nat) (x69_13 : Bool), v69 = .bool x69_13 ∧ Aside0 (spec_l8Fault.j1 kq l0 x69_13 = some r) ∧ Aside0 (kq ≤ kj3) ∧ Drawn0 w wc)
              case first =>
                have H := HC14.out
                clear HC14
                replace H := Option.bind_eq_some_iff.mp H
                obtain ⟨t139, A150, H⟩ := H
                replace H : (if t139 = true then (if ((rd_T40 l0 0).f0) = 4 then ((spec_l1In.f ((rd_T40 l0 0).f4) 1 3).bind fun t142 => (if t142 = true then ((spec_l1In.f ((rd_T40 l0 0).f5) 0 15).bind fun t144 => (if t144 = true then ((spec_l1In.f ((rd_T40 l0 0).f6) 0 9999).bind fun t146 => (spec_l8Fault.j1 kj3 l0 (!t146))) else (spec_l8Fault.j1 kj3 l0 true))) else (spec_l8Fault.j1 kj3 l0 true))) else ((spec_l1In.f ((rd_T40 l0 0).f5) 0 15).bind fun t148 => (if t148 = true then ((spec_l1In.f ((rd_T40 l0 0).f6) 0 9999).bind fun t150 => (spec_l8Fault.j1 kj3 l0 (!t150))) else (spec_l8Fault.j1 kj3 l0 true)))) else (spec_l8Fault.j1 kj3 l0 true)) = some r := H
                have A15 := Aside0.mk A150
                clear A150
                by_cases c16 : t139 = true
                · subst c16
                  have H1 : (if ((rd_T40 l0 0).f0) = 4 then ((spec_l1In.f ((rd_T40 l0 0).f4) 1 3).bind fun t142 => (if t142 = true then ((spec_l1In.f ((rd_T40 l0 0).f5) 0 15).bind fun t144 => (if t144 = true then ((spec_l1In.f ((rd_T40 l0 0).f6) 0 9999).bind fun t146 => (spec_l8Fault.j1 kj3 l0 (!t146))) else (spec_l8Fault.j1 kj3 l0 true))) else (spec_l8Fault.j1 kj3 l0 true))) else ((spec_l1In.f ((rd_T40 l0 0).f5) 0 15).bind fun t148 => (if t148 = true then ((spec_l1In.f ((rd_T40 l0 0).f6) 0 9999).bind fun t150 => (spec_l8Fault.j1 kj3 l0 (!t150))) else (spec_l8Fault.j1 kj3 l0 true)))) = some r := by rw [if_pos rfl] at H; exact H
                  clear H
                  have H := H1
                  clear H1
                  by_cases c17 : ((rd_T40 l0 0).f0) = 4
                  · rw [if_pos c17] at H
                    have c17b0 : (((rd_T40 l0 0).f0) == 4) = true := beq_iff_eq.mpr c17
                    have c17b1 : (((rd_T40 l0 0).f0) != 4) = false := bne_eq_false_iff_eq.mpr c17
                    clear c17
                    (first | rw [c17b0] | (simp only [i64_w, i32_w]; rw [c17b0]) | skip)
                    replace H := Option.bind_eq_some_iff.mp H
                    obtain ⟨t142, A180, H⟩ := H
                    replace H : (if t142 = true then ((spec_l1In.f ((rd_T40 l0 0).f5) 0 15).bind fun t144 => (if t144 = true then ((spec_l1In.f ((rd_T40 l0 0).f6) 0 9999).bind fun t146 => (spec_l8Fault.j1 kj3 l0 (!t146))) else (spec_l8Fault.j1 kj3 l0 true))) else (spec_l8Fault.j1 kj3 l0 true)) = some r := H
                    have A18 := Aside0.mk A180
                    clear A180
                    by_cases c19 : t142 = true
                    · subst c19
                      have H1 : ((spec_l1In.f ((rd_T40 l0 0).f5) 0 15).bind fun t144 => (if t144 = true then ((spec_l1In.f ((rd_T40 l0 0).f6) 0 9999).bind fun t146 => (spec_l8Fault.j1 kj3 l0 (!t146))) else (spec_l8Fault.j1 kj3 l0 true))) = some r := by rw [if_pos rfl] at H; exact H
                      clear H
                      have H := H1
                      clear H1
                      replace H := Option.bind_eq_some_iff.mp H
                      obtain ⟨t144, A200, H⟩ := H
                      replace H : (if t144 = true then ((spec_l1In.f ((rd_T40 l0 0).f6) 0 9999).bind fun t146 => (spec_l8Fault.j1 kj3 l0 (!t146))) else (spec_l8Fault.j1 kj3 l0 true)) = some r := H
                      have A20 := Aside0.mk A200
                      clear A200
                      by_cases c21 : t144 = true
                      · subst c21
                        have H1 : ((spec_l1In.f ((rd_T40 l0 0).f6) 0 9999).bind fun t146 => (spec_l8Fault.j1 kj3 l0 (!t146))) = some r := by rw [if_pos rfl] at H; exact H
                        clear H
                        have H := H1
                        clear H1
                        replace H := Option.bind_eq_some_iff.mp H
                        obtain ⟨t146, A220, H⟩ := H
                        replace H : (spec_l8Fault.j1 kj3 l0 (!t146)) = some r := H
                        have A22 := Aside0.mk A220
                        clear A220
                        have H' := Aside0.mk H
                        clear H
                        have p138 : 0 ≤ (0 : Int) := (by omega)
                        have q138 : 0 < (l0.length : Int) := of_decide_eq_true (by first | (with_reducible assumption) | assumption)
                        obtain ⟨ad138, A138_3, c138_3, A138_7, c138_7, e138, hx138_0, hx138_1, hx138_2, hx138_3, hx138_4, hx138_5, hx138_6, hx138_7, hl138_3, hi138_3, hl138_7, hi138_7⟩ := at_T40 HR0.out 0 p138 q138
                        obtain rfl : ad137 = ad138 := (by injection e138)
                        have qi138 : (0 < l0.length) = True := eq_true (by omega)
                        (try rw [show ((0 : Int)).toNat = 0 from rfl] at hx138_0)
                        (try rw [show 0 * 8 = 0 from rfl] at hx138_0)
                        (try rw [Addr.add_zero'] at hx138_0)
                        (try rw [show ((0 : Int)).toNat = 0 from rfl] at hx138_1)
                        (try rw [show 0 * 8 = 0 from rfl] at hx138_1)
                        (try rw [Addr.add_zero'] at hx138_1)
                        (try rw [show ((0 : Int)).toNat = 0 from rfl] at hx138_2)
                        (try rw [show 0 * 8 = 0 from rfl] at hx138_2)
                        (try rw [Addr.add_zero'] at hx138_2)
                        (try rw [show ((0 : Int)).toNat = 0 from rfl] at hx138_3)
                        (try rw [show 0 * 8 = 0 from rfl] at hx138_3)
                        (try rw [Addr.add_zero'] at hx138_3)
                        (try rw [show ((0 : Int)).toNat = 0 from rfl] at hx138_4)
                        (try rw [show 0 * 8 = 0 from rfl] at hx138_4)
                        (try rw [Addr.add_zero'] at hx138_4)
                        (try rw [show ((0 : Int)).toNat = 0 from rfl] at hx138_5)
                        (try rw [show 0 * 8 = 0 from rfl] at hx138_5)
                        (try rw [Addr.add_zero'] at hx138_5)
                        (try rw [show ((0 : Int)).toNat = 0 from rfl] at hx138_6)
                        (try rw [show 0 * 8 = 0 from rfl] at hx138_6)
                        (try rw [Addr.add_zero'] at hx138_6)
                        (try rw [show ((0 : Int)).toNat = 0 from rfl] at hx138_7)
                        (try rw [show 0 * 8 = 0 from rfl] at hx138_7)
                        (try rw [Addr.add_zero'] at hx138_7)
                        have HR138_3 := Aside0.mk hi138_3
                        have HC138_3 := Aside0.mk hl138_3
                        clear hi138_3 hl138_3
                        have HR138_7 := Aside0.mk hi138_7
                        have HC138_7 := Aside0.mk hl138_7
                        clear hi138_7 hl138_7
                        replace p138 := eq_true p138
                        replace q138 := eq_true q138
                        (try clear hx131_0 hx131_1 hx131_2 hx131_3 hx131_4 hx131_5 hx131_6 hx131_7)
                        (try clear hx131_0 hx131_1 hx131_2 hx131_3 hx131_4 hx131_5 hx131_6 hx131_7)
                        (try clear hx131_0 hx131_1 hx131_2 hx131_3 hx131_4 hx131_5 hx131_6 hx131_7)
                        (try clear hx137_0 hx137_1 hx137_2 hx137_3 hx137_4 hx137_5 hx137_6 hx137_7)
                        (try clear hx137_0 hx137_1 hx137_2 hx137_3 hx137_4 hx137_5 hx137_6 hx137_7)
                        go_wp2_with (first | ((with_reducible refine gate_callee (f := 140) rfl ?_); refine goesL_ (some 37) rfl rfl Try.func140 (by kernel_rfl) rfl #[.slice A138_3 ((rd_T40 l0 0).f3).length c138_3] rfl (by (try simp only [List.map_toArray, List.map_cons, List.map_nil]); first | done | rfl | (simp only [List.length_drop, List.length_take]; rfl)) ?_; (with_reducible refine (spec_l8Uids.calls kj3 _ _ ((rd_T40 l0 0).f3) true _ ?side1 ?side2 A15.out).mono ?_); (case side1 => repeat (first | exact HR138_3.out | (with_reducible refine Kd.C_alloc ?_ _) | (with_reducible refine Kd.C_drewN ?_ _) | (with_reducible refine Kd.C_drew ?_))); (case side2 => exact HC138_3.out); rintro e w' ⟨rfl, ⟨nd, rfl⟩⟩; refine ⟨_, rfl, ?_⟩; have p140 : 0 ≤ (0 : Int) := (by omega); have q140 : 0 < (l0.length : Int) := of_decide_eq_true (by first | (with_reducible assumption) | assumption); obtain ⟨ad140, A140_3, c140_3, A140_7, c140_7, e140, hx140_0, hx140_1, hx140_2, hx140_3, hx140_4, hx140_5, hx140_6, hx140_7, hl140_3, hi140_3, hl140_7, hi140_7⟩ := at_T40 HR0.out 0 p140 q140; obtain rfl : ad137 = ad140 := (by injection e140); have qi140 : (0 < l0.length) = True := eq_true (by omega); (try rw [show ((0 : Int)).toNat = 0 from rfl] at hx140_0); (try rw [show 0 * 8 = 0 from rfl] at hx140_0); (try rw [Addr.add_zero'] at hx140_0); (try rw [show ((0 : Int)).toNat = 0 from rfl] at hx140_1); (try rw [show 0 * 8 = 0 from rfl] at hx140_1); (try rw [Addr.add_zero'] at hx140_1); (try rw [show ((0 : Int)).toNat = 0 from rfl] at hx140_2); (try rw [show 0 * 8 = 0 from rfl] at hx140_2); (try rw [Addr.add_zero'] at hx140_2); (try rw [show ((0 : Int)).toNat = 0 from rfl] at hx140_3); (try rw [show 0 * 8 = 0 from rfl] at hx140_3); (try rw [Addr.add_zero'] at hx140_3); (try rw [show ((0 : Int)).toNat = 0 from rfl] at hx140_4); (try rw [show 0 * 8 = 0 from rfl] at hx140_4); (try rw [Addr.add_zero'] at hx140_4); (try rw [show ((0 : Int)).toNat = 0 from rfl] at hx140_5); (try rw [show 0 * 8 = 0 from rfl] at hx140_5); (try rw [Addr.add_zero'] at hx140_5); (try rw [show ((0 : Int)).toNat = 0 from rfl] at hx140_6); (try rw [show 0 * 8 = 0 from rfl] at hx140_6); (try rw [Addr.add_zero'] at hx140_6); (try rw [show ((0 : Int)).toNat = 0 from rfl] at hx140_7); (try rw [show 0 * 8 = 0 from rfl] at hx140_7); (try rw [Addr.add_zero'] at hx140_7); have HR140_3 := Aside0.mk hi140_3; have HC140_3 := Aside0.mk hl140_3; clear hi140_3 hl140_3; have HR140_7 := Aside0.mk hi140_7; have HC140_7 := Aside0.mk hl140_7; clear hi140_7 hl140_7; replace p140 := eq_true p140; replace q140 := eq_true q140; have ea_ := Option.some.inj (hx138_3.symm.trans hx140_3); injection ea_ with ea_ en_ ec_; subst ea_; subst ec_; clear en_; have ea_ := Option.some.inj (hx138_7.symm.trans hx140_7); injection ea_ with ea_ en_ ec_; subst ea_; subst ec_; clear en_; (try clear hx140_0); (try clear hx140_1); (try clear hx140_2); (try clear hx140_3); (try clear hx140_4); (try clear hx140_5); (try clear hx140_6); (try clear hx140_7); (try clear qi140); have p141 : 0 ≤ (0 : Int) := (by omega); have q141 : 0 < (l0.length : Int) := of_decide_eq_true (by first | (with_reducible assumption) | assumption); obtain ⟨ad141, A141_3, c141_3, A141_7, c141_7, e141, hx141_0, hx141_1, hx141_2, hx141_3, hx141_4, hx141_5, hx141_6, hx141_7, hl141_3, hi141_3, hl141_7, hi141_7⟩ := at_T40 HR0.out 0 p141 q141; obtain rfl : ad137 = ad141 := (by injection e141); have qi141 : (0 < l0.length) = True := eq_true (by omega); (try rw [show ((0 : Int)).toNat = 0 from rfl] at hx141_0); (try rw [show 0 * 8 = 0 from rfl] at hx141_0); (try rw [Addr.add_zero'] at hx141_0); (try rw [show ((0 : Int)).toNat = 0 from rfl] at hx141_1); (try rw [show 0 * 8 = 0 from rfl] at hx141_1); (try rw [Addr.add_zero'] at hx141_1); (try rw [show ((0 : Int)).toNat = 0 from rfl] at hx141_2); (try rw [show 0 * 8 = 0 from rfl] at hx141_2); (try rw [Addr.add_zero'] at hx141_2); (try rw [show ((0 : Int)).toNat = 0 from rfl] at hx141_3); (try rw [show 0 * 8 = 0 from rfl] at hx141_3); (try rw [Addr.add_zero'] at hx141_3); (try rw [show ((0 : Int)).toNat = 0 from rfl] at hx141_4); (try rw [show 0 * 8 = 0 from rfl] at hx141_4); (try rw [Addr.add_zero'] at hx141_4); (try rw [show ((0 : Int)).toNat = 0 from rfl] at hx141_5); (try rw [show 0 * 8 = 0 from rfl] at hx141_5); (try rw [Addr.add_zero'] at hx141_5); (try rw [show ((0 : Int)).toNat = 0 from rfl] at hx141_6); (try rw [show 0 * 8 = 0 from rfl] at hx141_6); (try rw [Addr.add_zero'] at hx141_6); (try rw [show ((0 : Int)).toNat = 0 from rfl] at hx141_7); (try rw [show 0 * 8 = 0 from rfl] at hx141_7); (try rw [Addr.add_zero'] at hx141_7); have HR141_3 := Aside0.mk hi141_3; have HC141_3 := Aside0.mk hl141_3; clear hi141_3 hl141_3; have HR141_7 := Aside0.mk hi141_7; have HC141_7 := Aside0.mk hl141_7; clear hi141_7 hl141_7; replace p141 := eq_true p141; replace q141 := eq_true q141; have ea_ := Option.some.inj (hx138_3.symm.trans hx141_3); injection ea_ with ea_ en_ ec_; subst ea_; subst ec_; clear en_; have ea_ := Option.some.inj (hx138_7.symm.trans hx141_7); injection ea_ with ea_ en_ ec_; subst ea_; subst ec_; clear en_; (try clear hx141_0); (try clear hx141_1); (try clear hx141_2); (try clear hx141_3); (try clear hx141_4); (try clear hx141_5); (try clear hx141_6); (try clear hx141_7); (try clear qi141)) | (go_at_call 141; (with_reducible refine (spec_l1In.calls ((rd_T40 l0 0).f4) 1 3 true _ A18.out).mono ?_); rintro e w' ⟨rfl, ⟨nd, rfl⟩⟩; have p143 : 0 ≤ (0 : Int) := (by omega); have q143 : 0 < (l0.length : Int) := of_decide_eq_true (by first | (with_reducible assumption) | assumption); obtain ⟨ad143, A143_3, c143_3, A143_7, c143_7, e143, hx143_0, hx143_1, hx143_2, hx143_3, hx143_4, hx143_5, hx143_6, hx143_7, hl143_3, hi143_3, hl143_7, hi143_7⟩ := at_T40 HR0.out 0 p143 q143; obtain rfl : ad137 = ad143 := (by injection e143); have qi143 : (0 < l0.length) = True := eq_true (by omega); (try rw [show ((0 : Int)).toNat = 0 from rfl] at hx143_0); (try rw [show 0 * 8 = 0 from rfl] at hx143_0); (try rw [Addr.add_zero'] at hx143_0); (try rw [show ((0 : Int)).toNat = 0 from rfl] at hx143_1); (try rw [show 0 * 8 = 0 from rfl] at hx143_1); (try rw [Addr.add_zero'] at hx143_1); (try rw [show ((0 : Int)).toNat = 0 from rfl] at hx143_2); (try rw [show 0 * 8 = 0 from rfl] at hx143_2); (try rw [Addr.add_zero'] at hx143_2); (try rw [show ((0 : Int)).toNat = 0 from rfl] at hx143_3); (try rw [show 0 * 8 = 0 from rfl] at hx143_3); (try rw [Addr.add_zero'] at hx143_3); (try rw [show ((0 : Int)).toNat = 0 from rfl] at hx143_4); (try rw [show 0 * 8 = 0 from rfl] at hx143_4); (try rw [Addr.add_zero'] at hx143_4); (try rw [show ((0 : Int)).toNat = 0 from rfl] at hx143_5); (try rw [show 0 * 8 = 0 from rfl] at hx143_5); (try rw [Addr.add_zero'] at hx143_5); (try rw [show ((0 : Int)).toNat = 0 from rfl] at hx143_6); (try rw [show 0 * 8 = 0 from rfl] at hx143_6); (try rw [Addr.add_zero'] at hx143_6); (try rw [show ((0 : Int)).toNat = 0 from rfl] at hx143_7); (try rw [show 0 * 8 = 0 from rfl] at hx143_7); (try rw [Addr.add_zero'] at hx143_7); have HR143_3 := Aside0.mk hi143_3; have HC143_3 := Aside0.mk hl143_3; clear hi143_3 hl143_3; have HR143_7 := Aside0.mk hi143_7; have HC143_7 := Aside0.mk hl143_7; clear hi143_7 hl143_7; replace p143 := eq_true p143; replace q143 := eq_true q143; have ea_ := Option.some.inj (hx138_3.symm.trans hx143_3); injection ea_ with ea_ en_ ec_; subst ea_; subst ec_; clear en_; have ea_ := Option.some.inj (hx138_7.symm.trans hx143_7); injection ea_ with ea_ en_ ec_; subst ea_; subst ec_; clear en_; (try clear hx143_0); (try clear hx143_1); (try clear hx143_2); (try clear hx143_3); (try clear hx143_4); (try clear hx143_5); (try clear hx143_6); (try clear hx143_7); (try clear qi143)) | (go_at_call 141; (with_reducible refine (spec_l1In.calls ((rd_T40 l0 0).f5) 0 15 true _ A20.out).mono ?_); rintro e w' ⟨rfl, ⟨nd, rfl⟩⟩; have p145 : 0 ≤ (0 : Int) := (by omega); have q145 : 0 < (l0.length : Int) := of_decide_eq_true (by first | (with_reducible assumption) | assumption); obtain ⟨ad145, A145_3, c145_3, A145_7, c145_7, e145, hx145_0, hx145_1, hx145_2, hx145_3, hx145_4, hx145_5, hx145_6, hx145_7, hl145_3, hi145_3, hl145_7, hi145_7⟩ := at_T40 HR0.out 0 p145 q145; obtain rfl : ad137 = ad145 := (by injection e145); have qi145 : (0 < l0.length) = True := eq_true (by omega); (try rw [show ((0 : Int)).toNat = 0 from rfl] at hx145_0); (try rw [show 0 * 8 = 0 from rfl] at hx145_0); (try rw [Addr.add_zero'] at hx145_0); (try rw [show ((0 : Int)).toNat = 0 from rfl] at hx145_1); (try rw [show 0 * 8 = 0 from rfl] at hx145_1); (try rw [Addr.add_zero'] at hx145_1); (try rw [show ((0 : Int)).toNat = 0 from rfl] at hx145_2); (try rw [show 0 * 8 = 0 from rfl] at hx145_2); (try rw [Addr.add_zero'] at hx145_2); (try rw [show ((0 : Int)).toNat = 0 from rfl] at hx145_3); (try rw [show 0 * 8 = 0 from rfl] at hx145_3); (try rw [Addr.add_zero'] at hx145_3); (try rw [show ((0 : Int)).toNat = 0 from rfl] at hx145_4); (try rw [show 0 * 8 = 0 from rfl] at hx145_4); (try rw [Addr.add_zero'] at hx145_4); (try rw [show ((0 : Int)).toNat = 0 from rfl] at hx145_5); (try rw [show 0 * 8 = 0 from rfl] at hx145_5); (try rw [Addr.add_zero'] at hx145_5); (try rw [show ((0 : Int)).toNat = 0 from rfl] at hx145_6); (try rw [show 0 * 8 = 0 from rfl] at hx145_6); (try rw [Addr.add_zero'] at hx145_6); (try rw [show ((0 : Int)).toNat = 0 from rfl] at hx145_7); (try rw [show 0 * 8 = 0 from rfl] at hx145_7); (try rw [Addr.add_zero'] at hx145_7); have HR145_3 := Aside0.mk hi145_3; have HC145_3 := Aside0.mk hl145_3; clear hi145_3 hl145_3; have HR145_7 := Aside0.mk hi145_7; have HC145_7 := Aside0.mk hl145_7; clear hi145_7 hl145_7; replace p145 := eq_true p145; replace q145 := eq_true q145; have ea_ := Option.some.inj (hx138_3.symm.trans hx145_3); injection ea_ with ea_ en_ ec_; subst ea_; subst ec_; clear en_; have ea_ := Option.some.inj (hx138_7.symm.trans hx145_7); injection ea_ with ea_ en_ ec_; subst ea_; subst ec_; clear en_; (try clear hx145_0); (try clear hx145_1); (try clear hx145_2); (try clear hx145_3); (try clear hx145_4); (try clear hx145_5); (try clear hx145_6); (try clear hx145_7); (try clear qi145)) | (go_at_call 141; (with_reducible refine (spec_l1In.calls ((rd_T40 l0 0).f6) 0 9999 t146 _ A22.out).mono ?_); rintro e w' ⟨rfl, ⟨nd, rfl⟩⟩))
                        go_meet
                        case rel => exact ⟨_, (!t146), (by first | rfl | (simp; done) | (simp [*]; done) | (simp; generalize ByteArray.toList _ = zq_; cases zq_ <;> rfl)), H', ⟨by have := HJ3.out; first | omega | exact Nat.le_refl _⟩, by repeat (first | exact Drawn0.refl _ | apply Drawn0.step)⟩
                      · replace c21 := Bool.eq_false_iff.mpr c21
                        subst c21
                        have H1 : (spec_l8Fault.j1 kj3 l0 true) = some r := by rw [if_neg (show ¬ (false = true) by decide)] at H; exact H
                        clear H
                        have H := H1
                        clear H1
                        have H' := Aside0.mk H
                        clear H
                        have p138 : 0 ≤ (0 : Int) := (by omega)
                        have q138 : 0 < (l0.length : Int) := of_decide_eq_true (by first | (with_reducible assumption) | assumption)
                        obtain ⟨ad138, A138_3, c138_3, A138_7, c138_7, e138, hx138_0, hx138_1, hx138_2, hx138_3, hx138_4, hx138_5, hx138_6, hx138_7, hl138_3, hi138_3, hl138_7, hi138_7⟩ := at_T40 HR0.out 0 p138 q138
                        obtain rfl : ad137 = ad138 := (by injection e138)
                        have qi138 : (0 < l0.length) = True := eq_true (by omega)
                        (try rw [show ((0 : Int)).toNat = 0 from rfl] at hx138_0)
                        (try rw [show 0 * 8 = 0 from rfl] at hx138_0)
                        (try rw [Addr.add_zero'] at hx138_0)
                        (try rw [show ((0 : Int)).toNat = 0 from rfl] at hx138_1)
                        (try rw [show 0 * 8 = 0 from rfl] at hx138_1)
                        (try rw [Addr.add_zero'] at hx138_1)
                        (try rw [show ((0 : Int)).toNat = 0 from rfl] at hx138_2)
                        (try rw [show 0 * 8 = 0 from rfl] at hx138_2)
                        (try rw [Addr.add_zero'] at hx138_2)
                        (try rw [show ((0 : Int)).toNat = 0 from rfl] at hx138_3)
                        (try rw [show 0 * 8 = 0 from rfl] at hx138_3)
                        (try rw [Addr.add_zero'] at hx138_3)
                        (try rw [show ((0 : Int)).toNat = 0 from rfl] at hx138_4)
                        (try rw [show 0 * 8 = 0 from rfl] at hx138_4)
                        (try rw [Addr.add_zero'] at hx138_4)
                        (try rw [show ((0 : Int)).toNat = 0 from rfl] at hx138_5)
                        (try rw [show 0 * 8 = 0 from rfl] at hx138_5)
                        (try rw [Addr.add_zero'] at hx138_5)
                        (try rw [show ((0 : Int)).toNat = 0 from rfl] at hx138_6)
                        (try rw [show 0 * 8 = 0 from rfl] at hx138_6)
                        (try rw [Addr.add_zero'] at hx138_6)
                        (try rw [show ((0 : Int)).toNat = 0 from rfl] at hx138_7)
                        (try rw [show 0 * 8 = 0 from rfl] at hx138_7)
                        (try rw [Addr.add_zero'] at hx138_7)
                        have HR138_3 := Aside0.mk hi138_3
                        have HC138_3 := Aside0.mk hl138_3
                        clear hi138_3 hl138_3
                        have HR138_7 := Aside0.mk hi138_7
                        have HC138_7 := Aside0.mk hl138_7
                        clear hi138_7 hl138_7
                        replace p138 := eq_true p138
                        replace q138 := eq_true q138
                        (try clear hx131_0 hx131_1 hx131_2 hx131_3 hx131_4 hx131_5 hx131_6 hx131_7)
                        (try clear hx131_0 hx131_1 hx131_2 hx131_3 hx131_4 hx131_5 hx131_6 hx131_7)
                        (try clear hx131_0 hx131_1 hx131_2 hx131_3 hx131_4 hx131_5 hx131_6 hx131_7)
                        (try clear hx137_0 hx137_1 hx137_2 hx137_3 hx137_4 hx137_5 hx137_6 hx137_7)
                        (try clear hx137_0 hx137_1 hx137_2 hx137_3 hx137_4 hx137_5 hx137_6 hx137_7)
                        go_wp2_with (first | ((with_reducible refine gate_callee (f := 140) rfl ?_); refine goesL_ (some 37) rfl rfl Try.func140 (by kernel_rfl) rfl #[.slice A138_3 ((rd_T40 l0 0).f3).length c138_3] rfl (by (try simp only [List.map_toArray, List.map_cons, List.map_nil]); first | done | rfl | (simp only [List.length_drop, List.length_take]; rfl)) ?_; (with_reducible refine (spec_l8Uids.calls kj3 _ _ ((rd_T40 l0 0).f3) true _ ?side1 ?side2 A15.out).mono ?_); (case side1 => repeat (first | exact HR138_3.out | (with_reducible refine Kd.C_alloc ?_ _) | (with_reducible refine Kd.C_drewN ?_ _) | (with_reducible refine Kd.C_drew ?_))); (case side2 => exact HC138_3.out); rintro e w' ⟨rfl, ⟨nd, rfl⟩⟩; refine ⟨_, rfl, ?_⟩; have p140 : 0 ≤ (0 : Int) := (by omega); have q140 : 0 < (l0.length : Int) := of_decide_eq_true (by first | (with_reducible assumption) | assumption); obtain ⟨ad140, A140_3, c140_3, A140_7, c140_7, e140, hx140_0, hx140_1, hx140_2, hx140_3, hx140_4, hx140_5, hx140_6, hx140_7, hl140_3, hi140_3, hl140_7, hi140_7⟩ := at_T40 HR0.out 0 p140 q140; obtain rfl : ad137 = ad140 := (by injection e140); have qi140 : (0 < l0.length) = True := eq_true (by omega); (try rw [show ((0 : Int)).toNat = 0 from rfl] at hx140_0); (try rw [show 0 * 8 = 0 from rfl] at hx140_0); (try rw [Addr.add_zero'] at hx140_0); (try rw [show ((0 : Int)).toNat = 0 from rfl] at hx140_1); (try rw [show 0 * 8 = 0 from rfl] at hx140_1); (try rw [Addr.add_zero'] at hx140_1); (try rw [show ((0 : Int)).toNat = 0 from rfl] at hx140_2); (try rw [show 0 * 8 = 0 from rfl] at hx140_2); (try rw [Addr.add_zero'] at hx140_2); (try rw [show ((0 : Int)).toNat = 0 from rfl] at hx140_3); (try rw [show 0 * 8 = 0 from rfl] at hx140_3); (try rw [Addr.add_zero'] at hx140_3); (try rw [show ((0 : Int)).toNat = 0 from rfl] at hx140_4); (try rw [show 0 * 8 = 0 from rfl] at hx140_4); (try rw [Addr.add_zero'] at hx140_4); (try rw [show ((0 : Int)).toNat = 0 from rfl] at hx140_5); (try rw [show 0 * 8 = 0 from rfl] at hx140_5); (try rw [Addr.add_zero'] at hx140_5); (try rw [show ((0 : Int)).toNat = 0 from rfl] at hx140_6); (try rw [show 0 * 8 = 0 from rfl] at hx140_6); (try rw [Addr.add_zero'] at hx140_6); (try rw [show ((0 : Int)).toNat = 0 from rfl] at hx140_7); (try rw [show 0 * 8 = 0 from rfl] at hx140_7); (try rw [Addr.add_zero'] at hx140_7); have HR140_3 := Aside0.mk hi140_3; have HC140_3 := Aside0.mk hl140_3; clear hi140_3 hl140_3; have HR140_7 := Aside0.mk hi140_7; have HC140_7 := Aside0.mk hl140_7; clear hi140_7 hl140_7; replace p140 := eq_true p140; replace q140 := eq_true q140; have ea_ := Option.some.inj (hx138_3.symm.trans hx140_3); injection ea_ with ea_ en_ ec_; subst ea_; subst ec_; clear en_; have ea_ := Option.some.inj (hx138_7.symm.trans hx140_7); injection ea_ with ea_ en_ ec_; subst ea_; subst ec_; clear en_; (try clear hx140_0); (try clear hx140_1); (try clear hx140_2); (try clear hx140_3); (try clear hx140_4); (try clear hx140_5); (try clear hx140_6); (try clear hx140_7); (try clear qi140); have p141 : 0 ≤ (0 : Int) := (by omega); have q141 : 0 < (l0.length : Int) := of_decide_eq_true (by first | (with_reducible assumption) | assumption); obtain ⟨ad141, A141_3, c141_3, A141_7, c141_7, e141, hx141_0, hx141_1, hx141_2, hx141_3, hx141_4, hx141_5, hx141_6, hx141_7, hl141_3, hi141_3, hl141_7, hi141_7⟩ := at_T40 HR0.out 0 p141 q141; obtain rfl : ad137 = ad141 := (by injection e141); have qi141 : (0 < l0.length) = True := eq_true (by omega); (try rw [show ((0 : Int)).toNat = 0 from rfl] at hx141_0); (try rw [show 0 * 8 = 0 from rfl] at hx141_0); (try rw [Addr.add_zero'] at hx141_0); (try rw [show ((0 : Int)).toNat = 0 from rfl] at hx141_1); (try rw [show 0 * 8 = 0 from rfl] at hx141_1); (try rw [Addr.add_zero'] at hx141_1); (try rw [show ((0 : Int)).toNat = 0 from rfl] at hx141_2); (try rw [show 0 * 8 = 0 from rfl] at hx141_2); (try rw [Addr.add_zero'] at hx141_2); (try rw [show ((0 : Int)).toNat = 0 from rfl] at hx141_3); (try rw [show 0 * 8 = 0 from rfl] at hx141_3); (try rw [Addr.add_zero'] at hx141_3); (try rw [show ((0 : Int)).toNat = 0 from rfl] at hx141_4); (try rw [show 0 * 8 = 0 from rfl] at hx141_4); (try rw [Addr.add_zero'] at hx141_4); (try rw [show ((0 : Int)).toNat = 0 from rfl] at hx141_5); (try rw [show 0 * 8 = 0 from rfl] at hx141_5); (try rw [Addr.add_zero'] at hx141_5); (try rw [show ((0 : Int)).toNat = 0 from rfl] at hx141_6); (try rw [show 0 * 8 = 0 from rfl] at hx141_6); (try rw [Addr.add_zero'] at hx141_6); (try rw [show ((0 : Int)).toNat = 0 from rfl] at hx141_7); (try rw [show 0 * 8 = 0 from rfl] at hx141_7); (try rw [Addr.add_zero'] at hx141_7); have HR141_3 := Aside0.mk hi141_3; have HC141_3 := Aside0.mk hl141_3; clear hi141_3 hl141_3; have HR141_7 := Aside0.mk hi141_7; have HC141_7 := Aside0.mk hl141_7; clear hi141_7 hl141_7; replace p141 := eq_true p141; replace q141 := eq_true q141; have ea_ := Option.some.inj (hx138_3.symm.trans hx141_3); injection ea_ with ea_ en_ ec_; subst ea_; subst ec_; clear en_; have ea_ := Option.some.inj (hx138_7.symm.trans hx141_7); injection ea_ with ea_ en_ ec_; subst ea_; subst ec_; clear en_; (try clear hx141_0); (try clear hx141_1); (try clear hx141_2); (try clear hx141_3); (try clear hx141_4); (try clear hx141_5); (try clear hx141_6); (try clear hx141_7); (try clear qi141)) | (go_at_call 141; (with_reducible refine (spec_l1In.calls ((rd_T40 l0 0).f4) 1 3 true _ A18.out).mono ?_); rintro e w' ⟨rfl, ⟨nd, rfl⟩⟩; have p143 : 0 ≤ (0 : Int) := (by omega); have q143 : 0 < (l0.length : Int) := of_decide_eq_true (by first | (with_reducible assumption) | assumption); obtain ⟨ad143, A143_3, c143_3, A143_7, c143_7, e143, hx143_0, hx143_1, hx143_2, hx143_3, hx143_4, hx143_5, hx143_6, hx143_7, hl143_3, hi143_3, hl143_7, hi143_7⟩ := at_T40 HR0.out 0 p143 q143; obtain rfl : ad137 = ad143 := (by injection e143); have qi143 : (0 < l0.length) = True := eq_true (by omega); (try rw [show ((0 : Int)).toNat = 0 from rfl] at hx143_0); (try rw [show 0 * 8 = 0 from rfl] at hx143_0); (try rw [Addr.add_zero'] at hx143_0); (try rw [show ((0 : Int)).toNat = 0 from rfl] at hx143_1); (try rw [show 0 * 8 = 0 from rfl] at hx143_1); (try rw [Addr.add_zero'] at hx143_1); (try rw [show ((0 : Int)).toNat = 0 from rfl] at hx143_2); (try rw [show 0 * 8 = 0 from rfl] at hx143_2); (try rw [Addr.add_zero'] at hx143_2); (try rw [show ((0 : Int)).toNat = 0 from rfl] at hx143_3); (try rw [show 0 * 8 = 0 from rfl] at hx143_3); (try rw [Addr.add_zero'] at hx143_3); (try rw [show ((0 : Int)).toNat = 0 from rfl] at hx143_4); (try rw [show 0 * 8 = 0 from rfl] at hx143_4); (try rw [Addr.add_zero'] at hx143_4); (try rw [show ((0 : Int)).toNat = 0 from rfl] at hx143_5); (try rw [show 0 * 8 = 0 from rfl] at hx143_5); (try rw [Addr.add_zero'] at hx143_5); (try rw [show ((0 : Int)).toNat = 0 from rfl] at hx143_6); (try rw [show 0 * 8 = 0 from rfl] at hx143_6); (try rw [Addr.add_zero'] at hx143_6); (try rw [show ((0 : Int)).toNat = 0 from rfl] at hx143_7); (try rw [show 0 * 8 = 0 from rfl] at hx143_7); (try rw [Addr.add_zero'] at hx143_7); have HR143_3 := Aside0.mk hi143_3; have HC143_3 := Aside0.mk hl143_3; clear hi143_3 hl143_3; have HR143_7 := Aside0.mk hi143_7; have HC143_7 := Aside0.mk hl143_7; clear hi143_7 hl143_7; replace p143 := eq_true p143; replace q143 := eq_true q143; have ea_ := Option.some.inj (hx138_3.symm.trans hx143_3); injection ea_ with ea_ en_ ec_; subst ea_; subst ec_; clear en_; have ea_ := Option.some.inj (hx138_7.symm.trans hx143_7); injection ea_ with ea_ en_ ec_; subst ea_; subst ec_; clear en_; (try clear hx143_0); (try clear hx143_1); (try clear hx143_2); (try clear hx143_3); (try clear hx143_4); (try clear hx143_5); (try clear hx143_6); (try clear hx143_7); (try clear qi143)) | (go_at_call 141; (with_reducible refine (spec_l1In.calls ((rd_T40 l0 0).f5) 0 15 false _ A20.out).mono ?_); rintro e w' ⟨rfl, ⟨nd, rfl⟩⟩))
                        go_meet
                        case rel => exact ⟨_, (true), (by first | rfl | (simp; done) | (simp [*]; done) | (simp; generalize ByteArray.toList _ = zq_; cases zq_ <;> rfl)), H', ⟨by have := HJ3.out; first | omega | exact Nat.le_refl _⟩, by repeat (first | exact Drawn0.refl _ | apply Drawn0.step)⟩
                    · replace c19 := Bool.eq_false_iff.mpr c19
                      subst c19
                      have H1 : (spec_l8Fault.j1 kj3 l0 true) = some r := by rw [if_neg (show ¬ (false = true) by decide)] at H; exact H
                      clear H
                      have H := H1
                      clear H1
                      have H' := Aside0.mk H
                      clear H
                      have p138 : 0 ≤ (0 : Int) := (by omega)
                      have q138 : 0 < (l0.length : Int) := of_decide_eq_true (by first | (with_reducible assumption) | assumption)
                      obtain ⟨ad138, A138_3, c138_3, A138_7, c138_7, e138, hx138_0, hx138_1, hx138_2, hx138_3, hx138_4, hx138_5, hx138_6, hx138_7, hl138_3, hi138_3, hl138_7, hi138_7⟩ := at_T40 HR0.out 0 p138 q138
                      obtain rfl : ad137 = ad138 := (by injection e138)
                      have qi138 : (0 < l0.length) = True := eq_true (by omega)
                      (try rw [show ((0 : Int)).toNat = 0 from rfl] at hx138_0)
                      (try rw [show 0 * 8 = 0 from rfl] at hx138_0)
                      (try rw [Addr.add_zero'] at hx138_0)
                      (try rw [show ((0 : Int)).toNat = 0 from rfl] at hx138_1)
                      (try rw [show 0 * 8 = 0 from rfl] at hx138_1)
                      (try rw [Addr.add_zero'] at hx138_1)
                      (try rw [show ((0 : Int)).toNat = 0 from rfl] at hx138_2)
                      (try rw [show 0 * 8 = 0 from rfl] at hx138_2)
                      (try rw [Addr.add_zero'] at hx138_2)
                      (try rw [show ((0 : Int)).toNat = 0 from rfl] at hx138_3)
                      (try rw [show 0 * 8 = 0 from rfl] at hx138_3)
                      (try rw [Addr.add_zero'] at hx138_3)
                      (try rw [show ((0 : Int)).toNat = 0 from rfl] at hx138_4)
                      (try rw [show 0 * 8 = 0 from rfl] at hx138_4)
                      (try rw [Addr.add_zero'] at hx138_4)
                      (try rw [show ((0 : Int)).toNat = 0 from rfl] at hx138_5)
                      (try rw [show 0 * 8 = 0 from rfl] at hx138_5)
                      (try rw [Addr.add_zero'] at hx138_5)
                      (try rw [show ((0 : Int)).toNat = 0 from rfl] at hx138_6)
                      (try rw [show 0 * 8 = 0 from rfl] at hx138_6)
                      (try rw [Addr.add_zero'] at hx138_6)
                      (try rw [show ((0 : Int)).toNat = 0 from rfl] at hx138_7)
                      (try rw [show 0 * 8 = 0 from rfl] at hx138_7)
                      (try rw [Addr.add_zero'] at hx138_7)
                      have HR138_3 := Aside0.mk hi138_3
                      have HC138_3 := Aside0.mk hl138_3
                      clear hi138_3 hl138_3
                      have HR138_7 := Aside0.mk hi138_7
                      have HC138_7 := Aside0.mk hl138_7
                      clear hi138_7 hl138_7
                      replace p138 := eq_true p138
                      replace q138 := eq_true q138
                      (try clear hx131_0 hx131_1 hx131_2 hx131_3 hx131_4 hx131_5 hx131_6 hx131_7)
                      (try clear hx131_0 hx131_1 hx131_2 hx131_3 hx131_4 hx131_5 hx131_6 hx131_7)
                      (try clear hx131_0 hx131_1 hx131_2 hx131_3 hx131_4 hx131_5 hx131_6 hx131_7)
                      (try clear hx137_0 hx137_1 hx137_2 hx137_3 hx137_4 hx137_5 hx137_6 hx137_7)
                      (try clear hx137_0 hx137_1 hx137_2 hx137_3 hx137_4 hx137_5 hx137_6 hx137_7)
                      go_wp2_with (first | ((with_reducible refine gate_callee (f := 140) rfl ?_); refine goesL_ (some 37) rfl rfl Try.func140 (by kernel_rfl) rfl #[.slice A138_3 ((rd_T40 l0 0).f3).length c138_3] rfl (by (try simp only [List.map_toArray, List.map_cons, List.map_nil]); first | done | rfl | (simp only [List.length_drop, List.length_take]; rfl)) ?_; (with_reducible refine (spec_l8Uids.calls kj3 _ _ ((rd_T40 l0 0).f3) true _ ?side1 ?side2 A15.out).mono ?_); (case side1 => repeat (first | exact HR138_3.out | (with_reducible refine Kd.C_alloc ?_ _) | (with_reducible refine Kd.C_drewN ?_ _) | (with_reducible refine Kd.C_drew ?_))); (case side2 => exact HC138_3.out); rintro e w' ⟨rfl, ⟨nd, rfl⟩⟩; refine ⟨_, rfl, ?_⟩; have p140 : 0 ≤ (0 : Int) := (by omega); have q140 : 0 < (l0.length : Int) := of_decide_eq_true (by first | (with_reducible assumption) | assumption); obtain ⟨ad140, A140_3, c140_3, A140_7, c140_7, e140, hx140_0, hx140_1, hx140_2, hx140_3, hx140_4, hx140_5, hx140_6, hx140_7, hl140_3, hi140_3, hl140_7, hi140_7⟩ := at_T40 HR0.out 0 p140 q140; obtain rfl : ad137 = ad140 := (by injection e140); have qi140 : (0 < l0.length) = True := eq_true (by omega); (try rw [show ((0 : Int)).toNat = 0 from rfl] at hx140_0); (try rw [show 0 * 8 = 0 from rfl] at hx140_0); (try rw [Addr.add_zero'] at hx140_0); (try rw [show ((0 : Int)).toNat = 0 from rfl] at hx140_1); (try rw [show 0 * 8 = 0 from rfl] at hx140_1); (try rw [Addr.add_zero'] at hx140_1); (try rw [show ((0 : Int)).toNat = 0 from rfl] at hx140_2); (try rw [show 0 * 8 = 0 from rfl] at hx140_2); (try rw [Addr.add_zero'] at hx140_2); (try rw [show ((0 : Int)).toNat = 0 from rfl] at hx140_3); (try rw [show 0 * 8 = 0 from rfl] at hx140_3); (try rw [Addr.add_zero'] at hx140_3); (try rw [show ((0 : Int)).toNat = 0 from rfl] at hx140_4); (try rw [show 0 * 8 = 0 from rfl] at hx140_4); (try rw [Addr.add_zero'] at hx140_4); (try rw [show ((0 : Int)).toNat = 0 from rfl] at hx140_5); (try rw [show 0 * 8 = 0 from rfl] at hx140_5); (try rw [Addr.add_zero'] at hx140_5); (try rw [show ((0 : Int)).toNat = 0 from rfl] at hx140_6); (try rw [show 0 * 8 = 0 from rfl] at hx140_6); (try rw [Addr.add_zero'] at hx140_6); (try rw [show ((0 : Int)).toNat = 0 from rfl] at hx140_7); (try rw [show 0 * 8 = 0 from rfl] at hx140_7); (try rw [Addr.add_zero'] at hx140_7); have HR140_3 := Aside0.mk hi140_3; have HC140_3 := Aside0.mk hl140_3; clear hi140_3 hl140_3; have HR140_7 := Aside0.mk hi140_7; have HC140_7 := Aside0.mk hl140_7; clear hi140_7 hl140_7; replace p140 := eq_true p140; replace q140 := eq_true q140; have ea_ := Option.some.inj (hx138_3.symm.trans hx140_3); injection ea_ with ea_ en_ ec_; subst ea_; subst ec_; clear en_; have ea_ := Option.some.inj (hx138_7.symm.trans hx140_7); injection ea_ with ea_ en_ ec_; subst ea_; subst ec_; clear en_; (try clear hx140_0); (try clear hx140_1); (try clear hx140_2); (try clear hx140_3); (try clear hx140_4); (try clear hx140_5); (try clear hx140_6); (try clear hx140_7); (try clear qi140); have p141 : 0 ≤ (0 : Int) := (by omega); have q141 : 0 < (l0.length : Int) := of_decide_eq_true (by first | (with_reducible assumption) | assumption); obtain ⟨ad141, A141_3, c141_3, A141_7, c141_7, e141, hx141_0, hx141_1, hx141_2, hx141_3, hx141_4, hx141_5, hx141_6, hx141_7, hl141_3, hi141_3, hl141_7, hi141_7⟩ := at_T40 HR0.out 0 p141 q141; obtain rfl : ad137 = ad141 := (by injection e141); have qi141 : (0 < l0.length) = True := eq_true (by omega); (try rw [show ((0 : Int)).toNat = 0 from rfl] at hx141_0); (try rw [show 0 * 8 = 0 from rfl] at hx141_0); (try rw [Addr.add_zero'] at hx141_0); (try rw [show ((0 : Int)).toNat = 0 from rfl] at hx141_1); (try rw [show 0 * 8 = 0 from rfl] at hx141_1); (try rw [Addr.add_zero'] at hx141_1); (try rw [show ((0 : Int)).toNat = 0 from rfl] at hx141_2); (try rw [show 0 * 8 = 0 from rfl] at hx141_2); (try rw [Addr.add_zero'] at hx141_2); (try rw [show ((0 : Int)).toNat = 0 from rfl] at hx141_3); (try rw [show 0 * 8 = 0 from rfl] at hx141_3); (try rw [Addr.add_zero'] at hx141_3); (try rw [show ((0 : Int)).toNat = 0 from rfl] at hx141_4); (try rw [show 0 * 8 = 0 from rfl] at hx141_4); (try rw [Addr.add_zero'] at hx141_4); (try rw [show ((0 : Int)).toNat = 0 from rfl] at hx141_5); (try rw [show 0 * 8 = 0 from rfl] at hx141_5); (try rw [Addr.add_zero'] at hx141_5); (try rw [show ((0 : Int)).toNat = 0 from rfl] at hx141_6); (try rw [show 0 * 8 = 0 from rfl] at hx141_6); (try rw [Addr.add_zero'] at hx141_6); (try rw [show ((0 : Int)).toNat = 0 from rfl] at hx141_7); (try rw [show 0 * 8 = 0 from rfl] at hx141_7); (try rw [Addr.add_zero'] at hx141_7); have HR141_3 := Aside0.mk hi141_3; have HC141_3 := Aside0.mk hl141_3; clear hi141_3 hl141_3; have HR141_7 := Aside0.mk hi141_7; have HC141_7 := Aside0.mk hl141_7; clear hi141_7 hl141_7; replace p141 := eq_true p141; replace q141 := eq_true q141; have ea_ := Option.some.inj (hx138_3.symm.trans hx141_3); injection ea_ with ea_ en_ ec_; subst ea_; subst ec_; clear en_; have ea_ := Option.some.inj (hx138_7.symm.trans hx141_7); injection ea_ with ea_ en_ ec_; subst ea_; subst ec_; clear en_; (try clear hx141_0); (try clear hx141_1); (try clear hx141_2); (try clear hx141_3); (try clear hx141_4); (try clear hx141_5); (try clear hx141_6); (try clear hx141_7); (try clear qi141)) | (go_at_call 141; (with_reducible refine (spec_l1In.calls ((rd_T40 l0 0).f4) 1 3 false _ A18.out).mono ?_); rintro e w' ⟨rfl, ⟨nd, rfl⟩⟩))
                      go_meet
                      case rel => exact ⟨_, (true), (by first | rfl | (simp; done) | (simp [*]; done) | (simp; generalize ByteArray.toList _ = zq_; cases zq_ <;> rfl)), H', ⟨by have := HJ3.out; first | omega | exact Nat.le_refl _⟩, by repeat (first | exact Drawn0.refl _ | apply Drawn0.step)⟩
                  · rw [if_neg c17] at H
                    have c17b0 : (((rd_T40 l0 0).f0) == 4) = false := beq_eq_false_iff_ne.mpr c17
                    have c17b1 : (((rd_T40 l0 0).f0) != 4) = true := bne_iff_ne.mpr c17
                    (first | rw [c17b0] | (simp only [i64_w, i32_w]; rw [c17b0]) | skip)
                    replace H := Option.bind_eq_some_iff.mp H
                    obtain ⟨t148, A230, H⟩ := H
                    replace H : (if t148 = true then ((spec_l1In.f ((rd_T40 l0 0).f6) 0 9999).bind fun t150 => (spec_l8Fault.j1 kj3 l0 (!t150))) else (spec_l8Fault.j1 kj3 l0 true)) = some r := H
                    have A23 := Aside0.mk A230
                    clear A230
                    by_cases c24 : t148 = true
                    · subst c24
                      have H1 : ((spec_l1In.f ((rd_T40 l0 0).f6) 0 9999).bind fun t150 => (spec_l8Fault.j1 kj3 l0 (!t150))) = some r := by rw [if_pos rfl] at H; exact H
                      clear H
                      have H := H1
                      clear H1
                      replace H := Option.bind_eq_some_iff.mp H
                      obtain ⟨t150, A250, H⟩ := H
                      replace H : (spec_l8Fault.j1 kj3 l0 (!t150)) = some r := H
                      have A25 := Aside0.mk A250
                      clear A250
                      have H' := Aside0.mk H
                      clear H
                      have p138 : 0 ≤ (0 : Int) := (by omega)
                      have q138 : 0 < (l0.length : Int) := of_decide_eq_true (by first | (with_reducible assumption) | assumption)
                      obtain ⟨ad138, A138_3, c138_3, A138_7, c138_7, e138, hx138_0, hx138_1, hx138_2, hx138_3, hx138_4, hx138_5, hx138_6, hx138_7, hl138_3, hi138_3, hl138_7, hi138_7⟩ := at_T40 HR0.out 0 p138 q138
                      obtain rfl : ad137 = ad138 := (by injection e138)
                      have qi138 : (0 < l0.length) = True := eq_true (by omega)
                      (try rw [show ((0 : Int)).toNat = 0 from rfl] at hx138_0)
                      (try rw [show 0 * 8 = 0 from rfl] at hx138_0)
                      (try rw [Addr.add_zero'] at hx138_0)
                      (try rw [show ((0 : Int)).toNat = 0 from rfl] at hx138_1)
                      (try rw [show 0 * 8 = 0 from rfl] at hx138_1)
                      (try rw [Addr.add_zero'] at hx138_1)
                      (try rw [show ((0 : Int)).toNat = 0 from rfl] at hx138_2)
                      (try rw [show 0 * 8 = 0 from rfl] at hx138_2)
                      (try rw [Addr.add_zero'] at hx138_2)
                      (try rw [show ((0 : Int)).toNat = 0 from rfl] at hx138_3)
                      (try rw [show 0 * 8 = 0 from rfl] at hx138_3)
                      (try rw [Addr.add_zero'] at hx138_3)
                      (try rw [show ((0 : Int)).toNat = 0 from rfl] at hx138_4)
                      (try rw [show 0 * 8 = 0 from rfl] at hx138_4)
                      (try rw [Addr.add_zero'] at hx138_4)
                      (try rw [show ((0 : Int)).toNat = 0 from rfl] at hx138_5)
                      (try rw [show 0 * 8 = 0 from rfl] at hx138_5)
                      (try rw [Addr.add_zero'] at hx138_5)
                      (try rw [show ((0 : Int)).toNat = 0 from rfl] at hx138_6)
                      (try rw [show 0 * 8 = 0 from rfl] at hx138_6)
                      (try rw [Addr.add_zero'] at hx138_6)
                      (try rw [show ((0 : Int)).toNat = 0 from rfl] at hx138_7)
                      (try rw [show 0 * 8 = 0 from rfl] at hx138_7)
                      (try rw [Addr.add_zero'] at hx138_7)
                      have HR138_3 := Aside0.mk hi138_3
                      have HC138_3 := Aside0.mk hl138_3
                      clear hi138_3 hl138_3
                      have HR138_7 := Aside0.mk hi138_7
                      have HC138_7 := Aside0.mk hl138_7
                      clear hi138_7 hl138_7
                      replace p138 := eq_true p138
                      replace q138 := eq_true q138
                      (try clear hx131_0 hx131_1 hx131_2 hx131_3 hx131_4 hx131_5 hx131_6 hx131_7)
                      (try clear hx131_0 hx131_1 hx131_2 hx131_3 hx131_4 hx131_5 hx131_6 hx131_7)
                      (try clear hx131_0 hx131_1 hx131_2 hx131_3 hx131_4 hx131_5 hx131_6 hx131_7)
                      (try clear hx137_0 hx137_1 hx137_2 hx137_3 hx137_4 hx137_5 hx137_6 hx137_7)
                      (try clear hx137_0 hx137_1 hx137_2 hx137_3 hx137_4 hx137_5 hx137_6 hx137_7)
                      go_wp2_with (first | ((with_reducible refine gate_callee (f := 140) rfl ?_); refine goesL_ (some 37) rfl rfl Try.func140 (by kernel_rfl) rfl #[.slice A138_3 ((rd_T40 l0 0).f3).length c138_3] rfl (by (try simp only [List.map_toArray, List.map_cons, List.map_nil]); first | done | rfl | (simp only [List.length_drop, List.length_take]; rfl)) ?_; (with_reducible refine (spec_l8Uids.calls kj3 _ _ ((rd_T40 l0 0).f3) true _ ?side1 ?side2 A15.out).mono ?_); (case side1 => repeat (first | exact HR138_3.out | (with_reducible refine Kd.C_alloc ?_ _) | (with_reducible refine Kd.C_drewN ?_ _) | (with_reducible refine Kd.C_drew ?_))); (case side2 => exact HC138_3.out); rintro e w' ⟨rfl, ⟨nd, rfl⟩⟩; refine ⟨_, rfl, ?_⟩; have p140 : 0 ≤ (0 : Int) := (by omega); have q140 : 0 < (l0.length : Int) := of_decide_eq_true (by first | (with_reducible assumption) | assumption); obtain ⟨ad140, A140_3, c140_3, A140_7, c140_7, e140, hx140_0, hx140_1, hx140_2, hx140_3, hx140_4, hx140_5, hx140_6, hx140_7, hl140_3, hi140_3, hl140_7, hi140_7⟩ := at_T40 HR0.out 0 p140 q140; obtain rfl : ad137 = ad140 := (by injection e140); have qi140 : (0 < l0.length) = True := eq_true (by omega); (try rw [show ((0 : Int)).toNat = 0 from rfl] at hx140_0); (try rw [show 0 * 8 = 0 from rfl] at hx140_0); (try rw [Addr.add_zero'] at hx140_0); (try rw [show ((0 : Int)).toNat = 0 from rfl] at hx140_1); (try rw [show 0 * 8 = 0 from rfl] at hx140_1); (try rw [Addr.add_zero'] at hx140_1); (try rw [show ((0 : Int)).toNat = 0 from rfl] at hx140_2); (try rw [show 0 * 8 = 0 from rfl] at hx140_2); (try rw [Addr.add_zero'] at hx140_2); (try rw [show ((0 : Int)).toNat = 0 from rfl] at hx140_3); (try rw [show 0 * 8 = 0 from rfl] at hx140_3); (try rw [Addr.add_zero'] at hx140_3); (try rw [show ((0 : Int)).toNat = 0 from rfl] at hx140_4); (try rw [show 0 * 8 = 0 from rfl] at hx140_4); (try rw [Addr.add_zero'] at hx140_4); (try rw [show ((0 : Int)).toNat = 0 from rfl] at hx140_5); (try rw [show 0 * 8 = 0 from rfl] at hx140_5); (try rw [Addr.add_zero'] at hx140_5); (try rw [show ((0 : Int)).toNat = 0 from rfl] at hx140_6); (try rw [show 0 * 8 = 0 from rfl] at hx140_6); (try rw [Addr.add_zero'] at hx140_6); (try rw [show ((0 : Int)).toNat = 0 from rfl] at hx140_7); (try rw [show 0 * 8 = 0 from rfl] at hx140_7); (try rw [Addr.add_zero'] at hx140_7); have HR140_3 := Aside0.mk hi140_3; have HC140_3 := Aside0.mk hl140_3; clear hi140_3 hl140_3; have HR140_7 := Aside0.mk hi140_7; have HC140_7 := Aside0.mk hl140_7; clear hi140_7 hl140_7; replace p140 := eq_true p140; replace q140 := eq_true q140; have ea_ := Option.some.inj (hx138_3.symm.trans hx140_3); injection ea_ with ea_ en_ ec_; subst ea_; subst ec_; clear en_; have ea_ := Option.some.inj (hx138_7.symm.trans hx140_7); injection ea_ with ea_ en_ ec_; subst ea_; subst ec_; clear en_; (try clear hx140_0); (try clear hx140_1); (try clear hx140_2); (try clear hx140_3); (try clear hx140_4); (try clear hx140_5); (try clear hx140_6); (try clear hx140_7); (try clear qi140); have p147 : 0 ≤ (0 : Int) := (by omega); have q147 : 0 < (l0.length : Int) := of_decide_eq_true (by first | (with_reducible assumption) | assumption); obtain ⟨ad147, A147_3, c147_3, A147_7, c147_7, e147, hx147_0, hx147_1, hx147_2, hx147_3, hx147_4, hx147_5, hx147_6, hx147_7, hl147_3, hi147_3, hl147_7, hi147_7⟩ := at_T40 HR0.out 0 p147 q147; obtain rfl : ad137 = ad147 := (by injection e147); have qi147 : (0 < l0.length) = True := eq_true (by omega); (try rw [show ((0 : Int)).toNat = 0 from rfl] at hx147_0); (try rw [show 0 * 8 = 0 from rfl] at hx147_0); (try rw [Addr.add_zero'] at hx147_0); (try rw [show ((0 : Int)).toNat = 0 from rfl] at hx147_1); (try rw [show 0 * 8 = 0 from rfl] at hx147_1); (try rw [Addr.add_zero'] at hx147_1); (try rw [show ((0 : Int)).toNat = 0 from rfl] at hx147_2); (try rw [show 0 * 8 = 0 from rfl] at hx147_2); (try rw [Addr.add_zero'] at hx147_2); (try rw [show ((0 : Int)).toNat = 0 from rfl] at hx147_3); (try rw [show 0 * 8 = 0 from rfl] at hx147_3); (try rw [Addr.add_zero'] at hx147_3); (try rw [show ((0 : Int)).toNat = 0 from rfl] at hx147_4); (try rw [show 0 * 8 = 0 from rfl] at hx147_4); (try rw [Addr.add_zero'] at hx147_4); (try rw [show ((0 : Int)).toNat = 0 from rfl] at hx147_5); (try rw [show 0 * 8 = 0 from rfl] at hx147_5); (try rw [Addr.add_zero'] at hx147_5); (try rw [show ((0 : Int)).toNat = 0 from rfl] at hx147_6); (try rw [show 0 * 8 = 0 from rfl] at hx147_6); (try rw [Addr.add_zero'] at hx147_6); (try rw [show ((0 : Int)).toNat = 0 from rfl] at hx147_7); (try rw [show 0 * 8 = 0 from rfl] at hx147_7); (try rw [Addr.add_zero'] at hx147_7); have HR147_3 := Aside0.mk hi147_3; have HC147_3 := Aside0.mk hl147_3; clear hi147_3 hl147_3; have HR147_7 := Aside0.mk hi147_7; have HC147_7 := Aside0.mk hl147_7; clear hi147_7 hl147_7; replace p147 := eq_true p147; replace q147 := eq_true q147; have ea_ := Option.some.inj (hx138_3.symm.trans hx147_3); injection ea_ with ea_ en_ ec_; subst ea_; subst ec_; clear en_; have ea_ := Option.some.inj (hx138_7.symm.trans hx147_7); injection ea_ with ea_ en_ ec_; subst ea_; subst ec_; clear en_; (try clear hx147_0); (try clear hx147_1); (try clear hx147_2); (try clear hx147_3); (try clear hx147_4); (try clear hx147_5); (try clear hx147_6); (try clear hx147_7); (try clear qi147)) | (go_at_call 141; (with_reducible refine (spec_l1In.calls ((rd_T40 l0 0).f5) 0 15 true _ A23.out).mono ?_); rintro e w' ⟨rfl, ⟨nd, rfl⟩⟩; have p149 : 0 ≤ (0 : Int) := (by omega); have q149 : 0 < (l0.length : Int) := of_decide_eq_true (by first | (with_reducible assumption) | assumption); obtain ⟨ad149, A149_3, c149_3, A149_7, c149_7, e149, hx149_0, hx149_1, hx149_2, hx149_3, hx149_4, hx149_5, hx149_6, hx149_7, hl149_3, hi149_3, hl149_7, hi149_7⟩ := at_T40 HR0.out 0 p149 q149; obtain rfl : ad137 = ad149 := (by injection e149); have qi149 : (0 < l0.length) = True := eq_true (by omega); (try rw [show ((0 : Int)).toNat = 0 from rfl] at hx149_0); (try rw [show 0 * 8 = 0 from rfl] at hx149_0); (try rw [Addr.add_zero'] at hx149_0); (try rw [show ((0 : Int)).toNat = 0 from rfl] at hx149_1); (try rw [show 0 * 8 = 0 from rfl] at hx149_1); (try rw [Addr.add_zero'] at hx149_1); (try rw [show ((0 : Int)).toNat = 0 from rfl] at hx149_2); (try rw [show 0 * 8 = 0 from rfl] at hx149_2); (try rw [Addr.add_zero'] at hx149_2); (try rw [show ((0 : Int)).toNat = 0 from rfl] at hx149_3); (try rw [show 0 * 8 = 0 from rfl] at hx149_3); (try rw [Addr.add_zero'] at hx149_3); (try rw [show ((0 : Int)).toNat = 0 from rfl] at hx149_4); (try rw [show 0 * 8 = 0 from rfl] at hx149_4); (try rw [Addr.add_zero'] at hx149_4); (try rw [show ((0 : Int)).toNat = 0 from rfl] at hx149_5); (try rw [show 0 * 8 = 0 from rfl] at hx149_5); (try rw [Addr.add_zero'] at hx149_5); (try rw [show ((0 : Int)).toNat = 0 from rfl] at hx149_6); (try rw [show 0 * 8 = 0 from rfl] at hx149_6); (try rw [Addr.add_zero'] at hx149_6); (try rw [show ((0 : Int)).toNat = 0 from rfl] at hx149_7); (try rw [show 0 * 8 = 0 from rfl] at hx149_7); (try rw [Addr.add_zero'] at hx149_7); have HR149_3 := Aside0.mk hi149_3; have HC149_3 := Aside0.mk hl149_3; clear hi149_3 hl149_3; have HR149_7 := Aside0.mk hi149_7; have HC149_7 := Aside0.mk hl149_7; clear hi149_7 hl149_7; replace p149 := eq_true p149; replace q149 := eq_true q149; have ea_ := Option.some.inj (hx138_3.symm.trans hx149_3); injection ea_ with ea_ en_ ec_; subst ea_; subst ec_; clear en_; have ea_ := Option.some.inj (hx138_7.symm.trans hx149_7); injection ea_ with ea_ en_ ec_; subst ea_; subst ec_; clear en_; (try clear hx149_0); (try clear hx149_1); (try clear hx149_2); (try clear hx149_3); (try clear hx149_4); (try clear hx149_5); (try clear hx149_6); (try clear hx149_7); (try clear qi149)) | (go_at_call 141; (with_reducible refine (spec_l1In.calls ((rd_T40 l0 0).f6) 0 9999 t150 _ A25.out).mono ?_); rintro e w' ⟨rfl, ⟨nd, rfl⟩⟩))
                      go_meet
                      case rel => exact ⟨_, (!t150), (by first | rfl | (simp; done) | (simp [*]; done) | (simp; generalize ByteArray.toList _ = zq_; cases zq_ <;> rfl)), H', ⟨by have := HJ3.out; first | omega | exact Nat.le_refl _⟩, by repeat (first | exact Drawn0.refl _ | apply Drawn0.step)⟩
                    · replace c24 := Bool.eq_false_iff.mpr c24
                      subst c24
                      have H1 : (spec_l8Fault.j1 kj3 l0 true) = some r := by rw [if_neg (show ¬ (false = true) by decide)] at H; exact H
                      clear H
                      have H := H1
                      clear H1
                      have H' := Aside0.mk H
                      clear H
                      have p138 : 0 ≤ (0 : Int) := (by omega)
                      have q138 : 0 < (l0.length : Int) := of_decide_eq_true (by first | (with_reducible assumption) | assumption)
                      obtain ⟨ad138, A138_3, c138_3, A138_7, c138_7, e138, hx138_0, hx138_1, hx138_2, hx138_3, hx138_4, hx138_5, hx138_6, hx138_7, hl138_3, hi138_3, hl138_7, hi138_7⟩ := at_T40 HR0.out 0 p138 q138
                      obtain rfl : ad137 = ad138 := (by injection e138)
                      have qi138 : (0 < l0.length) = True := eq_true (by omega)
                      (try rw [show ((0 : Int)).toNat = 0 from rfl] at hx138_0)
                      (try rw [show 0 * 8 = 0 from rfl] at hx138_0)
                      (try rw [Addr.add_zero'] at hx138_0)
                      (try rw [show ((0 : Int)).toNat = 0 from rfl] at hx138_1)
                      (try rw [show 0 * 8 = 0 from rfl] at hx138_1)
                      (try rw [Addr.add_zero'] at hx138_1)
                      (try rw [show ((0 : Int)).toNat = 0 from rfl] at hx138_2)
                      (try rw [show 0 * 8 = 0 from rfl] at hx138_2)
                      (try rw [Addr.add_zero'] at hx138_2)
                      (try rw [show ((0 : Int)).toNat = 0 from rfl] at hx138_3)
                      (try rw [show 0 * 8 = 0 from rfl] at hx138_3)
                      (try rw [Addr.add_zero'] at hx138_3)
                      (try rw [show ((0 : Int)).toNat = 0 from rfl] at hx138_4)
                      (try rw [show 0 * 8 = 0 from rfl] at hx138_4)
                      (try rw [Addr.add_zero'] at hx138_4)
                      (try rw [show ((0 : Int)).toNat = 0 from rfl] at hx138_5)
                      (try rw [show 0 * 8 = 0 from rfl] at hx138_5)
                      (try rw [Addr.add_zero'] at hx138_5)
                      (try rw [show ((0 : Int)).toNat = 0 from rfl] at hx138_6)
                      (try rw [show 0 * 8 = 0 from rfl] at hx138_6)
                      (try rw [Addr.add_zero'] at hx138_6)
                      (try rw [show ((0 : Int)).toNat = 0 from rfl] at hx138_7)
                      (try rw [show 0 * 8 = 0 from rfl] at hx138_7)
                      (try rw [Addr.add_zero'] at hx138_7)
                      have HR138_3 := Aside0.mk hi138_3
                      have HC138_3 := Aside0.mk hl138_3
                      clear hi138_3 hl138_3
                      have HR138_7 := Aside0.mk hi138_7
                      have HC138_7 := Aside0.mk hl138_7
                      clear hi138_7 hl138_7
                      replace p138 := eq_true p138
                      replace q138 := eq_true q138
                      (try clear hx131_0 hx131_1 hx131_2 hx131_3 hx131_4 hx131_5 hx131_6 hx131_7)
                      (try clear hx131_0 hx131_1 hx131_2 hx131_3 hx131_4 hx131_5 hx131_6 hx131_7)
                      (try clear hx131_0 hx131_1 hx131_2 hx131_3 hx131_4 hx131_5 hx131_6 hx131_7)
                      (try clear hx137_0 hx137_1 hx137_2 hx137_3 hx137_4 hx137_5 hx137_6 hx137_7)
                      (try clear hx137_0 hx137_1 hx137_2 hx137_3 hx137_4 hx137_5 hx137_6 hx137_7)
                      go_wp2_with (first | ((with_reducible refine gate_callee (f := 140) rfl ?_); refine goesL_ (some 37) rfl rfl Try.func140 (by kernel_rfl) rfl #[.slice A138_3 ((rd_T40 l0 0).f3).length c138_3] rfl (by (try simp only [List.map_toArray, List.map_cons, List.map_nil]); first | done | rfl | (simp only [List.length_drop, List.length_take]; rfl)) ?_; (with_reducible refine (spec_l8Uids.calls kj3 _ _ ((rd_T40 l0 0).f3) true _ ?side1 ?side2 A15.out).mono ?_); (case side1 => repeat (first | exact HR138_3.out | (with_reducible refine Kd.C_alloc ?_ _) | (with_reducible refine Kd.C_drewN ?_ _) | (with_reducible refine Kd.C_drew ?_))); (case side2 => exact HC138_3.out); rintro e w' ⟨rfl, ⟨nd, rfl⟩⟩; refine ⟨_, rfl, ?_⟩; have p140 : 0 ≤ (0 : Int) := (by omega); have q140 : 0 < (l0.length : Int) := of_decide_eq_true (by first | (with_reducible assumption) | assumption); obtain ⟨ad140, A140_3, c140_3, A140_7, c140_7, e140, hx140_0, hx140_1, hx140_2, hx140_3, hx140_4, hx140_5, hx140_6, hx140_7, hl140_3, hi140_3, hl140_7, hi140_7⟩ := at_T40 HR0.out 0 p140 q140; obtain rfl : ad137 = ad140 := (by injection e140); have qi140 : (0 < l0.length) = True := eq_true (by omega); (try rw [show ((0 : Int)).toNat = 0 from rfl] at hx140_0); (try rw [show 0 * 8 = 0 from rfl] at hx140_0); (try rw [Addr.add_zero'] at hx140_0); (try rw [show ((0 : Int)).toNat = 0 from rfl] at hx140_1); (try rw [show 0 * 8 = 0 from rfl] at hx140_1); (try rw [Addr.add_zero'] at hx140_1); (try rw [show ((0 : Int)).toNat = 0 from rfl] at hx140_2); (try rw [show 0 * 8 = 0 from rfl] at hx140_2); (try rw [Addr.add_zero'] at hx140_2); (try rw [show ((0 : Int)).toNat = 0 from rfl] at hx140_3); (try rw [show 0 * 8 = 0 from rfl] at hx140_3); (try rw [Addr.add_zero'] at hx140_3); (try rw [show ((0 : Int)).toNat = 0 from rfl] at hx140_4); (try rw [show 0 * 8 = 0 from rfl] at hx140_4); (try rw [Addr.add_zero'] at hx140_4); (try rw [show ((0 : Int)).toNat = 0 from rfl] at hx140_5); (try rw [show 0 * 8 = 0 from rfl] at hx140_5); (try rw [Addr.add_zero'] at hx140_5); (try rw [show ((0 : Int)).toNat = 0 from rfl] at hx140_6); (try rw [show 0 * 8 = 0 from rfl] at hx140_6); (try rw [Addr.add_zero'] at hx140_6); (try rw [show ((0 : Int)).toNat = 0 from rfl] at hx140_7); (try rw [show 0 * 8 = 0 from rfl] at hx140_7); (try rw [Addr.add_zero'] at hx140_7); have HR140_3 := Aside0.mk hi140_3; have HC140_3 := Aside0.mk hl140_3; clear hi140_3 hl140_3; have HR140_7 := Aside0.mk hi140_7; have HC140_7 := Aside0.mk hl140_7; clear hi140_7 hl140_7; replace p140 := eq_true p140; replace q140 := eq_true q140; have ea_ := Option.some.inj (hx138_3.symm.trans hx140_3); injection ea_ with ea_ en_ ec_; subst ea_; subst ec_; clear en_; have ea_ := Option.some.inj (hx138_7.symm.trans hx140_7); injection ea_ with ea_ en_ ec_; subst ea_; subst ec_; clear en_; (try clear hx140_0); (try clear hx140_1); (try clear hx140_2); (try clear hx140_3); (try clear hx140_4); (try clear hx140_5); (try clear hx140_6); (try clear hx140_7); (try clear qi140); have p147 : 0 ≤ (0 : Int) := (by omega); have q147 : 0 < (l0.length : Int) := of_decide_eq_true (by first | (with_reducible assumption) | assumption); obtain ⟨ad147, A147_3, c147_3, A147_7, c147_7, e147, hx147_0, hx147_1, hx147_2, hx147_3, hx147_4, hx147_5, hx147_6, hx147_7, hl147_3, hi147_3, hl147_7, hi147_7⟩ := at_T40 HR0.out 0 p147 q147; obtain rfl : ad137 = ad147 := (by injection e147); have qi147 : (0 < l0.length) = True := eq_true (by omega); (try rw [show ((0 : Int)).toNat = 0 from rfl] at hx147_0); (try rw [show 0 * 8 = 0 from rfl] at hx147_0); (try rw [Addr.add_zero'] at hx147_0); (try rw [show ((0 : Int)).toNat = 0 from rfl] at hx147_1); (try rw [show 0 * 8 = 0 from rfl] at hx147_1); (try rw [Addr.add_zero'] at hx147_1); (try rw [show ((0 : Int)).toNat = 0 from rfl] at hx147_2); (try rw [show 0 * 8 = 0 from rfl] at hx147_2); (try rw [Addr.add_zero'] at hx147_2); (try rw [show ((0 : Int)).toNat = 0 from rfl] at hx147_3); (try rw [show 0 * 8 = 0 from rfl] at hx147_3); (try rw [Addr.add_zero'] at hx147_3); (try rw [show ((0 : Int)).toNat = 0 from rfl] at hx147_4); (try rw [show 0 * 8 = 0 from rfl] at hx147_4); (try rw [Addr.add_zero'] at hx147_4); (try rw [show ((0 : Int)).toNat = 0 from rfl] at hx147_5); (try rw [show 0 * 8 = 0 from rfl] at hx147_5); (try rw [Addr.add_zero'] at hx147_5); (try rw [show ((0 : Int)).toNat = 0 from rfl] at hx147_6); (try rw [show 0 * 8 = 0 from rfl] at hx147_6); (try rw [Addr.add_zero'] at hx147_6); (try rw [show ((0 : Int)).toNat = 0 from rfl] at hx147_7); (try rw [show 0 * 8 = 0 from rfl] at hx147_7); (try rw [Addr.add_zero'] at hx147_7); have HR147_3 := Aside0.mk hi147_3; have HC147_3 := Aside0.mk hl147_3; clear hi147_3 hl147_3; have HR147_7 := Aside0.mk hi147_7; have HC147_7 := Aside0.mk hl147_7; clear hi147_7 hl147_7; replace p147 := eq_true p147; replace q147 := eq_true q147; have ea_ := Option.some.inj (hx138_3.symm.trans hx147_3); injection ea_ with ea_ en_ ec_; subst ea_; subst ec_; clear en_; have ea_ := Option.some.inj (hx138_7.symm.trans hx147_7); injection ea_ with ea_ en_ ec_; subst ea_; subst ec_; clear en_; (try clear hx147_0); (try clear hx147_1); (try clear hx147_2); (try clear hx147_3); (try clear hx147_4); (try clear hx147_5); (try clear hx147_6); (try clear hx147_7); (try clear qi147)) | (go_at_call 141; (with_reducible refine (spec_l1In.calls ((rd_T40 l0 0).f5) 0 15 false _ A23.out).mono ?_); rintro e w' ⟨rfl, ⟨nd, rfl⟩⟩))
                      go_meet
                      case rel => exact ⟨_, (true), (by first | rfl | (simp; done) | (simp [*]; done) | (simp; generalize ByteArray.toList _ = zq_; cases zq_ <;> rfl)), H', ⟨by have := HJ3.out; first | omega | exact Nat.le_refl _⟩, by repeat (first | exact Drawn0.refl _ | apply Drawn0.step)⟩
                · replace c16 := Bool.eq_false_iff.mpr c16
                  subst c16
                  have H1 : (spec_l8Fault.j1 kj3 l0 true) = some r := by rw [if_neg (show ¬ (false = true) by decide)] at H; exact H
                  clear H
                  have H := H1
                  clear H1
                  have H' := Aside0.mk H
                  clear H
                  have p138 : 0 ≤ (0 : Int) := (by omega)
                  have q138 : 0 < (l0.length : Int) := of_decide_eq_true (by first | (with_reducible assumption) | assumption)
                  obtain ⟨ad138, A138_3, c138_3, A138_7, c138_7, e138, hx138_0, hx138_1, hx138_2, hx138_3, hx138_4, hx138_5, hx138_6, hx138_7, hl138_3, hi138_3, hl138_7, hi138_7⟩ := at_T40 HR0.out 0 p138 q138
                  obtain rfl : ad137 = ad138 := (by injection e138)
                  have qi138 : (0 < l0.length) = True := eq_true (by omega)
                  (try rw [show ((0 : Int)).toNat = 0 from rfl] at hx138_0)
                  (try rw [show 0 * 8 = 0 from rfl] at hx138_0)
                  (try rw [Addr.add_zero'] at hx138_0)
                  (try rw [show ((0 : Int)).toNat = 0 from rfl] at hx138_1)
                  (try rw [show 0 * 8 = 0 from rfl] at hx138_1)
                  (try rw [Addr.add_zero'] at hx138_1)
                  (try rw [show ((0 : Int)).toNat = 0 from rfl] at hx138_2)
                  (try rw [show 0 * 8 = 0 from rfl] at hx138_2)
                  (try rw [Addr.add_zero'] at hx138_2)
                  (try rw [show ((0 : Int)).toNat = 0 from rfl] at hx138_3)
                  (try rw [show 0 * 8 = 0 from rfl] at hx138_3)
                  (try rw [Addr.add_zero'] at hx138_3)
                  (try rw [show ((0 : Int)).toNat = 0 from rfl] at hx138_4)
                  (try rw [show 0 * 8 = 0 from rfl] at hx138_4)
                  (try rw [Addr.add_zero'] at hx138_4)
                  (try rw [show ((0 : Int)).toNat = 0 from rfl] at hx138_5)
                  (try rw [show 0 * 8 = 0 from rfl] at hx138_5)
                  (try rw [Addr.add_zero'] at hx138_5)
                  (try rw [show ((0 : Int)).toNat = 0 from rfl] at hx138_6)
                  (try rw [show 0 * 8 = 0 from rfl] at hx138_6)
                  (try rw [Addr.add_zero'] at hx138_6)
                  (try rw [show ((0 : Int)).toNat = 0 from rfl] at hx138_7)
                  (try rw [show 0 * 8 = 0 from rfl] at hx138_7)
                  (try rw [Addr.add_zero'] at hx138_7)
                  have HR138_3 := Aside0.mk hi138_3
                  have HC138_3 := Aside0.mk hl138_3
                  clear hi138_3 hl138_3
                  have HR138_7 := Aside0.mk hi138_7
                  have HC138_7 := Aside0.mk hl138_7
                  clear hi138_7 hl138_7
                  replace p138 := eq_true p138
                  replace q138 := eq_true q138
                  (try clear hx131_0 hx131_1 hx131_2 hx131_3 hx131_4 hx131_5 hx131_6 hx131_7)
                  (try clear hx131_0 hx131_1 hx131_2 hx131_3 hx131_4 hx131_5 hx131_6 hx131_7)
                  (try clear hx131_0 hx131_1 hx131_2 hx131_3 hx131_4 hx131_5 hx131_6 hx131_7)
                  (try clear hx137_0 hx137_1 hx137_2 hx137_3 hx137_4 hx137_5 hx137_6 hx137_7)
                  (try clear hx137_0 hx137_1 hx137_2 hx137_3 hx137_4 hx137_5 hx137_6 hx137_7)
                  go_wp2_with (first | ((with_reducible refine gate_callee (f := 140) rfl ?_); refine goesL_ (some 37) rfl rfl Try.func140 (by kernel_rfl) rfl #[.slice A138_3 ((rd_T40 l0 0).f3).length c138_3] rfl (by (try simp only [List.map_toArray, List.map_cons, List.map_nil]); first | done | rfl | (simp only [List.length_drop, List.length_take]; rfl)) ?_; (with_reducible refine (spec_l8Uids.calls kj3 _ _ ((rd_T40 l0 0).f3) false _ ?side1 ?side2 A15.out).mono ?_); (case side1 => repeat (first | exact HR138_3.out | (with_reducible refine Kd.C_alloc ?_ _) | (with_reducible refine Kd.C_drewN ?_ _) | (with_reducible refine Kd.C_drew ?_))); (case side2 => exact HC138_3.out); rintro e w' ⟨rfl, ⟨nd, rfl⟩⟩; refine ⟨_, rfl, ?_⟩))
                  go_meet
                  case rel => exact ⟨_, (true), (by first | rfl | (simp; done) | (simp [*]; done) | (simp; generalize ByteArray.toList _ = zq_; cases zq_ <;> rfl)), H', ⟨by have := HJ3.out; first | omega | exact Nat.le_refl _⟩, by repeat (first | exact Drawn0.refl _ | apply Drawn0.step)⟩
              case rest =>
                clear HC14
                try clear c1
                try clear p1
                try clear q1
                try clear hx1
                try clear qi1
                try clear c2
                try clear p2
                try clear c3
                try clear c5
                try clear c5b0
                try clear c5b1
                try clear c7
                try clear c8
                try clear c9
                try clear c11
                try clear c12
                try clear c12b0
                try clear c12b1
                try clear c13
                try clear c13b0
                try clear c13b1
                try clear p13
                try clear q13
                try clear hx13
                try clear qi13
                try clear c14
                try clear p14
                try clear q14
                try clear hx14
                try clear qi14
                try clear c16
                try clear c17
                try clear c17b0
                try clear c17b1
                try clear c19
                try clear c21
                try clear c24
                try clear hx131_0
                try clear hx131_1
                try clear hx131_2
                try clear hx131_3
                try clear hx131_4
                try clear hx131_5
                try clear hx131_6
                try clear hx131_7
                try clear hx133_0
                try clear hx133_1
                try clear hx133_2
                try clear hx133_3
                try clear hx133_4
                try clear hx133_5
                try clear hx133_6
                try clear hx133_7
                try clear hx135_0
                try clear hx135_1
                try clear hx135_2
                try clear hx135_3
                try clear hx135_4
                try clear hx135_5
                try clear hx135_6
                try clear hx135_7
                try clear hx137_0
                try clear hx137_1
                try clear hx137_2
                try clear hx137_3
                try clear hx137_4
                try clear hx137_5
                try clear hx137_6
                try clear hx137_7
                try clear hx138_0
                try clear hx138_1
                try clear hx138_2
                try clear hx138_3
                try clear hx138_4
                try clear hx138_5
                try clear hx138_6
                try clear hx138_7
                try clear hx140_0
                try clear hx140_1
                try clear hx140_2
                try clear hx140_3
                try clear hx140_4
                try clear hx140_5
                try clear hx140_6
                try clear hx140_7
                try clear hx141_0
                try clear hx141_1
                try clear hx141_2
                try clear hx141_3
                try clear hx141_4
                try clear hx141_5
                try clear hx141_6
                try clear hx141_7
                try clear hx143_0
                try clear hx143_1
                try clear hx143_2
                try clear hx143_3
                try clear hx143_4
                try clear hx143_5
                try clear hx143_6
                try clear hx143_7
                try clear hx145_0
                try clear hx145_1
                try clear hx145_2
                try clear hx145_3
                try clear hx145_4
                try clear hx145_5
                try clear hx145_6
                try clear hx145_7
                try clear hx147_0
                try clear hx147_1
                try clear hx147_2
                try clear hx147_3
                try clear hx147_4
                try clear hx147_5
                try clear hx147_6
                try clear hx147_7
                try clear hx149_0
                try clear hx149_1
                try clear hx149_2
                try clear hx149_3
                try clear hx149_4
                try clear hx149_5
                try clear hx149_6
                try clear hx149_7
                try clear p1
                try clear p131
                try clear p133
                try clear p135
                try clear p137
                try clear p138
                try clear p140
                try clear p141
                try clear p143
                try clear p145
                try clear p147
                try clear p149
                try clear p2
                try clear q1
                try clear q131
                try clear q133
                try clear q135
                try clear q137
                try clear q138
                try clear q140
                try clear q141
                try clear q143
                try clear q145
                try clear q147
                try clear q149
                obtain ⟨kq, x69_13, rfl, HA, HJ13, ⟨mc13, rfl⟩⟩ := hcut
                cases kq with
                | zero => exact absurd HA.out (by simp [spec_l8Fault.j1])
                | succ kj13 =>
                  have H := HA.out
                  clear HA
                  simp only [spec_l8Fault.j1] at H
                  by_cases c26 : x69_13 = true
                  · subst c26
                    have H1 : (some 3) = some r := by rw [if_pos rfl] at H; exact H
                    clear H
                    have H := H1
                    clear H1
                    obtain rfl := Option.some.inj H
                    go_wp2
                    go_ret
                    exact ⟨by first | rfl | (simp; done) | (simp [*]; done) | (simp; generalize ByteArray.toList _ = zq_; cases zq_ <;> rfl), by repeat (first | exact Drawn0.refl _ | apply Drawn0.step)⟩
                  · replace c26 := Bool.eq_false_iff.mpr c26
                    subst c26
                    have H1 : (if 0 < (l0.length : Int) then (if (((rd_T40 l0 0).f7).length : Int) > 400 then (some 2) else (some 0)) else (none)) = some r := by rw [if_neg (show ¬ (false = true) by decide)] at H; exact H
                    clear H
                    have H := H1
                    clear H1
                    by_cases c27 : 0 < (l0.length : Int)
                    · rw [if_pos c27] at H
                      have c27b0 : decide (0 < (l0.length : Int)) = true := decide_eq_true c27
                      have c27b1 : decide (0 < l0.length) = true := decide_eq_true (by omega)
                      clear c27
                      by_cases c28 : (((rd_T40 l0 0).f7).length : Int) > 400
                      · rw [if_pos c28] at H
                        have c28b0 : decide (400 < (((rd_T40 l0 0).f7).length : Int)) = true := decide_eq_true c28
                        have c28b1 : decide (400 < ((rd_T40 l0 0).f7).length) = true := decide_eq_true (by omega)
                        clear c28
                        obtain rfl := Option.some.inj H
                        have p151 : 0 ≤ (0 : Int) := (by omega)
                        have q151 : 0 < (l0.length : Int) := of_decide_eq_true (by first | (with_reducible assumption) | assumption)
                        obtain ⟨ad151, A151_3, c151_3, A151_7, c151_7, e151, hx151_0, hx151_1, hx151_2, hx151_3, hx151_4, hx151_5, hx151_6, hx151_7, hl151_3, hi151_3, hl151_7, hi151_7⟩ := at_T40 HR0.out 0 p151 q151
                        obtain rfl : ad137 = ad151 := (by injection e151)
                        have qi151 : (0 < l0.length) = True := eq_true (by omega)
                        (try rw [show ((0 : Int)).toNat = 0 from rfl] at hx151_0)
                        (try rw [show 0 * 8 = 0 from rfl] at hx151_0)
                        (try rw [Addr.add_zero'] at hx151_0)
                        (try rw [show ((0 : Int)).toNat = 0 from rfl] at hx151_1)
                        (try rw [show 0 * 8 = 0 from rfl] at hx151_1)
                        (try rw [Addr.add_zero'] at hx151_1)
                        (try rw [show ((0 : Int)).toNat = 0 from rfl] at hx151_2)
                        (try rw [show 0 * 8 = 0 from rfl] at hx151_2)
                        (try rw [Addr.add_zero'] at hx151_2)
                        (try rw [show ((0 : Int)).toNat = 0 from rfl] at hx151_3)
                        (try rw [show 0 * 8 = 0 from rfl] at hx151_3)
                        (try rw [Addr.add_zero'] at hx151_3)
                        (try rw [show ((0 : Int)).toNat = 0 from rfl] at hx151_4)
                        (try rw [show 0 * 8 = 0 from rfl] at hx151_4)
                        (try rw [Addr.add_zero'] at hx151_4)
                        (try rw [show ((0 : Int)).toNat = 0 from rfl] at hx151_5)
                        (try rw [show 0 * 8 = 0 from rfl] at hx151_5)
                        (try rw [Addr.add_zero'] at hx151_5)
                        (try rw [show ((0 : Int)).toNat = 0 from rfl] at hx151_6)
                        (try rw [show 0 * 8 = 0 from rfl] at hx151_6)
                        (try rw [Addr.add_zero'] at hx151_6)
                        (try rw [show ((0 : Int)).toNat = 0 from rfl] at hx151_7)
                        (try rw [show 0 * 8 = 0 from rfl] at hx151_7)
                        (try rw [Addr.add_zero'] at hx151_7)
                        have HR151_3 := Aside0.mk hi151_3
                        have HC151_3 := Aside0.mk hl151_3
                        clear hi151_3 hl151_3
                        have HR151_7 := Aside0.mk hi151_7
                        have HC151_7 := Aside0.mk hl151_7
                        clear hi151_7 hl151_7
                        replace p151 := eq_true p151
                        replace q151 := eq_true q151
                        (try clear hx131_0 hx131_1 hx131_2 hx131_3 hx131_4 hx131_5 hx131_6 hx131_7)
                        (try clear hx131_0 hx131_1 hx131_2 hx131_3 hx131_4 hx131_5 hx131_6 hx131_7)
                        (try clear hx131_0 hx131_1 hx131_2 hx131_3 hx131_4 hx131_5 hx131_6 hx131_7)
                        (try clear hx137_0 hx137_1 hx137_2 hx137_3 hx137_4 hx137_5 hx137_6 hx137_7)
                        (try clear hx137_0 hx137_1 hx137_2 hx137_3 hx137_4 hx137_5 hx137_6 hx137_7)
                        (try clear hx138_0 hx138_1 hx138_2 hx138_3 hx138_4 hx138_5 hx138_6 hx138_7)
                        (try clear hx138_0 hx138_1 hx138_2 hx138_3 hx138_4 hx138_5 hx138_6 hx138_7)
                        (try clear hx138_0 hx138_1 hx138_2 hx138_3 hx138_4 hx138_5 hx138_6 hx138_7)
                        (try clear hx138_0 hx138_1 hx138_2 hx138_3 hx138_4 hx138_5 hx138_6 hx138_7)
                        (try clear hx138_0 hx138_1 hx138_2 hx138_3 hx138_4 hx138_5 hx138_6 hx138_7)
                        (try clear hx138_0 hx138_1 hx138_2 hx138_3 hx138_4 hx138_5 hx138_6 hx138_7)
                        go_wp2
                        go_ret
                        exact ⟨by first | rfl | (simp; done) | (simp [*]; done) | (simp; generalize ByteArray.toList _ = zq_; cases zq_ <;> rfl), by repeat (first | exact Drawn0.refl _ | apply Drawn0.step)⟩
                      · rw [if_neg c28] at H
                        have c28b0 : decide (400 < (((rd_T40 l0 0).f7).length : Int)) = false := decide_eq_false c28
                        have c28b1 : decide (400 < ((rd_T40 l0 0).f7).length) = false := decide_eq_false (by omega)
                        clear c28
                        obtain rfl := Option.some.inj H
                        have p151 : 0 ≤ (0 : Int) := (by omega)
                        have q151 : 0 < (l0.length : Int) := of_decide_eq_true (by first | (with_reducible assumption) | assumption)
                        obtain ⟨ad151, A151_3, c151_3, A151_7, c151_7, e151, hx151_0, hx151_1, hx151_2, hx151_3, hx151_4, hx151_5, hx151_6, hx151_7, hl151_3, hi151_3, hl151_7, hi151_7⟩ := at_T40 HR0.out 0 p151 q151
                        obtain rfl : ad137 = ad151 := (by injection e151)
                        have qi151 : (0 < l0.length) = True := eq_true (by omega)
                        (try rw [show ((0 : Int)).toNat = 0 from rfl] at hx151_0)
                        (try rw [show 0 * 8 = 0 from rfl] at hx151_0)
                        (try rw [Addr.add_zero'] at hx151_0)
                        (try rw [show ((0 : Int)).toNat = 0 from rfl] at hx151_1)
                        (try rw [show 0 * 8 = 0 from rfl] at hx151_1)
                        (try rw [Addr.add_zero'] at hx151_1)
                        (try rw [show ((0 : Int)).toNat = 0 from rfl] at hx151_2)
                        (try rw [show 0 * 8 = 0 from rfl] at hx151_2)
                        (try rw [Addr.add_zero'] at hx151_2)
                        (try rw [show ((0 : Int)).toNat = 0 from rfl] at hx151_3)
                        (try rw [show 0 * 8 = 0 from rfl] at hx151_3)
                        (try rw [Addr.add_zero'] at hx151_3)
                        (try rw [show ((0 : Int)).toNat = 0 from rfl] at hx151_4)
                        (try rw [show 0 * 8 = 0 from rfl] at hx151_4)
                        (try rw [Addr.add_zero'] at hx151_4)
                        (try rw [show ((0 : Int)).toNat = 0 from rfl] at hx151_5)
                        (try rw [show 0 * 8 = 0 from rfl] at hx151_5)
                        (try rw [Addr.add_zero'] at hx151_5)
                        (try rw [show ((0 : Int)).toNat = 0 from rfl] at hx151_6)
                        (try rw [show 0 * 8 = 0 from rfl] at hx151_6)
                        (try rw [Addr.add_zero'] at hx151_6)
                        (try rw [show ((0 : Int)).toNat = 0 from rfl] at hx151_7)
                        (try rw [show 0 * 8 = 0 from rfl] at hx151_7)
                        (try rw [Addr.add_zero'] at hx151_7)
                        have HR151_3 := Aside0.mk hi151_3
                        have HC151_3 := Aside0.mk hl151_3
                        clear hi151_3 hl151_3
                        have HR151_7 := Aside0.mk hi151_7
                        have HC151_7 := Aside0.mk hl151_7
                        clear hi151_7 hl151_7
                        replace p151 := eq_true p151
                        replace q151 := eq_true q151
                        (try clear hx131_0 hx131_1 hx131_2 hx131_3 hx131_4 hx131_5 hx131_6 hx131_7)
                        (try clear hx131_0 hx131_1 hx131_2 hx131_3 hx131_4 hx131_5 hx131_6 hx131_7)
                        (try clear hx131_0 hx131_1 hx131_2 hx131_3 hx131_4 hx131_5 hx131_6 hx131_7)
                        (try clear hx137_0 hx137_1 hx137_2 hx137_3 hx137_4 hx137_5 hx137_6 hx137_7)
                        (try clear hx137_0 hx137_1 hx137_2 hx137_3 hx137_4 hx137_5 hx137_6 hx137_7)
                        (try clear hx138_0 hx138_1 hx138_2 hx138_3 hx138_4 hx138_5 hx138_6 hx138_7)
                        (try clear hx138_0 hx138_1 hx138_2 hx138_3 hx138_4 hx138_5 hx138_6 hx138_7)
                        (try clear hx138_0 hx138_1 hx138_2 hx138_3 hx138_4 hx138_5 hx138_6 hx138_7)
                        (try clear hx138_0 hx138_1 hx138_2 hx138_3 hx138_4 hx138_5 hx138_6 hx138_7)
                        (try clear hx138_0 hx138_1 hx138_2 hx138_3 hx138_4 hx138_5 hx138_6 hx138_7)
                        (try clear hx138_0 hx138_1 hx138_2 hx138_3 hx138_4 hx138_5 hx138_6 hx138_7)
                        go_wp2
                        go_ret
                        exact ⟨by first | rfl | (simp; done) | (simp [*]; done) | (simp; generalize ByteArray.toList _ = zq_; cases zq_ <;> rfl), by repeat (first | exact Drawn0.refl _ | apply Drawn0.step)⟩
                    · rw [if_neg c27] at H
                      exact absurd H (by simp)
          · rw [if_neg c12] at H
            exact absurd H (by simp)
  · replace c3 := Bool.eq_false_iff.mpr c3
    subst c3
    have H1 : (some 1) = some r := by rw [if_neg (show ¬ (false = true) by decide)] at H; exact H
    clear H
    have H := H1
    clear H1
    obtain rfl := Option.some.inj H
    go_enter Try.func82, Try.ntmps82
    go_wp2_with (first | ((with_reducible refine gate_callee (f := 137) rfl ?_); refine goesL_ (some 4) rfl rfl Try.func137 (by kernel_rfl) rfl #[.pointer A0] rfl (by (try simp only [List.map_toArray, List.map_cons, List.map_nil]); first | done | rfl | (simp only [List.length_drop, List.length_take]; rfl)) ?_; (with_reducible refine (spec_l8Form.calls k _ (l0).length l0 false _ ?side1 ?side2 A2.out).mono ?_); (case side1 => repeat (first | exact HR0.out | (with_reducible refine Kd.C_alloc ?_ _) | (with_reducible refine Kd.C_drewN ?_ _) | (with_reducible refine Kd.C_drew ?_))); (case side2 => exact Nat.le_refl _); rintro e w' ⟨rfl, ⟨nd, rfl⟩⟩; refine ⟨_, rfl, ?_⟩))
    go_ret
    exact ⟨by first | rfl | (simp; done) | (simp [*]; done) | (simp; generalize ByteArray.toList _ = zq_; cases zq_ <;> rfl), by repeat (first | exact Drawn0.refl _ | apply Drawn0.step)⟩

end Go.Proofs.Ytfbgfakdflifdaa.PFnExactOpFault

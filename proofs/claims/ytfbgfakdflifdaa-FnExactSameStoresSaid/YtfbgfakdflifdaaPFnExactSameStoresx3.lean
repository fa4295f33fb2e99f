/- Functions of the program as Lean functions, each with the proof that its call comes to what that function says (texts written by a program of this session). Conditions: those that stand in each theorem. -/
import Derived.Test.YtfbgfakdflifdaaPFnExactSameStoresx0
import Derived.Test.YtfbgfakdflifdaaPFnExactSameStoresx2
namespace Go.Proofs.Ytfbgfakdflifdaa.PFnExactSameStores
open Go.RowKit Go.Proofs.YtfbgfakdflifdaaW.PrintWords Go.Proofs.YtfbgfakdflifdaaW.PrintLast Go.Proofs.YtfbgfakdflifdaaW.PrintMore
attribute [local go_sem] max2_int min2_int max_two min_two max_three min_three max_four min_four   -- for this text's walks alone
set_option linter.unusedVariables false
set_option linter.unusedSimpArgs false

/-! ### spec_l7SameBox: function 149 -/
mutual
def spec_l7SameBox.j0 : Nat → List (S51) → List (S51) → Bool → Option (Bool)
  | 0, _, _, _ => none
  | k + 1, x0, x1, x49 => if x49 = true then (some false) else (spec_l7SameBox.l0 k x0 x1 0)
def spec_l7SameBox.l0 : Nat → List (S51) → List (S51) → Int → Option (Bool)
  | 0, _, _, _ => none
  | k + 1, x0, x1, x5 => if 0 < (x0.length : Int) then (if x5 < (((rd_T51 x0 0).f3).length : Int) then (if 0 ≤ x5 then (if 0 < (x1.length : Int) then (if x5 < (((rd_T51 x1 0).f3).length : Int) then ((spec_l7SameMessage.f (((rd_T51 x0 0).f3).drop (x5 : Int).toNat) (((rd_T51 x1 0).f3).drop (x5 : Int).toNat)).bind fun t134 => (if t134 = true then (spec_l7SameBox.l0 k x0 x1 (wrap64 (x5 + 1))) else (some false))) else (none)) else (none)) else (none)) else (some true)) else (none)
end
def spec_l7SameBox.f (k : Nat) (l0 : List (S51)) (l1 : List (S51)) : Option (Bool) := if 0 < (l0.length : Int) then (if 0 < (l1.length : Int) then (if ((rd_T51 l0 0).f0).toList = ((rd_T51 l1 0).f0).toList then (if ((rd_T51 l0 0).f1) = ((rd_T51 l1 0).f1) then (if ((rd_T51 l0 0).f2) = ((rd_T51 l1 0).f2) then (spec_l7SameBox.j0 k l0 l1 ((((rd_T51 l0 0).f3).length : Int) != (((rd_T51 l1 0).f3).length : Int))) else (spec_l7SameBox.j0 k l0 l1 true)) else (spec_l7SameBox.j0 k l0 l1 true)) else (spec_l7SameBox.j0 k l0 l1 true)) else (none)) else (none)
theorem spec_l7SameBox.mono_l : ∀ k, (∀ y0 y1 y2, LeO (spec_l7SameBox.j0 k y0 y1 y2) (spec_l7SameBox.j0 (k + 1) y0 y1 y2)) ∧ (∀ y0 y1 y2, LeO (spec_l7SameBox.l0 k y0 y1 y2) (spec_l7SameBox.l0 (k + 1) y0 y1 y2))
  | 0 => ⟨fun _ _ _ r h => by simp [spec_l7SameBox.j0] at h, fun _ _ _ r h => by simp [spec_l7SameBox.l0] at h⟩
  | k + 1 => by
    obtain ⟨ih0, ih1⟩ := spec_l7SameBox.mono_l k
    refine ⟨?_, ?_⟩
    · intro y0 y1 y2
      unfold spec_l7SameBox.j0
      repeat' first
      | (with_reducible exact ih0 _ _ _)
      | (with_reducible exact ih1 _ _ _)
      | (with_reducible exact LeO.refl _)
      | (with_reducible exact LeO.none _)
      | (with_reducible refine LeO.ite ?_ ?_)
      | (with_reducible refine LeO.bind ?_ (fun _ => ?_))
      | exact ih0 _ _ _
      | exact ih1 _ _ _
      | exact LeO.none _
      | refine LeO.ite ?_ ?_
      | refine LeO.bind ?_ (fun _ => ?_)
    · intro y0 y1 y2
      unfold spec_l7SameBox.l0
      repeat' first
      | (with_reducible exact ih0 _ _ _)
      | (with_reducible exact ih1 _ _ _)
      | (with_reducible exact LeO.refl _)
      | (with_reducible exact LeO.none _)
      | (with_reducible refine LeO.ite ?_ ?_)
      | (with_reducible refine LeO.bind ?_ (fun _ => ?_))
      | exact ih0 _ _ _
      | exact ih1 _ _ _
      | exact LeO.none _
      | refine LeO.ite ?_ ?_
      | refine LeO.bind ?_ (fun _ => ?_)
theorem spec_l7SameBox.mono : ∀ a0 a1 k, LeO (spec_l7SameBox.f k a0 a1) (spec_l7SameBox.f (k + 1) a0 a1) := by
  intro a0 a1 k
  obtain ⟨ih0, ih1⟩ := spec_l7SameBox.mono_l k
  unfold spec_l7SameBox.f
  repeat' first
      | (with_reducible exact ih0 _ _ _)
      | (with_reducible exact ih1 _ _ _)
      | (with_reducible exact LeO.refl _)
      | (with_reducible exact LeO.none _)
      | (with_reducible refine LeO.ite ?_ ?_)
      | (with_reducible refine LeO.bind ?_ (fun _ => ?_))
      | exact ih0 _ _ _
      | exact ih1 _ _ _
      | exact LeO.none _
      | refine LeO.ite ?_ ?_
      | refine LeO.bind ?_ (fun _ => ?_)
set_option maxHeartbeats 8000000 in
set_option maxRecDepth 100000 in
theorem spec_l7SameBox.calls (k : Nat) (A0 : Option Addr) (c0 : Nat) (l0 : List (S51)) (A1 : Option Addr) (c1 : Nat) (l1 : List (S51)) (r : Bool) (w : World) (hr0 : Kd.C k51 w A0 l0.length l0) (hc0 : l0.length ≤ c0) (hr1 : Kd.C k51 w A1 l1.length l1) (hc1 : l1.length ≤ c1) (h : spec_l7SameBox.f k l0 l1 = some r) :
    Calls Try.prog 149 #[.pointer A0, .pointer A1] w fun e w' => e = .returned (.bool r) ∧ Drawn0 w w' := by
  have HR0 := Aside0.mk hr0
  have HC0 := Aside0.mk hc0
  clear hr0 hc0
  have HR1 := Aside0.mk hr1
  have HC1 := Aside0.mk hc1
  clear hr1 hc1
  have H : (if 0 < (l0.length : Int) then (if 0 < (l1.length : Int) then (if ((rd_T51 l0 0).f0).toList = ((rd_T51 l1 0).f0).toList then (if ((rd_T51 l0 0).f1) = ((rd_T51 l1 0).f1) then (if ((rd_T51 l0 0).f2) = ((rd_T51 l1 0).f2) then (spec_l7SameBox.j0 k l0 l1 ((((rd_T51 l0 0).f3).length : Int) != (((rd_T51 l1 0).f3).length : Int))) else (spec_l7SameBox.j0 k l0 l1 true)) else (spec_l7SameBox.j0 k l0 l1 true)) else (spec_l7SameBox.j0 k l0 l1 true)) else (none)) else (none)) = some r := h
  clear h
  have HC3 := Aside0.mk H
  clear H
  go_enter Try.func149, Try.ntmps149
  go_upto_region 1 with (fail)
  repeat (go_quiet (fail); go_upto_region 1 with (fail))
  go_cut [49] (fun v49 wc => ∃ (kq : Nat) (x49_2 : Bool), v49 = .bool x49_2 ∧ Aside0 (spec_l7SameBox.j0 kq l0 l1 x49_2 = some r) ∧ Aside0 (kq ≤ k) ∧ Drawn0 w wc)
  case first =>
    have H := HC3.out
    clear HC3
    by_cases c4 : 0 < (l0.length : Int)
    · rw [if_pos c4] at H
      have c4b0 : decide (0 < (l0.length : Int)) = true := decide_eq_true c4
      have c4b1 : decide (0 < l0.length) = true := decide_eq_true (by omega)
      clear c4
      (first | rw [c4b0] | (simp only [i64_w, i32_w]; rw [c4b0]) | skip)
      by_cases c5 : 0 < (l1.length : Int)
      · rw [if_pos c5] at H
        have c5b0 : decide (0 < (l1.length : Int)) = true := decide_eq_true c5
        have c5b1 : decide (0 < l1.length) = true := decide_eq_true (by omega)
        clear c5
        by_cases c6 : ((rd_T51 l0 0).f0).toList = ((rd_T51 l1 0).f0).toList
        · rw [if_pos c6] at H
          have c6b0 : (((rd_T51 l0 0).f0).toList == ((rd_T51 l1 0).f0).toList) = true := beq_iff_eq.mpr c6
          have c6b1 : (((rd_T51 l0 0).f0).toList != ((rd_T51 l1 0).f0).toList) = false := bne_eq_false_iff_eq.mpr c6
          clear c6
          by_cases c7 : ((rd_T51 l0 0).f1) = ((rd_T51 l1 0).f1)
          · rw [if_pos c7] at H
            have c7b0 : (((rd_T51 l0 0).f1) == ((rd_T51 l1 0).f1)) = true := beq_iff_eq.mpr c7
            have c7b1 : (((rd_T51 l0 0).f1) != ((rd_T51 l1 0).f1)) = false := bne_eq_false_iff_eq.mpr c7
            clear c7
            by_cases c8 : ((rd_T51 l0 0).f2) = ((rd_T51 l1 0).f2)
            · rw [if_pos c8] at H
              have c8b0 : (((rd_T51 l0 0).f2) == ((rd_T51 l1 0).f2)) = true := beq_iff_eq.mpr c8
              have c8b1 : (((rd_T51 l0 0).f2) != ((rd_T51 l1 0).f2)) = false := bne_eq_false_iff_eq.mpr c8
              clear c8
              have H' := Aside0.mk H
              clear H
              have p119 : 0 ≤ (0 : Int) := (by omega)
              have q119 : 0 < (l0.length : Int) := of_decide_eq_true (by first | (with_reducible assumption) | assumption)
              obtain ⟨ad119, A119_3, c119_3, e119, hx119_0, hx119_1, hx119_2, hx119_3, hl119_3, hi119_3⟩ := at_T51 HR0.out 0 p119 q119
              cases e119
              have qi119 : (0 < l0.length) = True := eq_true (by omega)
              (try rw [show ((0 : Int)).toNat = 0 from rfl] at hx119_0)
              (try rw [show 0 * 4 = 0 from rfl] at hx119_0)
              (try rw [Addr.add_zero'] at hx119_0)
              (try rw [show ((0 : Int)).toNat = 0 from rfl] at hx119_1)
              (try rw [show 0 * 4 = 0 from rfl] at hx119_1)
              (try rw [Addr.add_zero'] at hx119_1)
              (try rw [show ((0 : Int)).toNat = 0 from rfl] at hx119_2)
              (try rw [show 0 * 4 = 0 from rfl] at hx119_2)
              (try rw [Addr.add_zero'] at hx119_2)
              (try rw [show ((0 : Int)).toNat = 0 from rfl] at hx119_3)
              (try rw [show 0 * 4 = 0 from rfl] at hx119_3)
              (try rw [Addr.add_zero'] at hx119_3)
              have HR119_3 := Aside0.mk hi119_3
              have HC119_3 := Aside0.mk hl119_3
              clear hi119_3 hl119_3
              replace p119 := eq_true p119
              replace q119 := eq_true q119
              have p120 : 0 ≤ (0 : Int) := (by omega)
              have q120 : 0 < (l1.length : Int) := of_decide_eq_true (by first | (with_reducible assumption) | assumption)
              obtain ⟨ad120, A120_3, c120_3, e120, hx120_0, hx120_1, hx120_2, hx120_3, hl120_3, hi120_3⟩ := at_T51 HR1.out 0 p120 q120
              cases e120
              have qi120 : (0 < l1.length) = True := eq_true (by omega)
              (try rw [show ((0 : Int)).toNat = 0 from rfl] at hx120_0)
              (try rw [show 0 * 4 = 0 from rfl] at hx120_0)
              (try rw [Addr.add_zero'] at hx120_0)
              (try rw [show ((0 : Int)).toNat = 0 from rfl] at hx120_1)
              (try rw [show 0 * 4 = 0 from rfl] at hx120_1)
              (try rw [Addr.add_zero'] at hx120_1)
              (try rw [show ((0 : Int)).toNat = 0 from rfl] at hx120_2)
              (try rw [show 0 * 4 = 0 from rfl] at hx120_2)
              (try rw [Addr.add_zero'] at hx120_2)
              (try rw [show ((0 : Int)).toNat = 0 from rfl] at hx120_3)
              (try rw [show 0 * 4 = 0 from rfl] at hx120_3)
              (try rw [Addr.add_zero'] at hx120_3)
              have HR120_3 := Aside0.mk hi120_3
              have HC120_3 := Aside0.mk hl120_3
              clear hi120_3 hl120_3
              replace p120 := eq_true p120
              replace q120 := eq_true q120
              have p121 : 0 ≤ (0 : Int) := (by omega)
              have q121 : 0 < (l0.length : Int) := of_decide_eq_true (by first | (with_reducible assumption) | assumption)
              obtain ⟨ad121, A121_3, c121_3, e121, hx121_0, hx121_1, hx121_2, hx121_3, hl121_3, hi121_3⟩ := at_T51 HR0.out 0 p121 q121
              obtain rfl : ad119 = ad121 := (by injection e121)
              have qi121 : (0 < l0.length) = True := eq_true (by omega)
              (try rw [show ((0 : Int)).toNat = 0 from rfl] at hx121_0)
              (try rw [show 0 * 4 = 0 from rfl] at hx121_0)
              (try rw [Addr.add_zero'] at hx121_0)
              (try rw [show ((0 : Int)).toNat = 0 from rfl] at hx121_1)
              (try rw [show 0 * 4 = 0 from rfl] at hx121_1)
              (try rw [Addr.add_zero'] at hx121_1)
              (try rw [show ((0 : Int)).toNat = 0 from rfl] at hx121_2)
              (try rw [show 0 * 4 = 0 from rfl] at hx121_2)
              (try rw [Addr.add_zero'] at hx121_2)
              (try rw [show ((0 : Int)).toNat = 0 from rfl] at hx121_3)
              (try rw [show 0 * 4 = 0 from rfl] at hx121_3)
              (try rw [Addr.add_zero'] at hx121_3)
              have HR121_3 := Aside0.mk hi121_3
              have HC121_3 := Aside0.mk hl121_3
              clear hi121_3 hl121_3
              replace p121 := eq_true p121
              replace q121 := eq_true q121
              have ea_ := Option.some.inj (hx119_3.symm.trans hx121_3)
              injection ea_ with ea_ en_ ec_
              subst ea_
              subst ec_
              clear en_
              have p122 : 0 ≤ (0 : Int) := (by omega)
              have q122 : 0 < (l1.length : Int) := of_decide_eq_true (by first | (with_reducible assumption) | assumption)
              obtain ⟨ad122, A122_3, c122_3, e122, hx122_0, hx122_1, hx122_2, hx122_3, hl122_3, hi122_3⟩ := at_T51 HR1.out 0 p122 q122
              obtain rfl : ad120 = ad122 := (by injection e122)
              have qi122 : (0 < l1.length) = True := eq_true (by omega)
              (try rw [show ((0 : Int)).toNat = 0 from rfl] at hx122_0)
              (try rw [show 0 * 4 = 0 from rfl] at hx122_0)
              (try rw [Addr.add_zero'] at hx122_0)
              (try rw [show ((0 : Int)).toNat = 0 from rfl] at hx122_1)
              (try rw [show 0 * 4 = 0 from rfl] at hx122_1)
              (try rw [Addr.add_zero'] at hx122_1)
              (try rw [show ((0 : Int)).toNat = 0 from rfl] at hx122_2)
              (try rw [show 0 * 4 = 0 from rfl] at hx122_2)
              (try rw [Addr.add_zero'] at hx122_2)
              (try rw [show ((0 : Int)).toNat = 0 from rfl] at hx122_3)
              (try rw [show 0 * 4 = 0 from rfl] at hx122_3)
              (try rw [Addr.add_zero'] at hx122_3)
              have HR122_3 := Aside0.mk hi122_3
              have HC122_3 := Aside0.mk hl122_3
              clear hi122_3 hl122_3
              replace p122 := eq_true p122
              replace q122 := eq_true q122
              have ea_ := Option.some.inj (hx120_3.symm.trans hx122_3)
              injection ea_ with ea_ en_ ec_
              subst ea_
              subst ec_
              clear en_
              have p123 : 0 ≤ (0 : Int) := (by omega)
              have q123 : 0 < (l0.length : Int) := of_decide_eq_true (by first | (with_reducible assumption) | assumption)
              obtain ⟨ad123, A123_3, c123_3, e123, hx123_0, hx123_1, hx123_2, hx123_3, hl123_3, hi123_3⟩ := at_T51 HR0.out 0 p123 q123
              obtain rfl : ad119 = ad123 := (by injection e123)
              have qi123 : (0 < l0.length) = True := eq_true (by omega)
              (try rw [show ((0 : Int)).toNat = 0 from rfl] at hx123_0)
              (try rw [show 0 * 4 = 0 from rfl] at hx123_0)
              (try rw [Addr.add_zero'] at hx123_0)
              (try rw [show ((0 : Int)).toNat = 0 from rfl] at hx123_1)
              (try rw [show 0 * 4 = 0 from rfl] at hx123_1)
              (try rw [Addr.add_zero'] at hx123_1)
              (try rw [show ((0 : Int)).toNat = 0 from rfl] at hx123_2)
              (try rw [show 0 * 4 = 0 from rfl] at hx123_2)
              (try rw [Addr.add_zero'] at hx123_2)
              (try rw [show ((0 : Int)).toNat = 0 from rfl] at hx123_3)
              (try rw [show 0 * 4 = 0 from rfl] at hx123_3)
              (try rw [Addr.add_zero'] at hx123_3)
              have HR123_3 := Aside0.mk hi123_3
              have HC123_3 := Aside0.mk hl123_3
              clear hi123_3 hl123_3
              replace p123 := eq_true p123
              replace q123 := eq_true q123
              have ea_ := Option.some.inj (hx119_3.symm.trans hx123_3)
              injection ea_ with ea_ en_ ec_
              subst ea_
              subst ec_
              clear en_
              have p124 : 0 ≤ (0 : Int) := (by omega)
              have q124 : 0 < (l1.length : Int) := of_decide_eq_true (by first | (with_reducible assumption) | assumption)
              obtain ⟨ad124, A124_3, c124_3, e124, hx124_0, hx124_1, hx124_2, hx124_3, hl124_3, hi124_3⟩ := at_T51 HR1.out 0 p124 q124
              obtain rfl : ad120 = ad124 := (by injection e124)
              have qi124 : (0 < l1.length) = True := eq_true (by omega)
              (try rw [show ((0 : Int)).toNat = 0 from rfl] at hx124_0)
              (try rw [show 0 * 4 = 0 from rfl] at hx124_0)
              (try rw [Addr.add_zero'] at hx124_0)
              (try rw [show ((0 : Int)).toNat = 0 from rfl] at hx124_1)
              (try rw [show 0 * 4 = 0 from rfl] at hx124_1)
              (try rw [Addr.add_zero'] at hx124_1)
              (try rw [show ((0 : Int)).toNat = 0 from rfl] at hx124_2)
              (try rw [show 0 * 4 = 0 from rfl] at hx124_2)
              (try rw [Addr.add_zero'] at hx124_2)
              (try rw [show ((0 : Int)).toNat = 0 from rfl] at hx124_3)
              (try rw [show 0 * 4 = 0 from rfl] at hx124_3)
              (try rw [Addr.add_zero'] at hx124_3)
              have HR124_3 := Aside0.mk hi124_3
              have HC124_3 := Aside0.mk hl124_3
              clear hi124_3 hl124_3
              replace p124 := eq_true p124
              replace q124 := eq_true q124
              have ea_ := Option.some.inj (hx120_3.symm.trans hx124_3)
              injection ea_ with ea_ en_ ec_
              subst ea_
              subst ec_
              clear en_
              have p125 : 0 ≤ (0 : Int) := (by omega)
              have q125 : 0 < (l0.length : Int) := of_decide_eq_true (by first | (with_reducible assumption) | assumption)
              obtain ⟨ad125, A125_3, c125_3, e125, hx125_0, hx125_1, hx125_2, hx125_3, hl125_3, hi125_3⟩ := at_T51 HR0.out 0 p125 q125
              obtain rfl : ad119 = ad125 := (by injection e125)
              have qi125 : (0 < l0.length) = True := eq_true (by omega)
              (try rw [show ((0 : Int)).toNat = 0 from rfl] at hx125_0)
              (try rw [show 0 * 4 = 0 from rfl] at hx125_0)
              (try rw [Addr.add_zero'] at hx125_0)
              (try rw [show ((0 : Int)).toNat = 0 from rfl] at hx125_1)
              (try rw [show 0 * 4 = 0 from rfl] at hx125_1)
              (try rw [Addr.add_zero'] at hx125_1)
              (try rw [show ((0 : Int)).toNat = 0 from rfl] at hx125_2)
              (try rw [show 0 * 4 = 0 from rfl] at hx125_2)
              (try rw [Addr.add_zero'] at hx125_2)
              (try rw [show ((0 : Int)).toNat = 0 from rfl] at hx125_3)
              (try rw [show 0 * 4 = 0 from rfl] at hx125_3)
              (try rw [Addr.add_zero'] at hx125_3)
              have HR125_3 := Aside0.mk hi125_3
              have HC125_3 := Aside0.mk hl125_3
              clear hi125_3 hl125_3
              replace p125 := eq_true p125
              replace q125 := eq_true q125
              have ea_ := Option.some.inj (hx119_3.symm.trans hx125_3)
              injection ea_ with ea_ en_ ec_
              subst ea_
              subst ec_
              clear en_
              have p126 : 0 ≤ (0 : Int) := (by omega)
              have q126 : 0 < (l1.length : Int) := of_decide_eq_true (by first | (with_reducible assumption) | assumption)
              obtain ⟨ad126, A126_3, c126_3, e126, hx126_0, hx126_1, hx126_2, hx126_3, hl126_3, hi126_3⟩ := at_T51 HR1.out 0 p126 q126
              obtain rfl : ad120 = ad126 := (by injection e126)
              have qi126 : (0 < l1.length) = True := eq_true (by omega)
              (try rw [show ((0 : Int)).toNat = 0 from rfl] at hx126_0)
              (try rw [show 0 * 4 = 0 from rfl] at hx126_0)
              (try rw [Addr.add_zero'] at hx126_0)
              (try rw [show ((0 : Int)).toNat = 0 from rfl] at hx126_1)
              (try rw [show 0 * 4 = 0 from rfl] at hx126_1)
              (try rw [Addr.add_zero'] at hx126_1)
              (try rw [show ((0 : Int)).toNat = 0 from rfl] at hx126_2)
              (try rw [show 0 * 4 = 0 from rfl] at hx126_2)
              (try rw [Addr.add_zero'] at hx126_2)
              (try rw [show ((0 : Int)).toNat = 0 from rfl] at hx126_3)
              (try rw [show 0 * 4 = 0 from rfl] at hx126_3)
              (try rw [Addr.add_zero'] at hx126_3)
              have HR126_3 := Aside0.mk hi126_3
              have HC126_3 := Aside0.mk hl126_3
              clear hi126_3 hl126_3
              replace p126 := eq_true p126
              replace q126 := eq_true q126
              have ea_ := Option.some.inj (hx120_3.symm.trans hx126_3)
              injection ea_ with ea_ en_ ec_
              subst ea_
              subst ec_
              clear en_
              go_wp2
              repeat (go_quiet (fail); try go_wp2)
              go_meet
              case rel => exact ⟨_, (((((rd_T51 l0 0).f3).length : Int) != (((rd_T51 l1 0).f3).length : Int))), (by first | rfl | (simp; done) | (simp [*]; done)), H', ⟨by first | omega | exact Nat.le_refl _⟩, by repeat (first | exact Drawn0.refl _ | apply Drawn0.step)⟩
            · rw [if_neg c8] at H
              have c8b0 : (((rd_T51 l0 0).f2) == ((rd_T51 l1 0).f2)) = false := beq_eq_false_iff_ne.mpr c8
              have c8b1 : (((rd_T51 l0 0).f2) != ((rd_T51 l1 0).f2)) = true := bne_iff_ne.mpr c8
              have H' := Aside0.mk H
              clear H
              have p119 : 0 ≤ (0 : Int) := (by omega)
              have q119 : 0 < (l0.length : Int) := of_decide_eq_true (by first | (with_reducible assumption) | assumption)
              obtain ⟨ad119, A119_3, c119_3, e119, hx119_0, hx119_1, hx119_2, hx119_3, hl119_3, hi119_3⟩ := at_T51 HR0.out 0 p119 q119
              cases e119
              have qi119 : (0 < l0.length) = True := eq_true (by omega)
              (try rw [show ((0 : Int)).toNat = 0 from rfl] at hx119_0)
              (try rw [show 0 * 4 = 0 from rfl] at hx119_0)
              (try rw [Addr.add_zero'] at hx119_0)
              (try rw [show ((0 : Int)).toNat = 0 from rfl] at hx119_1)
              (try rw [show 0 * 4 = 0 from rfl] at hx119_1)
              (try rw [Addr.add_zero'] at hx119_1)
              (try rw [show ((0 : Int)).toNat = 0 from rfl] at hx119_2)
              (try rw [show 0 * 4 = 0 from rfl] at hx119_2)
              (try rw [Addr.add_zero'] at hx119_2)
              (try rw [show ((0 : Int)).toNat = 0 from rfl] at hx119_3)
              (try rw [show 0 * 4 = 0 from rfl] at hx119_3)
              (try rw [Addr.add_zero'] at hx119_3)
              have HR119_3 := Aside0.mk hi119_3
              have HC119_3 := Aside0.mk hl119_3
              clear hi119_3 hl119_3
              replace p119 := eq_true p119
              replace q119 := eq_true q119
              have p120 : 0 ≤ (0 : Int) := (by omega)
              have q120 : 0 < (l1.length : Int) := of_decide_eq_true (by first | (with_reducible assumption) | assumption)
              obtain ⟨ad120, A120_3, c120_3, e120, hx120_0, hx120_1, hx120_2, hx120_3, hl120_3, hi120_3⟩ := at_T51 HR1.out 0 p120 q120
              cases e120
              have qi120 : (0 < l1.length) = True := eq_true (by omega)
              (try rw [show ((0 : Int)).toNat = 0 from rfl] at hx120_0)
              (try rw [show 0 * 4 = 0 from rfl] at hx120_0)
              (try rw [Addr.add_zero'] at hx120_0)
              (try rw [show ((0 : Int)).toNat = 0 from rfl] at hx120_1)
              (try rw [show 0 * 4 = 0 from rfl] at hx120_1)
              (try rw [Addr.add_zero'] at hx120_1)
              (try rw [show ((0 : Int)).toNat = 0 from rfl] at hx120_2)
              (try rw [show 0 * 4 = 0 from rfl] at hx120_2)
              (try rw [Addr.add_zero'] at hx120_2)
              (try rw [show ((0 : Int)).toNat = 0 from rfl] at hx120_3)
              (try rw [show 0 * 4 = 0 from rfl] at hx120_3)
              (try rw [Addr.add_zero'] at hx120_3)
              have HR120_3 := Aside0.mk hi120_3
              have HC120_3 := Aside0.mk hl120_3
              clear hi120_3 hl120_3
              replace p120 := eq_true p120
              replace q120 := eq_true q120
              have p121 : 0 ≤ (0 : Int) := (by omega)
              have q121 : 0 < (l0.length : Int) := of_decide_eq_true (by first | (with_reducible assumption) | assumption)
              obtain ⟨ad121, A121_3, c121_3, e121, hx121_0, hx121_1, hx121_2, hx121_3, hl121_3, hi121_3⟩ := at_T51 HR0.out 0 p121 q121
              obtain rfl : ad119 = ad121 := (by injection e121)
              have qi121 : (0 < l0.length) = True := eq_true (by omega)
              (try rw [show ((0 : Int)).toNat = 0 from rfl] at hx121_0)
              (try rw [show 0 * 4 = 0 from rfl] at hx121_0)
              (try rw [Addr.add_zero'] at hx121_0)
              (try rw [show ((0 : Int)).toNat = 0 from rfl] at hx121_1)
              (try rw [show 0 * 4 = 0 from rfl] at hx121_1)
              (try rw [Addr.add_zero'] at hx121_1)
              (try rw [show ((0 : Int)).toNat = 0 from rfl] at hx121_2)
              (try rw [show 0 * 4 = 0 from rfl] at hx121_2)
              (try rw [Addr.add_zero'] at hx121_2)
              (try rw [show ((0 : Int)).toNat = 0 from rfl] at hx121_3)
              (try rw [show 0 * 4 = 0 from rfl] at hx121_3)
              (try rw [Addr.add_zero'] at hx121_3)
              have HR121_3 := Aside0.mk hi121_3
              have HC121_3 := Aside0.mk hl121_3
              clear hi121_3 hl121_3
              replace p121 := eq_true p121
              replace q121 := eq_true q121
              have ea_ := Option.some.inj (hx119_3.symm.trans hx121_3)
              injection ea_ with ea_ en_ ec_
              subst ea_
              subst ec_
              clear en_
              have p122 : 0 ≤ (0 : Int) := (by omega)
              have q122 : 0 < (l1.length : Int) := of_decide_eq_true (by first | (with_reducible assumption) | assumption)
              obtain ⟨ad122, A122_3, c122_3, e122, hx122_0, hx122_1, hx122_2, hx122_3, hl122_3, hi122_3⟩ := at_T51 HR1.out 0 p122 q122
              obtain rfl : ad120 = ad122 := (by injection e122)
              have qi122 : (0 < l1.length) = True := eq_true (by omega)
              (try rw [show ((0 : Int)).toNat = 0 from rfl] at hx122_0)
              (try rw [show 0 * 4 = 0 from rfl] at hx122_0)
              (try rw [Addr.add_zero'] at hx122_0)
              (try rw [show ((0 : Int)).toNat = 0 from rfl] at hx122_1)
              (try rw [show 0 * 4 = 0 from rfl] at hx122_1)
              (try rw [Addr.add_zero'] at hx122_1)
              (try rw [show ((0 : Int)).toNat = 0 from rfl] at hx122_2)
              (try rw [show 0 * 4 = 0 from rfl] at hx122_2)
              (try rw [Addr.add_zero'] at hx122_2)
              (try rw [show ((0 : Int)).toNat = 0 from rfl] at hx122_3)
              (try rw [show 0 * 4 = 0 from rfl] at hx122_3)
              (try rw [Addr.add_zero'] at hx122_3)
              have HR122_3 := Aside0.mk hi122_3
              have HC122_3 := Aside0.mk hl122_3
              clear hi122_3 hl122_3
              replace p122 := eq_true p122
              replace q122 := eq_true q122
              have ea_ := Option.some.inj (hx120_3.symm.trans hx122_3)
              injection ea_ with ea_ en_ ec_
              subst ea_
              subst ec_
              clear en_
              have p123 : 0 ≤ (0 : Int) := (by omega)
              have q123 : 0 < (l0.length : Int) := of_decide_eq_true (by first | (with_reducible assumption) | assumption)
              obtain ⟨ad123, A123_3, c123_3, e123, hx123_0, hx123_1, hx123_2, hx123_3, hl123_3, hi123_3⟩ := at_T51 HR0.out 0 p123 q123
              obtain rfl : ad119 = ad123 := (by injection e123)
              have qi123 : (0 < l0.length) = True := eq_true (by omega)
              (try rw [show ((0 : Int)).toNat = 0 from rfl] at hx123_0)
              (try rw [show 0 * 4 = 0 from rfl] at hx123_0)
              (try rw [Addr.add_zero'] at hx123_0)
              (try rw [show ((0 : Int)).toNat = 0 from rfl] at hx123_1)
              (try rw [show 0 * 4 = 0 from rfl] at hx123_1)
              (try rw [Addr.add_zero'] at hx123_1)
              (try rw [show ((0 : Int)).toNat = 0 from rfl] at hx123_2)
              (try rw [show 0 * 4 = 0 from rfl] at hx123_2)
              (try rw [Addr.add_zero'] at hx123_2)
              (try rw [show ((0 : Int)).toNat = 0 from rfl] at hx123_3)
              (try rw [show 0 * 4 = 0 from rfl] at hx123_3)
              (try rw [Addr.add_zero'] at hx123_3)
              have HR123_3 := Aside0.mk hi123_3
              have HC123_3 := Aside0.mk hl123_3
              clear hi123_3 hl123_3
              replace p123 := eq_true p123
              replace q123 := eq_true q123
              have ea_ := Option.some.inj (hx119_3.symm.trans hx123_3)
              injection ea_ with ea_ en_ ec_
              subst ea_
              subst ec_
              clear en_
              have p124 : 0 ≤ (0 : Int) := (by omega)
              have q124 : 0 < (l1.length : Int) := of_decide_eq_true (by first | (with_reducible assumption) | assumption)
              obtain ⟨ad124, A124_3, c124_3, e124, hx124_0, hx124_1, hx124_2, hx124_3, hl124_3, hi124_3⟩ := at_T51 HR1.out 0 p124 q124
              obtain rfl : ad120 = ad124 := (by injection e124)
              have qi124 : (0 < l1.length) = True := eq_true (by omega)
              (try rw [show ((0 : Int)).toNat = 0 from rfl] at hx124_0)
              (try rw [show 0 * 4 = 0 from rfl] at hx124_0)
              (try rw [Addr.add_zero'] at hx124_0)
              (try rw [show ((0 : Int)).toNat = 0 from rfl] at hx124_1)
              (try rw [show 0 * 4 = 0 from rfl] at hx124_1)
              (try rw [Addr.add_zero'] at hx124_1)
              (try rw [show ((0 : Int)).toNat = 0 from rfl] at hx124_2)
              (try rw [show 0 * 4 = 0 from rfl] at hx124_2)
              (try rw [Addr.add_zero'] at hx124_2)
              (try rw [show ((0 : Int)).toNat = 0 from rfl] at hx124_3)
              (try rw [show 0 * 4 = 0 from rfl] at hx124_3)
              (try rw [Addr.add_zero'] at hx124_3)
              have HR124_3 := Aside0.mk hi124_3
              have HC124_3 := Aside0.mk hl124_3
              clear hi124_3 hl124_3
              replace p124 := eq_true p124
              replace q124 := eq_true q124
              have ea_ := Option.some.inj (hx120_3.symm.trans hx124_3)
              injection ea_ with ea_ en_ ec_
              subst ea_
              subst ec_
              clear en_
              go_wp2
              repeat (go_quiet (fail); try go_wp2)
              go_meet
              case rel => exact ⟨_, (true), (by first | rfl | (simp; done) | (simp [*]; done)), H', ⟨by first | omega | exact Nat.le_refl _⟩, by repeat (first | exact Drawn0.refl _ | apply Drawn0.step)⟩
          · rw [if_neg c7] at H
            have c7b0 : (((rd_T51 l0 0).f1) == ((rd_T51 l1 0).f1)) = false := beq_eq_false_iff_ne.mpr c7
            have c7b1 : (((rd_T51 l0 0).f1) != ((rd_T51 l1 0).f1)) = true := bne_iff_ne.mpr c7
            have H' := Aside0.mk H
            clear H
            have p119 : 0 ≤ (0 : Int) := (by omega)
            have q119 : 0 < (l0.length : Int) := of_decide_eq_true (by first | (with_reducible assumption) | assumption)
            obtain ⟨ad119, A119_3, c119_3, e119, hx119_0, hx119_1, hx119_2, hx119_3, hl119_3, hi119_3⟩ := at_T51 HR0.out 0 p119 q119
            cases e119
            have qi119 : (0 < l0.length) = True := eq_true (by omega)
            (try rw [show ((0 : Int)).toNat = 0 from rfl] at hx119_0)
            (try rw [show 0 * 4 = 0 from rfl] at hx119_0)
            (try rw [Addr.add_zero'] at hx119_0)
            (try rw [show ((0 : Int)).toNat = 0 from rfl] at hx119_1)
            (try rw [show 0 * 4 = 0 from rfl] at hx119_1)
            (try rw [Addr.add_zero'] at hx119_1)
            (try rw [show ((0 : Int)).toNat = 0 from rfl] at hx119_2)
            (try rw [show 0 * 4 = 0 from rfl] at hx119_2)
            (try rw [Addr.add_zero'] at hx119_2)
            (try rw [show ((0 : Int)).toNat = 0 from rfl] at hx119_3)
            (try rw [show 0 * 4 = 0 from rfl] at hx119_3)
            (try rw [Addr.add_zero'] at hx119_3)
            have HR119_3 := Aside0.mk hi119_3
            have HC119_3 := Aside0.mk hl119_3
            clear hi119_3 hl119_3
            replace p119 := eq_true p119
            replace q119 := eq_true q119
            have p120 : 0 ≤ (0 : Int) := (by omega)
            have q120 : 0 < (l1.length : Int) := of_decide_eq_true (by first | (with_reducible assumption) | assumption)
            obtain ⟨ad120, A120_3, c120_3, e120, hx120_0, hx120_1, hx120_2, hx120_3, hl120_3, hi120_3⟩ := at_T51 HR1.out 0 p120 q120
            cases e120
            have qi120 : (0 < l1.length) = True := eq_true (by omega)
            (try rw [show ((0 : Int)).toNat = 0 from rfl] at hx120_0)
            (try rw [show 0 * 4 = 0 from rfl] at hx120_0)
            (try rw [Addr.add_zero'] at hx120_0)
            (try rw [show ((0 : Int)).toNat = 0 from rfl] at hx120_1)
            (try rw [show 0 * 4 = 0 from rfl] at hx120_1)
            (try rw [Addr.add_zero'] at hx120_1)
            (try rw [show ((0 : Int)).toNat = 0 from rfl] at hx120_2)
            (try rw [show 0 * 4 = 0 from rfl] at hx120_2)
            (try rw [Addr.add_zero'] at hx120_2)
            (try rw [show ((0 : Int)).toNat = 0 from rfl] at hx120_3)
            (try rw [show 0 * 4 = 0 from rfl] at hx120_3)
            (try rw [Addr.add_zero'] at hx120_3)
            have HR120_3 := Aside0.mk hi120_3
            have HC120_3 := Aside0.mk hl120_3
            clear hi120_3 hl120_3
            replace p120 := eq_true p120
            replace q120 := eq_true q120
            have p121 : 0 ≤ (0 : Int) := (by omega)
            have q121 : 0 < (l0.length : Int) := of_decide_eq_true (by first | (with_reducible assumption) | assumption)
            obtain ⟨ad121, A121_3, c121_3, e121, hx121_0, hx121_1, hx121_2, hx121_3, hl121_3, hi121_3⟩ := at_T51 HR0.out 0 p121 q121
            obtain rfl : ad119 = ad121 := (by injection e121)
            have qi121 : (0 < l0.length) = True := eq_true (by omega)
            (try rw [show ((0 : Int)).toNat = 0 from rfl] at hx121_0)
            (try rw [show 0 * 4 = 0 from rfl] at hx121_0)
            (try rw [Addr.add_zero'] at hx121_0)
            (try rw [show ((0 : Int)).toNat = 0 from rfl] at hx121_1)
            (try rw [show 0 * 4 = 0 from rfl] at hx121_1)
            (try rw [Addr.add_zero'] at hx121_1)
            (try rw [show ((0 : Int)).toNat = 0 from rfl] at hx121_2)
            (try rw [show 0 * 4 = 0 from rfl] at hx121_2)
            (try rw [Addr.add_zero'] at hx121_2)
            (try rw [show ((0 : Int)).toNat = 0 from rfl] at hx121_3)
            (try rw [show 0 * 4 = 0 from rfl] at hx121_3)
            (try rw [Addr.add_zero'] at hx121_3)
            have HR121_3 := Aside0.mk hi121_3
            have HC121_3 := Aside0.mk hl121_3
            clear hi121_3 hl121_3
            replace p121 := eq_true p121
            replace q121 := eq_true q121
            have ea_ := Option.some.inj (hx119_3.symm.trans hx121_3)
            injection ea_ with ea_ en_ ec_
            subst ea_
            subst ec_
            clear en_
            have p122 : 0 ≤ (0 : Int) := (by omega)
            have q122 : 0 < (l1.length : Int) := of_decide_eq_true (by first | (with_reducible assumption) | assumption)
            obtain ⟨ad122, A122_3, c122_3, e122, hx122_0, hx122_1, hx122_2, hx122_3, hl122_3, hi122_3⟩ := at_T51 HR1.out 0 p122 q122
            obtain rfl : ad120 = ad122 := (by injection e122)
            have qi122 : (0 < l1.length) = True := eq_true (by omega)
            (try rw [show ((0 : Int)).toNat = 0 from rfl] at hx122_0)
            (try rw [show 0 * 4 = 0 from rfl] at hx122_0)
            (try rw [Addr.add_zero'] at hx122_0)
            (try rw [show ((0 : Int)).toNat = 0 from rfl] at hx122_1)
            (try rw [show 0 * 4 = 0 from rfl] at hx122_1)
            (try rw [Addr.add_zero'] at hx122_1)
            (try rw [show ((0 : Int)).toNat = 0 from rfl] at hx122_2)
            (try rw [show 0 * 4 = 0 from rfl] at hx122_2)
            (try rw [Addr.add_zero'] at hx122_2)
            (try rw [show ((0 : Int)).toNat = 0 from rfl] at hx122_3)
            (try rw [show 0 * 4 = 0 from rfl] at hx122_3)
            (try rw [Addr.add_zero'] at hx122_3)
            have HR122_3 := Aside0.mk hi122_3
            have HC122_3 := Aside0.mk hl122_3
            clear hi122_3 hl122_3
            replace p122 := eq_true p122
            replace q122 := eq_true q122
            have ea_ := Option.some.inj (hx120_3.symm.trans hx122_3)
            injection ea_ with ea_ en_ ec_
            subst ea_
            subst ec_
            clear en_
            go_wp2
            repeat (go_quiet (fail); try go_wp2)
            go_meet
            case rel => exact ⟨_, (true), (by first | rfl | (simp; done) | (simp [*]; done)), H', ⟨by first | omega | exact Nat.le_refl _⟩, by repeat (first | exact Drawn0.refl _ | apply Drawn0.step)⟩
        · rw [if_neg c6] at H
          have c6b0 : (((rd_T51 l0 0).f0).toList == ((rd_T51 l1 0).f0).toList) = false := beq_eq_false_iff_ne.mpr c6
          have c6b1 : (((rd_T51 l0 0).f0).toList != ((rd_T51 l1 0).f0).toList) = true := bne_iff_ne.mpr c6
          have H' := Aside0.mk H
          clear H
          have p119 : 0 ≤ (0 : Int) := (by omega)
          have q119 : 0 < (l0.length : Int) := of_decide_eq_true (by first | (with_reducible assumption) | assumption)
          obtain ⟨ad119, A119_3, c119_3, e119, hx119_0, hx119_1, hx119_2, hx119_3, hl119_3, hi119_3⟩ := at_T51 HR0.out 0 p119 q119
          cases e119
          have qi119 : (0 < l0.length) = True := eq_true (by omega)
          (try rw [show ((0 : Int)).toNat = 0 from rfl] at hx119_0)
          (try rw [show 0 * 4 = 0 from rfl] at hx119_0)
          (try rw [Addr.add_zero'] at hx119_0)
          (try rw [show ((0 : Int)).toNat = 0 from rfl] at hx119_1)
          (try rw [show 0 * 4 = 0 from rfl] at hx119_1)
          (try rw [Addr.add_zero'] at hx119_1)
          (try rw [show ((0 : Int)).toNat = 0 from rfl] at hx119_2)
          (try rw [show 0 * 4 = 0 from rfl] at hx119_2)
          (try rw [Addr.add_zero'] at hx119_2)
          (try rw [show ((0 : Int)).toNat = 0 from rfl] at hx119_3)
          (try rw [show 0 * 4 = 0 from rfl] at hx119_3)
          (try rw [Addr.add_zero'] at hx119_3)
          have HR119_3 := Aside0.mk hi119_3
          have HC119_3 := Aside0.mk hl119_3
          clear hi119_3 hl119_3
          replace p119 := eq_true p119
          replace q119 := eq_true q119
          have p120 : 0 ≤ (0 : Int) := (by omega)
          have q120 : 0 < (l1.length : Int) := of_decide_eq_true (by first | (with_reducible assumption) | assumption)
          obtain ⟨ad120, A120_3, c120_3, e120, hx120_0, hx120_1, hx120_2, hx120_3, hl120_3, hi120_3⟩ := at_T51 HR1.out 0 p120 q120
          cases e120
          have qi120 : (0 < l1.length) = True := eq_true (by omega)
          (try rw [show ((0 : Int)).toNat = 0 from rfl] at hx120_0)
          (try rw [show 0 * 4 = 0 from rfl] at hx120_0)
          (try rw [Addr.add_zero'] at hx120_0)
          (try rw [show ((0 : Int)).toNat = 0 from rfl] at hx120_1)
          (try rw [show 0 * 4 = 0 from rfl] at hx120_1)
          (try rw [Addr.add_zero'] at hx120_1)
          (try rw [show ((0 : Int)).toNat = 0 from rfl] at hx120_2)
          (try rw [show 0 * 4 = 0 from rfl] at hx120_2)
          (try rw [Addr.add_zero'] at hx120_2)
          (try rw [show ((0 : Int)).toNat = 0 from rfl] at hx120_3)
          (try rw [show 0 * 4 = 0 from rfl] at hx120_3)
          (try rw [Addr.add_zero'] at hx120_3)
          have HR120_3 := Aside0.mk hi120_3
          have HC120_3 := Aside0.mk hl120_3
          clear hi120_3 hl120_3
          replace p120 := eq_true p120
          replace q120 := eq_true q120
          go_wp2
          repeat (go_quiet (fail); try go_wp2)
          go_meet
          case rel => exact ⟨_, (true), (by first | rfl | (simp; done) | (simp [*]; done)), H', ⟨by first | omega | exact Nat.le_refl _⟩, by repeat (first | exact Drawn0.refl _ | apply Drawn0.step)⟩
      · rw [if_neg c5] at H
        exact absurd H (by simp)
    · rw [if_neg c4] at H
      exact absurd H (by simp)
  case rest =>
    clear HC3
    try clear c1
    try clear p1
    try clear q1
    try clear hx1
    try clear qi1
    try clear p2
    try clear c4
    try clear c4b0
    try clear c4b1
    try clear c5
    try clear c5b0
    try clear c5b1
    try clear c6
    try clear c6b0
    try clear c6b1
    try clear c7
    try clear c7b0
    try clear c7b1
    try clear c8
    try clear c8b0
    try clear c8b1
    try clear hx119_0
    try clear hx119_1
    try clear hx119_2
    try clear hx119_3
    try clear hx120_0
    try clear hx120_1
    try clear hx120_2
    try clear hx120_3
    try clear hx121_0
    try clear hx121_1
    try clear hx121_2
    try clear hx121_3
    try clear hx122_0
    try clear hx122_1
    try clear hx122_2
    try clear hx122_3
    try clear hx123_0
    try clear hx123_1
    try clear hx123_2
    try clear hx123_3
    try clear hx124_0
    try clear hx124_1
    try clear hx124_2
    try clear hx124_3
    try clear hx125_0
    try clear hx125_1
    try clear hx125_2
    try clear hx125_3
    try clear hx126_0
    try clear hx126_1
    try clear hx126_2
    try clear hx126_3
    try clear p119
    try clear p120
    try clear p121
    try clear p122
    try clear p123
    try clear p124
    try clear p125
    try clear p126
    try clear q119
    try clear q120
    try clear q121
    try clear q122
    try clear q123
    try clear q124
    try clear q125
    try clear q126
    obtain ⟨kq, x49_2, rfl, HA, HJ2, ⟨mc2, rfl⟩⟩ := hcut
    cases kq with
    | zero => exact absurd HA.out (by simp [spec_l7SameBox.j0])
    | succ kj2 =>
      have H := HA.out
      clear HA
      simp only [spec_l7SameBox.j0] at H
      by_cases c9 : x49_2 = true
      · subst c9
        have H1 : (some false) = some r := by rw [if_pos rfl] at H; exact H
        clear H
        have H := H1
        clear H1
        obtain rfl := Option.some.inj H
        go_wp2
        repeat (go_quiet (fail); try go_wp2)
        go_ret
        exact ⟨by first | rfl | (simp; done) | (simp [*]; done), by repeat (first | exact Drawn0.refl _ | apply Drawn0.step)⟩
      · replace c9 := Bool.eq_false_iff.mpr c9
        subst c9
        have H1 : (spec_l7SameBox.l0 kj2 l0 l1 0) = some r := by rw [if_neg (show ¬ (false = true) by decide)] at H; exact H
        clear H
        have H := H1
        clear H1
        have H' := Aside0.mk H
        clear H
        go_wp2
        repeat (go_quiet (fail); try go_wp2)
        go_loopg [5] kj2 (fun kq v5 w' => ∃ (x5_2 : Int), v5 = .int .i64 x5_2 ∧ Aside0 (spec_l7SameBox.l0 kq l0 l1 x5_2 = some r) ∧ Aside0 (kq ≤ kj2) ∧ Drawn0 w w')
        case atStart => exact ⟨(0), (by first | rfl | (simp; done) | (simp [*]; done)), H', ⟨Nat.le_refl _⟩, by repeat (first | exact Drawn0.refl _ | apply Drawn0.step)⟩
        case round =>
          clear H'
          try clear c1
          try clear p1
          try clear q1
          try clear hx1
          try clear qi1
          try clear c2
          try clear p2
          try clear c4
          try clear c4b0
          try clear c4b1
          try clear c5
          try clear c5b0
          try clear c5b1
          try clear c6
          try clear c6b0
          try clear c6b1
          try clear c7
          try clear c7b0
          try clear c7b1
          try clear c8
          try clear c8b0
          try clear c8b1
          try clear c9
          try clear hx119_0
          try clear hx119_1
          try clear hx119_2
          try clear hx119_3
          try clear hx120_0
          try clear hx120_1
          try clear hx120_2
          try clear hx120_3
          try clear hx121_0
          try clear hx121_1
          try clear hx121_2
          try clear hx121_3
          try clear hx122_0
          try clear hx122_1
          try clear hx122_2
          try clear hx122_3
          try clear hx123_0
          try clear hx123_1
          try clear hx123_2
          try clear hx123_3
          try clear hx124_0
          try clear hx124_1
          try clear hx124_2
          try clear hx124_3
          try clear hx125_0
          try clear hx125_1
          try clear hx125_2
          try clear hx125_3
          try clear hx126_0
          try clear hx126_1
          try clear hx126_2
          try clear hx126_3
          try clear p1
          try clear p119
          try clear p120
          try clear p121
          try clear p122
          try clear p123
          try clear p124
          try clear p125
          try clear p126
          try clear p2
          try clear q1
          try clear q119
          try clear q120
          try clear q121
          try clear q122
          try clear q123
          try clear q124
          try clear q125
          try clear q126
          obtain ⟨x5_2, rfl, HA, HK2, ⟨m2, rfl⟩⟩ := hrel
          cases gk with
          | zero => exact absurd HA.out (by simp [spec_l7SameBox.l0])
          | succ k2 =>
            have H := HA.out
            clear HA
            simp only [spec_l7SameBox.l0] at H
            by_cases c10 : 0 < (l0.length : Int)
            · rw [if_pos c10] at H
              have c10b0 : decide (0 < (l0.length : Int)) = true := decide_eq_true c10
              have c10b1 : decide (0 < l0.length) = true := decide_eq_true (by omega)
              clear c10
              by_cases c11 : x5_2 < (((rd_T51 l0 0).f3).length : Int)
              · rw [if_pos c11] at H
                have c11b0 : decide (x5_2 < (((rd_T51 l0 0).f3).length : Int)) = true := decide_eq_true c11
                clear c11
                by_cases c12 : 0 ≤ x5_2
                · rw [if_pos c12] at H
                  have c12b0 : decide (0 ≤ x5_2) = true := decide_eq_true c12
                  clear c12
                  by_cases c13 : 0 < (l1.length : Int)
                  · rw [if_pos c13] at H
                    have c13b0 : decide (0 < (l1.length : Int)) = true := decide_eq_true c13
                    have c13b1 : decide (0 < l1.length) = true := decide_eq_true (by omega)
                    clear c13
                    by_cases c14 : x5_2 < (((rd_T51 l1 0).f3).length : Int)
                    · rw [if_pos c14] at H
                      have c14b0 : decide (x5_2 < (((rd_T51 l1 0).f3).length : Int)) = true := decide_eq_true c14
                      clear c14
                      replace H := Option.bind_eq_some_iff.mp H
                      obtain ⟨t134, A150, H⟩ := H
                      replace H : (if t134 = true then (spec_l7SameBox.l0 k2 l0 l1 (wrap64 (x5_2 + 1))) else (some false)) = some r := H
                      have A15 := Aside0.mk A150
                      clear A150
                      by_cases c16 : t134 = true
                      · subst c16
                        have H1 : (spec_l7SameBox.l0 k2 l0 l1 (wrap64 (x5_2 + 1))) = some r := by rw [if_pos rfl] at H; exact H
                        clear H
                        have H := H1
                        clear H1
                        have H' := Aside0.mk H
                        clear H
                        have p127 : 0 ≤ (0 : Int) := (by omega)
                        have q127 : 0 < (l0.length : Int) := of_decide_eq_true (by first | (with_reducible assumption) | assumption)
                        obtain ⟨ad127, A127_3, c127_3, e127, hx127_0, hx127_1, hx127_2, hx127_3, hl127_3, hi127_3⟩ := at_T51 HR0.out 0 p127 q127
                        cases e127
                        have qi127 : (0 < l0.length) = True := eq_true (by omega)
                        (try rw [show ((0 : Int)).toNat = 0 from rfl] at hx127_0)
                        (try rw [show 0 * 4 = 0 from rfl] at hx127_0)
                        (try rw [Addr.add_zero'] at hx127_0)
                        (try rw [show ((0 : Int)).toNat = 0 from rfl] at hx127_1)
                        (try rw [show 0 * 4 = 0 from rfl] at hx127_1)
                        (try rw [Addr.add_zero'] at hx127_1)
                        (try rw [show ((0 : Int)).toNat = 0 from rfl] at hx127_2)
                        (try rw [show 0 * 4 = 0 from rfl] at hx127_2)
                        (try rw [Addr.add_zero'] at hx127_2)
                        (try rw [show ((0 : Int)).toNat = 0 from rfl] at hx127_3)
                        (try rw [show 0 * 4 = 0 from rfl] at hx127_3)
                        (try rw [Addr.add_zero'] at hx127_3)
                        have HR127_3 := Aside0.mk hi127_3
                        have HC127_3 := Aside0.mk hl127_3
                        clear hi127_3 hl127_3
                        replace p127 := eq_true p127
                        replace q127 := eq_true q127
                        have p128 : 0 ≤ (0 : Int) := (by omega)
                        have q128 : 0 < (l0.length : Int) := of_decide_eq_true (by first | (with_reducible assumption) | assumption)
                        obtain ⟨ad128, A128_3, c128_3, e128, hx128_0, hx128_1, hx128_2, hx128_3, hl128_3, hi128_3⟩ := at_T51 HR0.out 0 p128 q128
                        obtain rfl : ad127 = ad128 := (by injection e128)
                        have qi128 : (0 < l0.length) = True := eq_true (by omega)
                        (try rw [show ((0 : Int)).toNat = 0 from rfl] at hx128_0)
                        (try rw [show 0 * 4 = 0 from rfl] at hx128_0)
                        (try rw [Addr.add_zero'] at hx128_0)
                        (try rw [show ((0 : Int)).toNat = 0 from rfl] at hx128_1)
                        (try rw [show 0 * 4 = 0 from rfl] at hx128_1)
                        (try rw [Addr.add_zero'] at hx128_1)
                        (try rw [show ((0 : Int)).toNat = 0 from rfl] at hx128_2)
                        (try rw [show 0 * 4 = 0 from rfl] at hx128_2)
                        (try rw [Addr.add_zero'] at hx128_2)
                        (try rw [show ((0 : Int)).toNat = 0 from rfl] at hx128_3)
                        (try rw [show 0 * 4 = 0 from rfl] at hx128_3)
                        (try rw [Addr.add_zero'] at hx128_3)
                        have HR128_3 := Aside0.mk hi128_3
                        have HC128_3 := Aside0.mk hl128_3
                        clear hi128_3 hl128_3
                        replace p128 := eq_true p128
                        replace q128 := eq_true q128
                        have ea_ := Option.some.inj (hx127_3.symm.trans hx128_3)
                        injection ea_ with ea_ en_ ec_
                        subst ea_
                        subst ec_
                        clear en_
                        have p129 : 0 ≤ (x5_2 : Int) := of_decide_eq_true (by first | (with_reducible assumption) | assumption)
                        have q129 : x5_2 < (((rd_T51 l0 0).f3).length : Int) := of_decide_eq_true (by first | (with_reducible assumption) | assumption)
                        obtain ⟨ad129, A129_3, c129_3, e129, hx129_0, hx129_1, hx129_2, hx129_3, hl129_3, hi129_3⟩ := at_T133 HR128_3.out x5_2 p129 q129
                        cases e129
                        have HR129_3 := Aside0.mk hi129_3
                        have HC129_3 := Aside0.mk hl129_3
                        clear hi129_3 hl129_3
                        replace p129 := eq_true p129
                        replace q129 := eq_true q129
                        have p130 : 0 ≤ (0 : Int) := (by omega)
                        have q130 : 0 < (l1.length : Int) := of_decide_eq_true (by first | (with_reducible assumption) | assumption)
                        obtain ⟨ad130, A130_3, c130_3, e130, hx130_0, hx130_1, hx130_2, hx130_3, hl130_3, hi130_3⟩ := at_T51 HR1.out 0 p130 q130
                        cases e130
                        have qi130 : (0 < l1.length) = True := eq_true (by omega)
                        (try rw [show ((0 : Int)).toNat = 0 from rfl] at hx130_0)
                        (try rw [show 0 * 4 = 0 from rfl] at hx130_0)
                        (try rw [Addr.add_zero'] at hx130_0)
                        (try rw [show ((0 : Int)).toNat = 0 from rfl] at hx130_1)
                        (try rw [show 0 * 4 = 0 from rfl] at hx130_1)
                        (try rw [Addr.add_zero'] at hx130_1)
                        (try rw [show ((0 : Int)).toNat = 0 from rfl] at hx130_2)
                        (try rw [show 0 * 4 = 0 from rfl] at hx130_2)
                        (try rw [Addr.add_zero'] at hx130_2)
                        (try rw [show ((0 : Int)).toNat = 0 from rfl] at hx130_3)
                        (try rw [show 0 * 4 = 0 from rfl] at hx130_3)
                        (try rw [Addr.add_zero'] at hx130_3)
                        have HR130_3 := Aside0.mk hi130_3
                        have HC130_3 := Aside0.mk hl130_3
                        clear hi130_3 hl130_3
                        replace p130 := eq_true p130
                        replace q130 := eq_true q130
                        have p131 : 0 ≤ (x5_2 : Int) := of_decide_eq_true (by first | (with_reducible assumption) | assumption)
                        have q131 : x5_2 < (((rd_T51 l1 0).f3).length : Int) := of_decide_eq_true (by first | (with_reducible assumption) | assumption)
                        obtain ⟨ad131, A131_3, c131_3, e131, hx131_0, hx131_1, hx131_2, hx131_3, hl131_3, hi131_3⟩ := at_T133 HR130_3.out x5_2 p131 q131
                        cases e131
                        have HR131_3 := Aside0.mk hi131_3
                        have HC131_3 := Aside0.mk hl131_3
                        clear hi131_3 hl131_3
                        replace p131 := eq_true p131
                        replace q131 := eq_true q131
                        have HRa132 := Aside0.mk (Kd.C_elem HR128_3.out (x5_2 : Int) (of_decide_eq_true (by first | (with_reducible assumption) | assumption)) (of_decide_eq_true (by first | (with_reducible assumption) | assumption)))
                        have HRa133 := Aside0.mk (Kd.C_elem HR130_3.out (x5_2 : Int) (of_decide_eq_true (by first | (with_reducible assumption) | assumption)) (of_decide_eq_true (by first | (with_reducible assumption) | assumption)))
                        go_wp2_with (first | (go_at_call 180; (with_reducible refine (spec_l7SameMessage.calls _ (((rd_T51 l0 0).f3).drop (x5_2 : Int).toNat).length (((rd_T51 l0 0).f3).drop (x5_2 : Int).toNat) _ (((rd_T51 l1 0).f3).drop (x5_2 : Int).toNat).length (((rd_T51 l1 0).f3).drop (x5_2 : Int).toNat) true _ ?side1 ?side2 ?side3 ?side4 A15.out).mono ?_); (case side1 => repeat (first | exact HRa132.out | (with_reducible refine Kd.C_alloc ?_ _) | (with_reducible refine Kd.C_drewN ?_ _) | (with_reducible refine Kd.C_drew ?_))); (case side2 => exact Nat.le_refl _); (case side3 => repeat (first | exact HRa133.out | (with_reducible refine Kd.C_alloc ?_ _) | (with_reducible refine Kd.C_drewN ?_ _) | (with_reducible refine Kd.C_drew ?_))); (case side4 => exact Nat.le_refl _); rintro e w' ⟨rfl, ⟨nd, rfl⟩⟩; (try first | exact ⟨rfl, _, World.drewN_drewN _ _ _⟩ | exact ⟨rfl, _, Eq.trans (World.drewN_drewN _ _ _) (congrArg (World.drewN _) (Nat.add_assoc _ _ _))⟩)))
                        repeat (go_quiet (first | (go_at_call 180; (with_reducible refine (spec_l7SameMessage.calls _ (((rd_T51 l0 0).f3).drop (x5_2 : Int).toNat).length (((rd_T51 l0 0).f3).drop (x5_2 : Int).toNat) _ (((rd_T51 l1 0).f3).drop (x5_2 : Int).toNat).length (((rd_T51 l1 0).f3).drop (x5_2 : Int).toNat) true _ ?side1 ?side2 ?side3 ?side4 A15.out).mono ?_); (case side1 => repeat (first | exact HRa132.out | (with_reducible refine Kd.C_alloc ?_ _) | (with_reducible refine Kd.C_drewN ?_ _) | (with_reducible refine Kd.C_drew ?_))); (case side2 => exact Nat.le_refl _); (case side3 => repeat (first | exact HRa133.out | (with_reducible refine Kd.C_alloc ?_ _) | (with_reducible refine Kd.C_drewN ?_ _) | (with_reducible refine Kd.C_drew ?_))); (case side4 => exact Nat.le_refl _); rintro e w' ⟨rfl, ⟨nd, rfl⟩⟩; (try first | exact ⟨rfl, _, World.drewN_drewN _ _ _⟩ | exact ⟨rfl, _, Eq.trans (World.drewN_drewN _ _ _) (congrArg (World.drewN _) (Nat.add_assoc _ _ _))⟩))); try go_wp2_with (first | (go_at_call 180; (with_reducible refine (spec_l7SameMessage.calls _ (((rd_T51 l0 0).f3).drop (x5_2 : Int).toNat).length (((rd_T51 l0 0).f3).drop (x5_2 : Int).toNat) _ (((rd_T51 l1 0).f3).drop (x5_2 : Int).toNat).length (((rd_T51 l1 0).f3).drop (x5_2 : Int).toNat) true _ ?side1 ?side2 ?side3 ?side4 A15.out).mono ?_); (case side1 => repeat (first | exact HRa132.out | (with_reducible refine Kd.C_alloc ?_ _) | (with_reducible refine Kd.C_drewN ?_ _) | (with_reducible refine Kd.C_drew ?_))); (case side2 => exact Nat.le_refl _); (case side3 => repeat (first | exact HRa133.out | (with_reducible refine Kd.C_alloc ?_ _) | (with_reducible refine Kd.C_drewN ?_ _) | (with_reducible refine Kd.C_drew ?_))); (case side4 => exact Nat.le_refl _); rintro e w' ⟨rfl, ⟨nd, rfl⟩⟩; (try first | exact ⟨rfl, _, World.drewN_drewN _ _ _⟩ | exact ⟨rfl, _, Eq.trans (World.drewN_drewN _ _ _) (congrArg (World.drewN _) (Nat.add_assoc _ _ _))⟩))))
                        go_roundg k2
                        case measure => have := HJ2.out; have := HK2.out; omega
                        case rel => exact ⟨(wrap64 (x5_2 + 1)), (by first | rfl | (simp; done) | (simp [*]; done)), H', ⟨by have := HJ2.out; have := HK2.out; omega⟩, by repeat (first | exact Drawn0.refl _ | apply Drawn0.step)⟩
                      · replace c16 := Bool.eq_false_iff.mpr c16
                        subst c16
                        have H1 : (some false) = some r := by rw [if_neg (show ¬ (false = true) by decide)] at H; exact H
                        clear H
                        have H := H1
                        clear H1
                        obtain rfl := Option.some.inj H
                        have p127 : 0 ≤ (0 : Int) := (by omega)
                        have q127 : 0 < (l0.length : Int) := of_decide_eq_true (by first | (with_reducible assumption) | assumption)
                        obtain ⟨ad127, A127_3, c127_3, e127, hx127_0, hx127_1, hx127_2, hx127_3, hl127_3, hi127_3⟩ := at_T51 HR0.out 0 p127 q127
                        cases e127
                        have qi127 : (0 < l0.length) = True := eq_true (by omega)
                        (try rw [show ((0 : Int)).toNat = 0 from rfl] at hx127_0)
                        (try rw [show 0 * 4 = 0 from rfl] at hx127_0)
                        (try rw [Addr.add_zero'] at hx127_0)
                        (try rw [show ((0 : Int)).toNat = 0 from rfl] at hx127_1)
                        (try rw [show 0 * 4 = 0 from rfl] at hx127_1)
                        (try rw [Addr.add_zero'] at hx127_1)
                        (try rw [show ((0 : Int)).toNat = 0 from rfl] at hx127_2)
                        (try rw [show 0 * 4 = 0 from rfl] at hx127_2)
                        (try rw [Addr.add_zero'] at hx127_2)
                        (try rw [show ((0 : Int)).toNat = 0 from rfl] at hx127_3)
                        (try rw [show 0 * 4 = 0 from rfl] at hx127_3)
                        (try rw [Addr.add_zero'] at hx127_3)
                        have HR127_3 := Aside0.mk hi127_3
                        have HC127_3 := Aside0.mk hl127_3
                        clear hi127_3 hl127_3
                        replace p127 := eq_true p127
                        replace q127 := eq_true q127
                        have p128 : 0 ≤ (0 : Int) := (by omega)
                        have q128 : 0 < (l0.length : Int) := of_decide_eq_true (by first | (with_reducible assumption) | assumption)
                        obtain ⟨ad128, A128_3, c128_3, e128, hx128_0, hx128_1, hx128_2, hx128_3, hl128_3, hi128_3⟩ := at_T51 HR0.out 0 p128 q128
                        obtain rfl : ad127 = ad128 := (by injection e128)
                        have qi128 : (0 < l0.length) = True := eq_true (by omega)
                        (try rw [show ((0 : Int)).toNat = 0 from rfl] at hx128_0)
                        (try rw [show 0 * 4 = 0 from rfl] at hx128_0)
                        (try rw [Addr.add_zero'] at hx128_0)
                        (try rw [show ((0 : Int)).toNat = 0 from rfl] at hx128_1)
                        (try rw [show 0 * 4 = 0 from rfl] at hx128_1)
                        (try rw [Addr.add_zero'] at hx128_1)
                        (try rw [show ((0 : Int)).toNat = 0 from rfl] at hx128_2)
                        (try rw [show 0 * 4 = 0 from rfl] at hx128_2)
                        (try rw [Addr.add_zero'] at hx128_2)
                        (try rw [show ((0 : Int)).toNat = 0 from rfl] at hx128_3)
                        (try rw [show 0 * 4 = 0 from rfl] at hx128_3)
                        (try rw [Addr.add_zero'] at hx128_3)
                        have HR128_3 := Aside0.mk hi128_3
                        have HC128_3 := Aside0.mk hl128_3
                        clear hi128_3 hl128_3
                        replace p128 := eq_true p128
                        replace q128 := eq_true q128
                        have ea_ := Option.some.inj (hx127_3.symm.trans hx128_3)
                        injection ea_ with ea_ en_ ec_
                        subst ea_
                        subst ec_
                        clear en_
                        have p129 : 0 ≤ (x5_2 : Int) := of_decide_eq_true (by first | (with_reducible assumption) | assumption)
                        have q129 : x5_2 < (((rd_T51 l0 0).f3).length : Int) := of_decide_eq_true (by first | (with_reducible assumption) | assumption)
                        obtain ⟨ad129, A129_3, c129_3, e129, hx129_0, hx129_1, hx129_2, hx129_3, hl129_3, hi129_3⟩ := at_T133 HR128_3.out x5_2 p129 q129
                        cases e129
                        have HR129_3 := Aside0.mk hi129_3
                        have HC129_3 := Aside0.mk hl129_3
                        clear hi129_3 hl129_3
                        replace p129 := eq_true p129
                        replace q129 := eq_true q129
                        have p130 : 0 ≤ (0 : Int) := (by omega)
                        have q130 : 0 < (l1.length : Int) := of_decide_eq_true (by first | (with_reducible assumption) | assumption)
                        obtain ⟨ad130, A130_3, c130_3, e130, hx130_0, hx130_1, hx130_2, hx130_3, hl130_3, hi130_3⟩ := at_T51 HR1.out 0 p130 q130
                        cases e130
                        have qi130 : (0 < l1.length) = True := eq_true (by omega)
                        (try rw [show ((0 : Int)).toNat = 0 from rfl] at hx130_0)
                        (try rw [show 0 * 4 = 0 from rfl] at hx130_0)
                        (try rw [Addr.add_zero'] at hx130_0)
                        (try rw [show ((0 : Int)).toNat = 0 from rfl] at hx130_1)
                        (try rw [show 0 * 4 = 0 from rfl] at hx130_1)
                        (try rw [Addr.add_zero'] at hx130_1)
                        (try rw [show ((0 : Int)).toNat = 0 from rfl] at hx130_2)
                        (try rw [show 0 * 4 = 0 from rfl] at hx130_2)
                        (try rw [Addr.add_zero'] at hx130_2)
                        (try rw [show ((0 : Int)).toNat = 0 from rfl] at hx130_3)
                        (try rw [show 0 * 4 = 0 from rfl] at hx130_3)
                        (try rw [Addr.add_zero'] at hx130_3)
                        have HR130_3 := Aside0.mk hi130_3
                        have HC130_3 := Aside0.mk hl130_3
                        clear hi130_3 hl130_3
                        replace p130 := eq_true p130
                        replace q130 := eq_true q130
                        have p131 : 0 ≤ (x5_2 : Int) := of_decide_eq_true (by first | (with_reducible assumption) | assumption)
                        have q131 : x5_2 < (((rd_T51 l1 0).f3).length : Int) := of_decide_eq_true (by first | (with_reducible assumption) | assumption)
                        obtain ⟨ad131, A131_3, c131_3, e131, hx131_0, hx131_1, hx131_2, hx131_3, hl131_3, hi131_3⟩ := at_T133 HR130_3.out x5_2 p131 q131
                        cases e131
                        have HR131_3 := Aside0.mk hi131_3
                        have HC131_3 := Aside0.mk hl131_3
                        clear hi131_3 hl131_3
                        replace p131 := eq_true p131
                        replace q131 := eq_true q131
                        have HRa132 := Aside0.mk (Kd.C_elem HR128_3.out (x5_2 : Int) (of_decide_eq_true (by first | (with_reducible assumption) | assumption)) (of_decide_eq_true (by first | (with_reducible assumption) | assumption)))
                        have HRa133 := Aside0.mk (Kd.C_elem HR130_3.out (x5_2 : Int) (of_decide_eq_true (by first | (with_reducible assumption) | assumption)) (of_decide_eq_true (by first | (with_reducible assumption) | assumption)))
                        go_wp2_with (first | (go_at_call 180; (with_reducible refine (spec_l7SameMessage.calls _ (((rd_T51 l0 0).f3).drop (x5_2 : Int).toNat).length (((rd_T51 l0 0).f3).drop (x5_2 : Int).toNat) _ (((rd_T51 l1 0).f3).drop (x5_2 : Int).toNat).length (((rd_T51 l1 0).f3).drop (x5_2 : Int).toNat) false _ ?side1 ?side2 ?side3 ?side4 A15.out).mono ?_); (case side1 => repeat (first | exact HRa132.out | (with_reducible refine Kd.C_alloc ?_ _) | (with_reducible refine Kd.C_drewN ?_ _) | (with_reducible refine Kd.C_drew ?_))); (case side2 => exact Nat.le_refl _); (case side3 => repeat (first | exact HRa133.out | (with_reducible refine Kd.C_alloc ?_ _) | (with_reducible refine Kd.C_drewN ?_ _) | (with_reducible refine Kd.C_drew ?_))); (case side4 => exact Nat.le_refl _); rintro e w' ⟨rfl, ⟨nd, rfl⟩⟩; (try first | exact ⟨rfl, _, World.drewN_drewN _ _ _⟩ | exact ⟨rfl, _, Eq.trans (World.drewN_drewN _ _ _) (congrArg (World.drewN _) (Nat.add_assoc _ _ _))⟩)))
                        repeat (go_quiet (first | (go_at_call 180; (with_reducible refine (spec_l7SameMessage.calls _ (((rd_T51 l0 0).f3).drop (x5_2 : Int).toNat).length (((rd_T51 l0 0).f3).drop (x5_2 : Int).toNat) _ (((rd_T51 l1 0).f3).drop (x5_2 : Int).toNat).length (((rd_T51 l1 0).f3).drop (x5_2 : Int).toNat) false _ ?side1 ?side2 ?side3 ?side4 A15.out).mono ?_); (case side1 => repeat (first | exact HRa132.out | (with_reducible refine Kd.C_alloc ?_ _) | (with_reducible refine Kd.C_drewN ?_ _) | (with_reducible refine Kd.C_drew ?_))); (case side2 => exact Nat.le_refl _); (case side3 => repeat (first | exact HRa133.out | (with_reducible refine Kd.C_alloc ?_ _) | (with_reducible refine Kd.C_drewN ?_ _) | (with_reducible refine Kd.C_drew ?_))); (case side4 => exact Nat.le_refl _); rintro e w' ⟨rfl, ⟨nd, rfl⟩⟩; (try first | exact ⟨rfl, _, World.drewN_drewN _ _ _⟩ | exact ⟨rfl, _, Eq.trans (World.drewN_drewN _ _ _) (congrArg (World.drewN _) (Nat.add_assoc _ _ _))⟩))); try go_wp2_with (first | (go_at_call 180; (with_reducible refine (spec_l7SameMessage.calls _ (((rd_T51 l0 0).f3).drop (x5_2 : Int).toNat).length (((rd_T51 l0 0).f3).drop (x5_2 : Int).toNat) _ (((rd_T51 l1 0).f3).drop (x5_2 : Int).toNat).length (((rd_T51 l1 0).f3).drop (x5_2 : Int).toNat) false _ ?side1 ?side2 ?side3 ?side4 A15.out).mono ?_); (case side1 => repeat (first | exact HRa132.out | (with_reducible refine Kd.C_alloc ?_ _) | (with_reducible refine Kd.C_drewN ?_ _) | (with_reducible refine Kd.C_drew ?_))); (case side2 => exact Nat.le_refl _); (case side3 => repeat (first | exact HRa133.out | (with_reducible refine Kd.C_alloc ?_ _) | (with_reducible refine Kd.C_drewN ?_ _) | (with_reducible refine Kd.C_drew ?_))); (case side4 => exact Nat.le_refl _); rintro e w' ⟨rfl, ⟨nd, rfl⟩⟩; (try first | exact ⟨rfl, _, World.drewN_drewN _ _ _⟩ | exact ⟨rfl, _, Eq.trans (World.drewN_drewN _ _ _) (congrArg (World.drewN _) (Nat.add_assoc _ _ _))⟩))))
                        go_ret
                        exact ⟨by first | rfl | (simp; done) | (simp [*]; done), by repeat (first | exact Drawn0.refl _ | apply Drawn0.step)⟩
                    · rw [if_neg c14] at H
                      exact absurd H (by simp)
                  · rw [if_neg c13] at H
                    exact absurd H (by simp)
                · rw [if_neg c12] at H
                  exact absurd H (by simp)
              · rw [if_neg c11] at H
                have c11b0 : decide (x5_2 < (((rd_T51 l0 0).f3).length : Int)) = false := decide_eq_false c11
                clear c11
                obtain rfl := Option.some.inj H
                have p127 : 0 ≤ (0 : Int) := (by omega)
                have q127 : 0 < (l0.length : Int) := of_decide_eq_true (by first | (with_reducible assumption) | assumption)
                obtain ⟨ad127, A127_3, c127_3, e127, hx127_0, hx127_1, hx127_2, hx127_3, hl127_3, hi127_3⟩ := at_T51 HR0.out 0 p127 q127
                cases e127
                have qi127 : (0 < l0.length) = True := eq_true (by omega)
                (try rw [show ((0 : Int)).toNat = 0 from rfl] at hx127_0)
                (try rw [show 0 * 4 = 0 from rfl] at hx127_0)
                (try rw [Addr.add_zero'] at hx127_0)
                (try rw [show ((0 : Int)).toNat = 0 from rfl] at hx127_1)
                (try rw [show 0 * 4 = 0 from rfl] at hx127_1)
                (try rw [Addr.add_zero'] at hx127_1)
                (try rw [show ((0 : Int)).toNat = 0 from rfl] at hx127_2)
                (try rw [show 0 * 4 = 0 from rfl] at hx127_2)
                (try rw [Addr.add_zero'] at hx127_2)
                (try rw [show ((0 : Int)).toNat = 0 from rfl] at hx127_3)
                (try rw [show 0 * 4 = 0 from rfl] at hx127_3)
                (try rw [Addr.add_zero'] at hx127_3)
                have HR127_3 := Aside0.mk hi127_3
                have HC127_3 := Aside0.mk hl127_3
                clear hi127_3 hl127_3
                replace p127 := eq_true p127
                replace q127 := eq_true q127
                go_wp2
                repeat (go_quiet (fail); try go_wp2)
                go_ret
                exact ⟨by first | rfl | (simp; done) | (simp [*]; done), by repeat (first | exact Drawn0.refl _ | apply Drawn0.step)⟩
            · rw [if_neg c10] at H
              exact absurd H (by simp)

end Go.Proofs.Ytfbgfakdflifdaa.PFnExactSameStores

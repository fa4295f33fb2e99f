/- Functions of the program as Lean functions, each with the proof that its call comes to what that function says (texts written by a program of this session). Conditions: those that stand in each theorem. -/
import Derived.Test.YtfbgfakdflifdaaPFnExactBoxFaultx0
import Derived.Test.YtfbgfakdflifdaaPFnExactBoxFaultx1
namespace Go.Proofs.Ytfbgfakdflifdaa.PFnExactBoxFault
open Go.RowKit Go.Proofs.YtfbgfakdflifdaaW.PrintWords Go.Proofs.YtfbgfakdflifdaaW.PrintLast Go.Proofs.YtfbgfakdflifdaaW.PrintMore
attribute [local go_sem] max2_int min2_int max_two min_two max_three min_three max_four min_four   -- for this text's walks alone
set_option linter.unusedVariables false
set_option linter.unusedSimpArgs false

/-! ### spec_l7Box: function 93 -/
mutual
def spec_l7Box.j0 : Nat → List (S51) → Bool → Option (Int)
  | 0, _, _ => none
  | k + 1, x0, x24 => if x24 = true then (some 3) else (if 0 < (x0.length : Int) then (if (((rd_T51 x0 0).f3).length : Int) > 6 then (some 2) else (spec_l7Box.l0 k x0 0)) else (none))
def spec_l7Box.l0 : Nat → List (S51) → Int → Option (Int)
  | 0, _, _ => none
  | k + 1, x0, x3 => if 0 < (x0.length : Int) then (if x3 < (((rd_T51 x0 0).f3).length : Int) then (if 0 ≤ x3 then ((spec_l7Message.f k (((rd_T51 x0 0).f3).drop (x3 : Int).toNat)).bind fun t126 => (if t126 = 0 then (if x3 > 0 then (if 0 ≤ (wrap64 (x3 - 1)) then (if (wrap64 (x3 - 1)) < (((rd_T51 x0 0).f3).length : Int) then (if ((rd_T133 ((rd_T51 x0 0).f3) x3).f0) ≤ ((rd_T133 ((rd_T51 x0 0).f3) (wrap64 (x3 - 1))).f0) then (some 1) else (if ((rd_T133 ((rd_T51 x0 0).f3) x3).f0) ≥ ((rd_T51 x0 0).f2) then (some 1) else (spec_l7Box.l0 k x0 (wrap64 (x3 + 1))))) else (none)) else (none)) else (if ((rd_T133 ((rd_T51 x0 0).f3) x3).f0) ≥ ((rd_T51 x0 0).f2) then (some 1) else (spec_l7Box.l0 k x0 (wrap64 (x3 + 1))))) else (some t126))) else (none)) else (some 0)) else (none)
end
def spec_l7Box.f (k : Nat) (l0 : List (S51)) : Option (Int) := if 0 < (l0.length : Int) then ((spec_l7Name.f k ((rd_T51 l0 0).f0)).bind fun t116 => (if t116 = true then ((spec_l1In.f ((rd_T51 l0 0).f1) 1 999).bind fun t118 => (if t118 = true then ((spec_l1In.f ((rd_T51 l0 0).f2) 1 1000).bind fun t120 => (spec_l7Box.j0 k l0 (!t120))) else (spec_l7Box.j0 k l0 true))) else (some 5))) else (none)
theorem spec_l7Box.mono_l : ∀ k, (∀ y0 y1, LeO (spec_l7Box.j0 k y0 y1) (spec_l7Box.j0 (k + 1) y0 y1)) ∧ (∀ y0 y1, LeO (spec_l7Box.l0 k y0 y1) (spec_l7Box.l0 (k + 1) y0 y1))
  | 0 => ⟨fun _ _ r h => by simp [spec_l7Box.j0] at h, fun _ _ r h => by simp [spec_l7Box.l0] at h⟩
  | k + 1 => by
    obtain ⟨ih0, ih1⟩ := spec_l7Box.mono_l k
    refine ⟨?_, ?_⟩
    · intro y0 y1
      unfold spec_l7Box.j0
      repeat' first
      | (with_reducible exact ih0 _ _)
      | (with_reducible exact ih1 _ _)
      | (with_reducible exact spec_l7Message.mono _ _)
      | (with_reducible exact spec_l7Name.mono _ _)
      | (with_reducible exact LeO.refl _)
      | (with_reducible exact LeO.none _)
      | (with_reducible refine LeO.ite ?_ ?_)
      | (with_reducible refine LeO.bind ?_ (fun _ => ?_))
      | exact ih0 _ _
      | exact ih1 _ _
      | exact spec_l7Message.mono _ _
      | exact spec_l7Name.mono _ _
      | exact LeO.none _
      | refine LeO.ite ?_ ?_
      | refine LeO.bind ?_ (fun _ => ?_)
    · intro y0 y1
      unfold spec_l7Box.l0
      repeat' first
      | (with_reducible exact ih0 _ _)
      | (with_reducible exact ih1 _ _)
      | (with_reducible exact spec_l7Message.mono _ _)
      | (with_reducible exact spec_l7Name.mono _ _)
      | (with_reducible exact LeO.refl _)
      | (with_reducible exact LeO.none _)
      | (with_reducible refine LeO.ite ?_ ?_)
      | (with_reducible refine LeO.bind ?_ (fun _ => ?_))
      | exact ih0 _ _
      | exact ih1 _ _
      | exact spec_l7Message.mono _ _
      | exact spec_l7Name.mono _ _
      | exact LeO.none _
      | refine LeO.ite ?_ ?_
      | refine LeO.bind ?_ (fun _ => ?_)
theorem spec_l7Box.mono : ∀ a0 k, LeO (spec_l7Box.f k a0) (spec_l7Box.f (k + 1) a0) := by
  intro a0 k
  obtain ⟨ih0, ih1⟩ := spec_l7Box.mono_l k
  unfold spec_l7Box.f
  repeat' first
      | (with_reducible exact ih0 _ _)
      | (with_reducible exact ih1 _ _)
      | (with_reducible exact spec_l7Message.mono _ _)
      | (with_reducible exact spec_l7Name.mono _ _)
      | (with_reducible exact LeO.refl _)
      | (with_reducible exact LeO.none _)
      | (with_reducible refine LeO.ite ?_ ?_)
      | (with_reducible refine LeO.bind ?_ (fun _ => ?_))
      | exact ih0 _ _
      | exact ih1 _ _
      | exact spec_l7Message.mono _ _
      | exact spec_l7Name.mono _ _
      | exact LeO.none _
      | refine LeO.ite ?_ ?_
      | refine LeO.bind ?_ (fun _ => ?_)
set_option maxHeartbeats 8000000 in
set_option maxRecDepth 100000 in
theorem spec_l7Box.calls (k : Nat) (A0 : Option Addr) (c0 : Nat) (l0 : List (S51)) (r : Int) (w : World) (hr0 : Kd.C k51 w A0 l0.length l0) (hc0 : l0.length ≤ c0) (h : spec_l7Box.f k l0 = some r) :
    Calls Try.prog 93 #[.pointer A0] w fun e w' => e = .returned (.int .i64 r) ∧ Drawn0 w w' := by
  have HR0 := Aside0.mk hr0
  have HC0 := Aside0.mk hc0
  clear hr0 hc0
  have H : (if 0 < (l0.length : Int) then ((spec_l7Name.f k ((rd_T51 l0 0).f0)).bind fun t116 => (if t116 = true then ((spec_l1In.f ((rd_T51 l0 0).f1) 1 999).bind fun t118 => (if t118 = true then ((spec_l1In.f ((rd_T51 l0 0).f2) 1 1000).bind fun t120 => (spec_l7Box.j0 k l0 (!t120))) else (spec_l7Box.j0 k l0 true))) else (some 5))) else (none)) = some r := h
  clear h
  by_cases c2 : 0 < (l0.length : Int)
  · rw [if_pos c2] at H
    have c2b0 : decide (0 < (l0.length : Int)) = true := decide_eq_true c2
    have c2b1 : decide (0 < l0.length) = true := decide_eq_true (by omega)
    clear c2
    replace H := Option.bind_eq_some_iff.mp H
    obtain ⟨t116, A30, H⟩ := H
    replace H : (if t116 = true then ((spec_l1In.f ((rd_T51 l0 0).f1) 1 999).bind fun t118 => (if t118 = true then ((spec_l1In.f ((rd_T51 l0 0).f2) 1 1000).bind fun t120 => (spec_l7Box.j0 k l0 (!t120))) else (spec_l7Box.j0 k l0 true))) else (some 5)) = some r := H
    have A3 := Aside0.mk A30
    clear A30
    by_cases c4 : t116 = true
    · subst c4
      have H1 : ((spec_l1In.f ((rd_T51 l0 0).f1) 1 999).bind fun t118 => (if t118 = true then ((spec_l1In.f ((rd_T51 l0 0).f2) 1 1000).bind fun t120 => (spec_l7Box.j0 k l0 (!t120))) else (spec_l7Box.j0 k l0 true))) = some r := by rw [if_pos rfl] at H; exact H
      clear H
      have H := H1
      clear H1
      have HC5 := Aside0.mk H
      clear H
      have p115 : 0 ≤ (0 : Int) := (by omega)
      have q115 : 0 < (l0.length : Int) := of_decide_eq_true (by first | (with_reducible assumption) | assumption)
      obtain ⟨ad115, A115_3, c115_3, e115, hx115_0, hx115_1, hx115_2, hx115_3, hl115_3, hi115_3⟩ := at_T51 HR0.out 0 p115 q115
      cases e115
      have qi115 : (0 < l0.length) = True := eq_true (by omega)
      (try rw [show ((0 : Int)).toNat = 0 from rfl] at hx115_0)
      (try rw [show 0 * 4 = 0 from rfl] at hx115_0)
      (try rw [Addr.add_zero'] at hx115_0)
      (try rw [show ((0 : Int)).toNat = 0 from rfl] at hx115_1)
      (try rw [show 0 * 4 = 0 from rfl] at hx115_1)
      (try rw [Addr.add_zero'] at hx115_1)
      (try rw [show ((0 : Int)).toNat = 0 from rfl] at hx115_2)
      (try rw [show 0 * 4 = 0 from rfl] at hx115_2)
      (try rw [Addr.add_zero'] at hx115_2)
      (try rw [show ((0 : Int)).toNat = 0 from rfl] at hx115_3)
      (try rw [show 0 * 4 = 0 from rfl] at hx115_3)
      (try rw [Addr.add_zero'] at hx115_3)
      have HR115_3 := Aside0.mk hi115_3
      have HC115_3 := Aside0.mk hl115_3
      clear hi115_3 hl115_3
      replace p115 := eq_true p115
      replace q115 := eq_true q115
      go_enter Try.func93, Try.ntmps93
      go_upto_region 3 with (first | (go_at_call 138; (with_reducible refine (spec_l7Name.calls k ((rd_T51 l0 0).f0) true _ A3.out).mono ?_); rintro e w' ⟨rfl, ⟨nd, rfl⟩⟩; (try first | exact ⟨rfl, _, World.drewN_drewN _ _ _⟩ | exact ⟨rfl, _, Eq.trans (World.drewN_drewN _ _ _) (congrArg (World.drewN _) (Nat.add_assoc _ _ _))⟩)))
      repeat (go_quiet (first | (go_at_call 138; (with_reducible refine (spec_l7Name.calls k ((rd_T51 l0 0).f0) true _ A3.out).mono ?_); rintro e w' ⟨rfl, ⟨nd, rfl⟩⟩; (try first | exact ⟨rfl, _, World.drewN_drewN _ _ _⟩ | exact ⟨rfl, _, Eq.trans (World.drewN_drewN _ _ _) (congrArg (World.drewN _) (Nat.add_assoc _ _ _))⟩))); go_upto_region 3 with (first | (go_at_call 138; (with_reducible refine (spec_l7Name.calls k ((rd_T51 l0 0).f0) true _ A3.out).mono ?_); rintro e w' ⟨rfl, ⟨nd, rfl⟩⟩; (try first | exact ⟨rfl, _, World.drewN_drewN _ _ _⟩ | exact ⟨rfl, _, Eq.trans (World.drewN_drewN _ _ _) (congrArg (World.drewN _) (Nat.add_assoc _ _ _))⟩))))
      (try simp only [Act.put, List.setIfInBounds_toArray, List.set_cons_zero, List.set_cons_succ])
      go_cut [24] (fun v24 wc => ∃ (kq : Nat) (x24_4 : Bool), v24 = .bool x24_4 ∧ Aside0 (spec_l7Box.j0 kq l0 x24_4 = some r) ∧ Aside0 (kq ≤ k) ∧ Drawn0 w wc)
      case first =>
        have H := HC5.out
        clear HC5
        replace H := Option.bind_eq_some_iff.mp H
        obtain ⟨t118, A60, H⟩ := H
        replace H : (if t118 = true then ((spec_l1In.f ((rd_T51 l0 0).f2) 1 1000).bind fun t120 => (spec_l7Box.j0 k l0 (!t120))) else (spec_l7Box.j0 k l0 true)) = some r := H
        have A6 := Aside0.mk A60
        clear A60
        by_cases c7 : t118 = true
        · subst c7
          have H1 : ((spec_l1In.f ((rd_T51 l0 0).f2) 1 1000).bind fun t120 => (spec_l7Box.j0 k l0 (!t120))) = some r := by rw [if_pos rfl] at H; exact H
          clear H
          have H := H1
          clear H1
          replace H := Option.bind_eq_some_iff.mp H
          obtain ⟨t120, A80, H⟩ := H
          replace H : (spec_l7Box.j0 k l0 (!t120)) = some r := H
          have A8 := Aside0.mk A80
          clear A80
          have H' := Aside0.mk H
          clear H
          have p117 : 0 ≤ (0 : Int) := (by omega)
          have q117 : 0 < (l0.length : Int) := of_decide_eq_true (by first | (with_reducible assumption) | assumption)
          obtain ⟨ad117, A117_3, c117_3, e117, hx117_0, hx117_1, hx117_2, hx117_3, hl117_3, hi117_3⟩ := at_T51 HR0.out 0 p117 q117
          obtain rfl : ad115 = ad117 := (by injection e117)
          have qi117 : (0 < l0.length) = True := eq_true (by omega)
          (try rw [show ((0 : Int)).toNat = 0 from rfl] at hx117_0)
          (try rw [show 0 * 4 = 0 from rfl] at hx117_0)
          (try rw [Addr.add_zero'] at hx117_0)
          (try rw [show ((0 : Int)).toNat = 0 from rfl] at hx117_1)
          (try rw [show 0 * 4 = 0 from rfl] at hx117_1)
          (try rw [Addr.add_zero'] at hx117_1)
          (try rw [show ((0 : Int)).toNat = 0 from rfl] at hx117_2)
          (try rw [show 0 * 4 = 0 from rfl] at hx117_2)
          (try rw [Addr.add_zero'] at hx117_2)
          (try rw [show ((0 : Int)).toNat = 0 from rfl] at hx117_3)
          (try rw [show 0 * 4 = 0 from rfl] at hx117_3)
          (try rw [Addr.add_zero'] at hx117_3)
          have HR117_3 := Aside0.mk hi117_3
          have HC117_3 := Aside0.mk hl117_3
          clear hi117_3 hl117_3
          replace p117 := eq_true p117
          replace q117 := eq_true q117
          go_wp2_with (first | (go_at_call 141; (with_reducible refine (spec_l1In.calls ((rd_T51 l0 0).f1) 1 999 true _ A6.out).mono ?_); rintro e w' ⟨rfl, ⟨nd, rfl⟩⟩; (try first | exact ⟨rfl, _, World.drewN_drewN _ _ _⟩ | exact ⟨rfl, _, Eq.trans (World.drewN_drewN _ _ _) (congrArg (World.drewN _) (Nat.add_assoc _ _ _))⟩); have p119 : 0 ≤ (0 : Int) := (by omega); have q119 : 0 < (l0.length : Int) := of_decide_eq_true (by first | (with_reducible assumption) | assumption); obtain ⟨ad119, A119_3, c119_3, e119, hx119_0, hx119_1, hx119_2, hx119_3, hl119_3, hi119_3⟩ := at_T51 HR0.out 0 p119 q119; obtain rfl : ad115 = ad119 := (by injection e119); have qi119 : (0 < l0.length) = True := eq_true (by omega); (try rw [show ((0 : Int)).toNat = 0 from rfl] at hx119_0); (try rw [show 0 * 4 = 0 from rfl] at hx119_0); (try rw [Addr.add_zero'] at hx119_0); (try rw [show ((0 : Int)).toNat = 0 from rfl] at hx119_1); (try rw [show 0 * 4 = 0 from rfl] at hx119_1); (try rw [Addr.add_zero'] at hx119_1); (try rw [show ((0 : Int)).toNat = 0 from rfl] at hx119_2); (try rw [show 0 * 4 = 0 from rfl] at hx119_2); (try rw [Addr.add_zero'] at hx119_2); (try rw [show ((0 : Int)).toNat = 0 from rfl] at hx119_3); (try rw [show 0 * 4 = 0 from rfl] at hx119_3); (try rw [Addr.add_zero'] at hx119_3); have HR119_3 := Aside0.mk hi119_3; have HC119_3 := Aside0.mk hl119_3; clear hi119_3 hl119_3; replace p119 := eq_true p119; replace q119 := eq_true q119; have ea_ := Option.some.inj (hx117_3.symm.trans hx119_3); injection ea_ with ea_ en_ ec_; subst ea_; subst ec_; clear en_) | (go_at_call 141; (with_reducible refine (spec_l1In.calls ((rd_T51 l0 0).f2) 1 1000 t120 _ A8.out).mono ?_); rintro e w' ⟨rfl, ⟨nd, rfl⟩⟩; (try first | exact ⟨rfl, _, World.drewN_drewN _ _ _⟩ | exact ⟨rfl, _, Eq.trans (World.drewN_drewN _ _ _) (congrArg (World.drewN _) (Nat.add_assoc _ _ _))⟩)))
          repeat (go_quiet (first | (go_at_call 141; (with_reducible refine (spec_l1In.calls ((rd_T51 l0 0).f1) 1 999 true _ A6.out).mono ?_); rintro e w' ⟨rfl, ⟨nd, rfl⟩⟩; (try first | exact ⟨rfl, _, World.drewN_drewN _ _ _⟩ | exact ⟨rfl, _, Eq.trans (World.drewN_drewN _ _ _) (congrArg (World.drewN _) (Nat.add_assoc _ _ _))⟩); have p119 : 0 ≤ (0 : Int) := (by omega); have q119 : 0 < (l0.length : Int) := of_decide_eq_true (by first | (with_reducible assumption) | assumption); obtain ⟨ad119, A119_3, c119_3, e119, hx119_0, hx119_1, hx119_2, hx119_3, hl119_3, hi119_3⟩ := at_T51 HR0.out 0 p119 q119; obtain rfl : ad115 = ad119 := (by injection e119); have qi119 : (0 < l0.length) = True := eq_true (by omega); (try rw [show ((0 : Int)).toNat = 0 from rfl] at hx119_0); (try rw [show 0 * 4 = 0 from rfl] at hx119_0); (try rw [Addr.add_zero'] at hx119_0); (try rw [show ((0 : Int)).toNat = 0 from rfl] at hx119_1); (try rw [show 0 * 4 = 0 from rfl] at hx119_1); (try rw [Addr.add_zero'] at hx119_1); (try rw [show ((0 : Int)).toNat = 0 from rfl] at hx119_2); (try rw [show 0 * 4 = 0 from rfl] at hx119_2); (try rw [Addr.add_zero'] at hx119_2); (try rw [show ((0 : Int)).toNat = 0 from rfl] at hx119_3); (try rw [show 0 * 4 = 0 from rfl] at hx119_3); (try rw [Addr.add_zero'] at hx119_3); have HR119_3 := Aside0.mk hi119_3; have HC119_3 := Aside0.mk hl119_3; clear hi119_3 hl119_3; replace p119 := eq_true p119; replace q119 := eq_true q119; have ea_ := Option.some.inj (hx117_3.symm.trans hx119_3); injection ea_ with ea_ en_ ec_; subst ea_; subst ec_; clear en_) | (go_at_call 141; (with_reducible refine (spec_l1In.calls ((rd_T51 l0 0).f2) 1 1000 t120 _ A8.out).mono ?_); rintro e w' ⟨rfl, ⟨nd, rfl⟩⟩; (try first | exact ⟨rfl, _, World.drewN_drewN _ _ _⟩ | exact ⟨rfl, _, Eq.trans (World.drewN_drewN _ _ _) (congrArg (World.drewN _) (Nat.add_assoc _ _ _))⟩))); try go_wp2_with (first | (go_at_call 141; (with_reducible refine (spec_l1In.calls ((rd_T51 l0 0).f1) 1 999 true _ A6.out).mono ?_); rintro e w' ⟨rfl, ⟨nd, rfl⟩⟩; (try first | exact ⟨rfl, _, World.drewN_drewN _ _ _⟩ | exact ⟨rfl, _, Eq.trans (World.drewN_drewN _ _ _) (congrArg (World.drewN _) (Nat.add_assoc _ _ _))⟩); have p119 : 0 ≤ (0 : Int) := (by omega); have q119 : 0 < (l0.length : Int) := of_decide_eq_true (by first | (with_reducible assumption) | assumption); obtain ⟨ad119, A119_3, c119_3, e119, hx119_0, hx119_1, hx119_2, hx119_3, hl119_3, hi119_3⟩ := at_T51 HR0.out 0 p119 q119; obtain rfl : ad115 = ad119 := (by injection e119); have qi119 : (0 < l0.length) = True := eq_true (by omega); (try rw [show ((0 : Int)).toNat = 0 from rfl] at hx119_0); (try rw [show 0 * 4 = 0 from rfl] at hx119_0); (try rw [Addr.add_zero'] at hx119_0); (try rw [show ((0 : Int)).toNat = 0 from rfl] at hx119_1); (try rw [show 0 * 4 = 0 from rfl] at hx119_1); (try rw [Addr.add_zero'] at hx119_1); (try rw [show ((0 : Int)).toNat = 0 from rfl] at hx119_2); (try rw [show 0 * 4 = 0 from rfl] at hx119_2); (try rw [Addr.add_zero'] at hx119_2); (try rw [show ((0 : Int)).toNat = 0 from rfl] at hx119_3); (try rw [show 0 * 4 = 0 from rfl] at hx119_3); (try rw [Addr.add_zero'] at hx119_3); have HR119_3 := Aside0.mk hi119_3; have HC119_3 := Aside0.mk hl119_3; clear hi119_3 hl119_3; replace p119 := eq_true p119; replace q119 := eq_true q119; have ea_ := Option.some.inj (hx117_3.symm.trans hx119_3); injection ea_ with ea_ en_ ec_; subst ea_; subst ec_; clear en_) | (go_at_call 141; (with_reducible refine (spec_l1In.calls ((rd_T51 l0 0).f2) 1 1000 t120 _ A8.out).mono ?_); rintro e w' ⟨rfl, ⟨nd, rfl⟩⟩; (try first | exact ⟨rfl, _, World.drewN_drewN _ _ _⟩ | exact ⟨rfl, _, Eq.trans (World.drewN_drewN _ _ _) (congrArg (World.drewN _) (Nat.add_assoc _ _ _))⟩))))
          go_meet
          case rel => exact ⟨_, (!t120), (by first | rfl | (simp; done) | (simp [*]; done)), H', ⟨by first | omega | exact Nat.le_refl _⟩, by repeat (first | exact Drawn0.refl _ | apply Drawn0.step)⟩
        · replace c7 := Bool.eq_false_iff.mpr c7
          subst c7
          have H1 : (spec_l7Box.j0 k l0 true) = some r := by rw [if_neg (show ¬ (false = true) by decide)] at H; exact H
          clear H
          have H := H1
          clear H1
          have H' := Aside0.mk H
          clear H
          have p117 : 0 ≤ (0 : Int) := (by omega)
          have q117 : 0 < (l0.length : Int) := of_decide_eq_true (by first | (with_reducible assumption) | assumption)
          obtain ⟨ad117, A117_3, c117_3, e117, hx117_0, hx117_1, hx117_2, hx117_3, hl117_3, hi117_3⟩ := at_T51 HR0.out 0 p117 q117
          obtain rfl : ad115 = ad117 := (by injection e117)
          have qi117 : (0 < l0.length) = True := eq_true (by omega)
          (try rw [show ((0 : Int)).toNat = 0 from rfl] at hx117_0)
          (try rw [show 0 * 4 = 0 from rfl] at hx117_0)
          (try rw [Addr.add_zero'] at hx117_0)
          (try rw [show ((0 : Int)).toNat = 0 from rfl] at hx117_1)
          (try rw [show 0 * 4 = 0 from rfl] at hx117_1)
          (try rw [Addr.add_zero'] at hx117_1)
          (try rw [show ((0 : Int)).toNat = 0 from rfl] at hx117_2)
          (try rw [show 0 * 4 = 0 from rfl] at hx117_2)
          (try rw [Addr.add_zero'] at hx117_2)
          (try rw [show ((0 : Int)).toNat = 0 from rfl] at hx117_3)
          (try rw [show 0 * 4 = 0 from rfl] at hx117_3)
          (try rw [Addr.add_zero'] at hx117_3)
          have HR117_3 := Aside0.mk hi117_3
          have HC117_3 := Aside0.mk hl117_3
          clear hi117_3 hl117_3
          replace p117 := eq_true p117
          replace q117 := eq_true q117
          go_wp2_with (first | (go_at_call 141; (with_reducible refine (spec_l1In.calls ((rd_T51 l0 0).f1) 1 999 false _ A6.out).mono ?_); rintro e w' ⟨rfl, ⟨nd, rfl⟩⟩; (try first | exact ⟨rfl, _, World.drewN_drewN _ _ _⟩ | exact ⟨rfl, _, Eq.trans (World.drewN_drewN _ _ _) (congrArg (World.drewN _) (Nat.add_assoc _ _ _))⟩)))
          repeat (go_quiet (first | (go_at_call 141; (with_reducible refine (spec_l1In.calls ((rd_T51 l0 0).f1) 1 999 false _ A6.out).mono ?_); rintro e w' ⟨rfl, ⟨nd, rfl⟩⟩; (try first | exact ⟨rfl, _, World.drewN_drewN _ _ _⟩ | exact ⟨rfl, _, Eq.trans (World.drewN_drewN _ _ _) (congrArg (World.drewN _) (Nat.add_assoc _ _ _))⟩))); try go_wp2_with (first | (go_at_call 141; (with_reducible refine (spec_l1In.calls ((rd_T51 l0 0).f1) 1 999 false _ A6.out).mono ?_); rintro e w' ⟨rfl, ⟨nd, rfl⟩⟩; (try first | exact ⟨rfl, _, World.drewN_drewN _ _ _⟩ | exact ⟨rfl, _, Eq.trans (World.drewN_drewN _ _ _) (congrArg (World.drewN _) (Nat.add_assoc _ _ _))⟩))))
          go_meet
          case rel => exact ⟨_, (true), (by first | rfl | (simp; done) | (simp [*]; done)), H', ⟨by first | omega | exact Nat.le_refl _⟩, by repeat (first | exact Drawn0.refl _ | apply Drawn0.step)⟩
      case rest =>
        clear HC5
        try clear c1
        try clear p1
        try clear q1
        try clear hx1
        try clear qi1
        try clear c2
        try clear c2b0
        try clear c2b1
        try clear p2
        try clear c4
        try clear c7
        try clear hx115_0
        try clear hx115_1
        try clear hx115_2
        try clear hx115_3
        try clear hx117_0
        try clear hx117_1
        try clear hx117_2
        try clear hx117_3
        try clear hx119_0
        try clear hx119_1
        try clear hx119_2
        try clear hx119_3
        try clear p115
        try clear p117
        try clear p119
        try clear q115
        try clear q117
        try clear q119
        obtain ⟨kq, x24_4, rfl, HA, HJ4, ⟨mc4, rfl⟩⟩ := hcut
        cases kq with
        | zero => exact absurd HA.out (by simp [spec_l7Box.j0])
        | succ kj4 =>
          have H := HA.out
          clear HA
          simp only [spec_l7Box.j0] at H
          by_cases c9 : x24_4 = true
          · subst c9
            have H1 : (some 3) = some r := by rw [if_pos rfl] at H; exact H
            clear H
            have H := H1
            clear H1
            obtain rfl := Option.some.inj H
            go_wp2
            repeat (go_quiet (fail); try go_wp2)
            go_ret
            exact ⟨by first | rfl | (simp; done) | (simp [*]; done), by repeat (first | exact Drawn0.refl _ | apply Drawn0.step)⟩
          · replace c9 := Bool.eq_false_iff.mpr c9
            subst c9
            have H1 : (if 0 < (l0.length : Int) then (if (((rd_T51 l0 0).f3).length : Int) > 6 then (some 2) else (spec_l7Box.l0 kj4 l0 0)) else (none)) = some r := by rw [if_neg (show ¬ (false = true) by decide)] at H; exact H
            clear H
            have H := H1
            clear H1
            by_cases c10 : 0 < (l0.length : Int)
            · rw [if_pos c10] at H
              have c10b0 : decide (0 < (l0.length : Int)) = true := decide_eq_true c10
              have c10b1 : decide (0 < l0.length) = true := decide_eq_true (by omega)
              clear c10
              by_cases c11 : (((rd_T51 l0 0).f3).length : Int) > 6
              · rw [if_pos c11] at H
                have c11b0 : decide (6 < (((rd_T51 l0 0).f3).length : Int)) = true := decide_eq_true c11
                have c11b1 : decide (6 < ((rd_T51 l0 0).f3).length) = true := decide_eq_true (by omega)
                clear c11
                obtain rfl := Option.some.inj H
                have p121 : 0 ≤ (0 : Int) := (by omega)
                have q121 : 0 < (l0.length : Int) := of_decide_eq_true (by first | (with_reducible assumption) | assumption)
                obtain ⟨ad121, A121_3, c121_3, e121, hx121_0, hx121_1, hx121_2, hx121_3, hl121_3, hi121_3⟩ := at_T51 HR0.out 0 p121 q121
                obtain rfl : ad115 = ad121 := (by injection e121)
                have qi121 : (0 < l0.length) = True := eq_true (by omega)
                (try rw [show ((0 : Int)).toNat = 0 from rfl] at hx121_0)
                (try rw [show 0 * 4 = 0 from rfl] at hx121_0)
                (try rw [Addr.add_zero'] at hx121_0)
                (try rw [show ((0 : Int)).toNat = 0 from rfl] at hx121_1)
                (try rw [show 0 * 4 = 0 from rfl] at hx121_1)
                (try rw [Addr.add_zero'] at hx121_1)
                (try rw [show ((0 : Int)).toNat = 0 from rfl] at hx121_2)
                (try rw [show 0 * 4 = 0 from rfl] at hx121_2)
                (try rw [Addr.add_zero'] at hx121_2)
                (try rw [show ((0 : Int)).toNat = 0 from rfl] at hx121_3)
                (try rw [show 0 * 4 = 0 from rfl] at hx121_3)
                (try rw [Addr.add_zero'] at hx121_3)
                have HR121_3 := Aside0.mk hi121_3
                have HC121_3 := Aside0.mk hl121_3
                clear hi121_3 hl121_3
                replace p121 := eq_true p121
                replace q121 := eq_true q121
                go_wp2
                repeat (go_quiet (fail); try go_wp2)
                go_ret
                exact ⟨by first | rfl | (simp; done) | (simp [*]; done), by repeat (first | exact Drawn0.refl _ | apply Drawn0.step)⟩
              · rw [if_neg c11] at H
                have c11b0 : decide (6 < (((rd_T51 l0 0).f3).length : Int)) = false := decide_eq_false c11
                have c11b1 : decide (6 < ((rd_T51 l0 0).f3).length) = false := decide_eq_false (by omega)
                clear c11
                have H' := Aside0.mk H
                clear H
                have p121 : 0 ≤ (0 : Int) := (by omega)
                have q121 : 0 < (l0.length : Int) := of_decide_eq_true (by first | (with_reducible assumption) | assumption)
                obtain ⟨ad121, A121_3, c121_3, e121, hx121_0, hx121_1, hx121_2, hx121_3, hl121_3, hi121_3⟩ := at_T51 HR0.out 0 p121 q121
                obtain rfl : ad115 = ad121 := (by injection e121)
                have qi121 : (0 < l0.length) = True := eq_true (by omega)
                (try rw [show ((0 : Int)).toNat = 0 from rfl] at hx121_0)
                (try rw [show 0 * 4 = 0 from rfl] at hx121_0)
                (try rw [Addr.add_zero'] at hx121_0)
                (try rw [show ((0 : Int)).toNat = 0 from rfl] at hx121_1)
                (try rw [show 0 * 4 = 0 from rfl] at hx121_1)
                (try rw [Addr.add_zero'] at hx121_1)
                (try rw [show ((0 : Int)).toNat = 0 from rfl] at hx121_2)
                (try rw [show 0 * 4 = 0 from rfl] at hx121_2)
                (try rw [Addr.add_zero'] at hx121_2)
                (try rw [show ((0 : Int)).toNat = 0 from rfl] at hx121_3)
                (try rw [show 0 * 4 = 0 from rfl] at hx121_3)
                (try rw [Addr.add_zero'] at hx121_3)
                have HR121_3 := Aside0.mk hi121_3
                have HC121_3 := Aside0.mk hl121_3
                clear hi121_3 hl121_3
                replace p121 := eq_true p121
                replace q121 := eq_true q121
                go_wp2
                repeat (go_quiet (fail); try go_wp2)
                go_loopg [3] kj4 (fun kq v3 w' => ∃ (x3_2 : Int), v3 = .int .i64 x3_2 ∧ Aside0 (spec_l7Box.l0 kq l0 x3_2 = some r) ∧ Aside0 (kq ≤ kj4) ∧ Drawn0 w w')
                case atStart => exact ⟨(0), (by first | rfl | (simp; done) | (simp [*]; done)), H', ⟨Nat.le_refl _⟩, by repeat (first | exact Drawn0.refl _ | apply Drawn0.step)⟩
                case round =>
                  clear H'
                  try clear c1
                  try clear p1
                  try clear q1
                  try clear hx1
                  try clear qi1
                  try clear c2
                  try clear c2b0
                  try clear c2b1
                  try clear p2
                  try clear c4
                  try clear c7
                  try clear c9
                  try clear c10
                  try clear c10b0
                  try clear c10b1
                  try clear c11
                  try clear c11b0
                  try clear c11b1
                  try clear p11
                  try clear q11
                  try clear hx11
                  try clear qi11
                  try clear hx115_0
                  try clear hx115_1
                  try clear hx115_2
                  try clear hx115_3
                  try clear hx117_0
                  try clear hx117_1
                  try clear hx117_2
                  try clear hx117_3
                  try clear hx119_0
                  try clear hx119_1
                  try clear hx119_2
                  try clear hx119_3
                  try clear hx121_0
                  try clear hx121_1
                  try clear hx121_2
                  try clear hx121_3
                  try clear p1
                  try clear p115
                  try clear p117
                  try clear p119
                  try clear p121
                  try clear p2
                  try clear q1
                  try clear q115
                  try clear q117
                  try clear q119
                  try clear q121
                  obtain ⟨x3_2, rfl, HA, HK2, ⟨m2, rfl⟩⟩ := hrel
                  cases gk with
                  | zero => exact absurd HA.out (by simp [spec_l7Box.l0])
                  | succ k2 =>
                    have H := HA.out
                    clear HA
                    simp only [spec_l7Box.l0] at H
                    by_cases c12 : 0 < (l0.length : Int)
                    · rw [if_pos c12] at H
                      have c12b0 : decide (0 < (l0.length : Int)) = true := decide_eq_true c12
                      have c12b1 : decide (0 < l0.length) = true := decide_eq_true (by omega)
                      clear c12
                      by_cases c13 : x3_2 < (((rd_T51 l0 0).f3).length : Int)
                      · rw [if_pos c13] at H
                        have c13b0 : decide (x3_2 < (((rd_T51 l0 0).f3).length : Int)) = true := decide_eq_true c13
                        clear c13
                        by_cases c14 : 0 ≤ x3_2
                        · rw [if_pos c14] at H
                          have c14b0 : decide (0 ≤ x3_2) = true := decide_eq_true c14
                          clear c14
                          replace H := Option.bind_eq_some_iff.mp H
                          obtain ⟨t126, A150, H⟩ := H
                          replace H : (if t126 = 0 then (if x3_2 > 0 then (if 0 ≤ (wrap64 (x3_2 - 1)) then (if (wrap64 (x3_2 - 1)) < (((rd_T51 l0 0).f3).length : Int) then (if ((rd_T133 ((rd_T51 l0 0).f3) x3_2).f0) ≤ ((rd_T133 ((rd_T51 l0 0).f3) (wrap64 (x3_2 - 1))).f0) then (some 1) else (if ((rd_T133 ((rd_T51 l0 0).f3) x3_2).f0) ≥ ((rd_T51 l0 0).f2) then (some 1) else (spec_l7Box.l0 k2 l0 (wrap64 (x3_2 + 1))))) else (none)) else (none)) else (if ((rd_T133 ((rd_T51 l0 0).f3) x3_2).f0) ≥ ((rd_T51 l0 0).f2) then (some 1) else (spec_l7Box.l0 k2 l0 (wrap64 (x3_2 + 1))))) else (some t126)) = some r := H
                          have A15 := Aside0.mk A150
                          clear A150
                          by_cases c16 : t126 = 0
                          · rw [if_pos c16] at H
                            have c16b0 : (t126 == 0) = true := beq_iff_eq.mpr c16
                            have c16b1 : (t126 != 0) = false := bne_eq_false_iff_eq.mpr c16
                            clear c16
                            by_cases c17 : x3_2 > 0
                            · rw [if_pos c17] at H
                              have c17b0 : decide (0 < x3_2) = true := decide_eq_true c17
                              clear c17
                              obtain ⟨ji18, hji18⟩ : ∃ j_ : Int, (wrap64 (x3_2 - 1)) = j_ := ⟨_, rfl⟩
                              replace H : (if 0 ≤ (ji18) then (if (ji18) < (((rd_T51 l0 0).f3).length : Int) then (if ((rd_T133 ((rd_T51 l0 0).f3) x3_2).f0) ≤ ((rd_T133 ((rd_T51 l0 0).f3) (ji18)).f0) then (some 1) else (if ((rd_T133 ((rd_T51 l0 0).f3) x3_2).f0) ≥ ((rd_T51 l0 0).f2) then (some 1) else (spec_l7Box.l0 k2 l0 (wrap64 (x3_2 + 1))))) else (none)) else (none)) = some r := by first | (rw [hji18] at H; exact H) | (simp only [hji18] at H ⊢; exact H)
                              (try rw [hji18] at A15)
                              have hji18w : (IntKind.i64.wrap (x3_2 - 1)) = ji18 := (i64_w _).trans hji18
                              by_cases c19 : 0 ≤ (ji18)
                              · rw [if_pos c19] at H
                                have c19b0 : decide (0 ≤ (ji18)) = true := decide_eq_true c19
                                clear c19
                                by_cases c20 : (ji18) < (((rd_T51 l0 0).f3).length : Int)
                                · rw [if_pos c20] at H
                                  have c20b0 : decide ((ji18) < (((rd_T51 l0 0).f3).length : Int)) = true := decide_eq_true c20
                                  clear c20
                                  by_cases c21 : ((rd_T133 ((rd_T51 l0 0).f3) x3_2).f0) ≤ ((rd_T133 ((rd_T51 l0 0).f3) (ji18)).f0)
                                  · rw [if_pos c21] at H
                                    have c21b0 : decide (((rd_T133 ((rd_T51 l0 0).f3) x3_2).f0) ≤ ((rd_T133 ((rd_T51 l0 0).f3) (ji18)).f0)) = true := decide_eq_true c21
                                    clear c21
                                    obtain rfl := Option.some.inj H
                                    have p122 : 0 ≤ (0 : Int) := (by omega)
                                    have q122 : 0 < (l0.length : Int) := of_decide_eq_true (by first | (with_reducible assumption) | assumption)
                                    obtain ⟨ad122, A122_3, c122_3, e122, hx122_0, hx122_1, hx122_2, hx122_3, hl122_3, hi122_3⟩ := at_T51 HR0.out 0 p122 q122
                                    obtain rfl : ad115 = ad122 := (by injection e122)
                                    have qi122 : (0 < l0.length) = True := eq_true (by omega)
                                    (try rw [show ((0 : Int)).toNat = 0 from rfl] at hx122_0)
                                    (try rw [show 0 * 4 = 0 from rfl] at hx122_0)
                                    (try rw [Addr.add_zero'] at hx122_0)
                                    (try rw [show ((0 : Int)).toNat = 0 from rfl] at hx122_1)
                                    (try rw [show 0 * 4 = 0 from rfl] at hx122_1)
                                    (try rw [Addr.add_zero'] at hx122_1)
                                    (try rw [show ((0 : Int)).toNat = 0 from rfl] at hx122_2)
                                    (try rw [show 0 * 4 = 0 from rfl] at hx122_2)
                                    (try rw [Addr.add_zero'] at hx122_2)
                                    (try rw [show ((0 : Int)).toNat = 0 from rfl] at hx122_3)
                                    (try rw [show 0 * 4 = 0 from rfl] at hx122_3)
                                    (try rw [Addr.add_zero'] at hx122_3)
                                    have HR122_3 := Aside0.mk hi122_3
                                    have HC122_3 := Aside0.mk hl122_3
                                    clear hi122_3 hl122_3
                                    replace p122 := eq_true p122
                                    replace q122 := eq_true q122
                                    have p123 : 0 ≤ (0 : Int) := (by omega)
                                    have q123 : 0 < (l0.length : Int) := of_decide_eq_true (by first | (with_reducible assumption) | assumption)
                                    obtain ⟨ad123, A123_3, c123_3, e123, hx123_0, hx123_1, hx123_2, hx123_3, hl123_3, hi123_3⟩ := at_T51 HR0.out 0 p123 q123
                                    obtain rfl : ad115 = ad123 := (by injection e123)
                                    have qi123 : (0 < l0.length) = True := eq_true (by omega)
                                    (try rw [show ((0 : Int)).toNat = 0 from rfl] at hx123_0)
                                    (try rw [show 0 * 4 = 0 from rfl] at hx123_0)
                                    (try rw [Addr.add_zero'] at hx123_0)
                                    (try rw [show ((0 : Int)).toNat = 0 from rfl] at hx123_1)
                                    (try rw [show 0 * 4 = 0 from rfl] at hx123_1)
                                    (try rw [Addr.add_zero'] at hx123_1)
                                    (try rw [show ((0 : Int)).toNat = 0 from rfl] at hx123_2)
                                    (try rw [show 0 * 4 = 0 from rfl] at hx123_2)
                                    (try rw [Addr.add_zero'] at hx123_2)
                                    (try rw [show ((0 : Int)).toNat = 0 from rfl] at hx123_3)
                                    (try rw [show 0 * 4 = 0 from rfl] at hx123_3)
                                    (try rw [Addr.add_zero'] at hx123_3)
                                    have HR123_3 := Aside0.mk hi123_3
                                    have HC123_3 := Aside0.mk hl123_3
                                    clear hi123_3 hl123_3
                                    replace p123 := eq_true p123
                                    replace q123 := eq_true q123
                                    have ea_ := Option.some.inj (hx122_3.symm.trans hx123_3)
                                    injection ea_ with ea_ en_ ec_
                                    subst ea_
                                    subst ec_
                                    clear en_
                                    have p124 : 0 ≤ (x3_2 : Int) := of_decide_eq_true (by first | (with_reducible assumption) | assumption)
                                    have q124 : x3_2 < (((rd_T51 l0 0).f3).length : Int) := of_decide_eq_true (by first | (with_reducible assumption) | assumption)
                                    obtain ⟨ad124, A124_3, c124_3, e124, hx124_0, hx124_1, hx124_2, hx124_3, hl124_3, hi124_3⟩ := at_T133 HR123_3.out x3_2 p124 q124
                                    cases e124
                                    have HR124_3 := Aside0.mk hi124_3
                                    have HC124_3 := Aside0.mk hl124_3
                                    clear hi124_3 hl124_3
                                    replace p124 := eq_true p124
                                    replace q124 := eq_true q124
                                    have HRa125 := Aside0.mk (Kd.C_elem HR123_3.out (x3_2 : Int) (of_decide_eq_true (by first | (with_reducible assumption) | assumption)) (of_decide_eq_true (by first | (with_reducible assumption) | assumption)))
                                    go_wp2_with (first | (go_at_call 146; (with_reducible refine (spec_l7Message.calls k2 _ (((rd_T51 l0 0).f3).drop (x3_2 : Int).toNat).length (((rd_T51 l0 0).f3).drop (x3_2 : Int).toNat) t126 _ ?side1 ?side2 A15.out).mono ?_); (case side1 => repeat (first | exact HRa125.out | (with_reducible refine Kd.C_alloc ?_ _) | (with_reducible refine Kd.C_drewN ?_ _) | (with_reducible refine Kd.C_drew ?_))); (case side2 => exact Nat.le_refl _); rintro e w' ⟨rfl, ⟨nd, rfl⟩⟩; (try first | exact ⟨rfl, _, World.drewN_drewN _ _ _⟩ | exact ⟨rfl, _, Eq.trans (World.drewN_drewN _ _ _) (congrArg (World.drewN _) (Nat.add_assoc _ _ _))⟩); have p127 : 0 ≤ (0 : Int) := (by omega); have q127 : 0 < (l0.length : Int) := of_decide_eq_true (by first | (with_reducible assumption) | assumption); obtain ⟨ad127, A127_3, c127_3, e127, hx127_0, hx127_1, hx127_2, hx127_3, hl127_3, hi127_3⟩ := at_T51 HR0.out 0 p127 q127; obtain rfl : ad115 = ad127 := (by injection e127); have qi127 : (0 < l0.length) = True := eq_true (by omega); (try rw [show ((0 : Int)).toNat = 0 from rfl] at hx127_0); (try rw [show 0 * 4 = 0 from rfl] at hx127_0); (try rw [Addr.add_zero'] at hx127_0); (try rw [show ((0 : Int)).toNat = 0 from rfl] at hx127_1); (try rw [show 0 * 4 = 0 from rfl] at hx127_1); (try rw [Addr.add_zero'] at hx127_1); (try rw [show ((0 : Int)).toNat = 0 from rfl] at hx127_2); (try rw [show 0 * 4 = 0 from rfl] at hx127_2); (try rw [Addr.add_zero'] at hx127_2); (try rw [show ((0 : Int)).toNat = 0 from rfl] at hx127_3); (try rw [show 0 * 4 = 0 from rfl] at hx127_3); (try rw [Addr.add_zero'] at hx127_3); have HR127_3 := Aside0.mk hi127_3; have HC127_3 := Aside0.mk hl127_3; clear hi127_3 hl127_3; replace p127 := eq_true p127; replace q127 := eq_true q127; have ea_ := Option.some.inj (hx122_3.symm.trans hx127_3); injection ea_ with ea_ en_ ec_; subst ea_; subst ec_; clear en_; have p128 : 0 ≤ (x3_2 : Int) := of_decide_eq_true (by first | (with_reducible assumption) | assumption); have q128 : x3_2 < (((rd_T51 l0 0).f3).length : Int) := of_decide_eq_true (by first | (with_reducible assumption) | assumption); obtain ⟨ad128, A128_3, c128_3, e128, hx128_0, hx128_1, hx128_2, hx128_3, hl128_3, hi128_3⟩ := at_T133 HR127_3.out x3_2 p128 q128; cases e128; have HR128_3 := Aside0.mk hi128_3; have HC128_3 := Aside0.mk hl128_3; clear hi128_3 hl128_3; replace p128 := eq_true p128; replace q128 := eq_true q128; have p129 : 0 ≤ (0 : Int) := (by omega); have q129 : 0 < (l0.length : Int) := of_decide_eq_true (by first | (with_reducible assumption) | assumption); obtain ⟨ad129, A129_3, c129_3, e129, hx129_0, hx129_1, hx129_2, hx129_3, hl129_3, hi129_3⟩ := at_T51 HR0.out 0 p129 q129; obtain rfl : ad115 = ad129 := (by injection e129); have qi129 : (0 < l0.length) = True := eq_true (by omega); (try rw [show ((0 : Int)).toNat = 0 from rfl] at hx129_0); (try rw [show 0 * 4 = 0 from rfl] at hx129_0); (try rw [Addr.add_zero'] at hx129_0); (try rw [show ((0 : Int)).toNat = 0 from rfl] at hx129_1); (try rw [show 0 * 4 = 0 from rfl] at hx129_1); (try rw [Addr.add_zero'] at hx129_1); (try rw [show ((0 : Int)).toNat = 0 from rfl] at hx129_2); (try rw [show 0 * 4 = 0 from rfl] at hx129_2); (try rw [Addr.add_zero'] at hx129_2); (try rw [show ((0 : Int)).toNat = 0 from rfl] at hx129_3); (try rw [show 0 * 4 = 0 from rfl] at hx129_3); (try rw [Addr.add_zero'] at hx129_3); have HR129_3 := Aside0.mk hi129_3; have HC129_3 := Aside0.mk hl129_3; clear hi129_3 hl129_3; replace p129 := eq_true p129; replace q129 := eq_true q129; have ea_ := Option.some.inj (hx122_3.symm.trans hx129_3); injection ea_ with ea_ en_ ec_; subst ea_; subst ec_; clear en_; have p130 : 0 ≤ ((ji18) : Int) := of_decide_eq_true (by first | (with_reducible assumption) | assumption); have q130 : (ji18) < (((rd_T51 l0 0).f3).length : Int) := of_decide_eq_true (by first | (with_reducible assumption) | assumption); obtain ⟨ad130, A130_3, c130_3, e130, hx130_0, hx130_1, hx130_2, hx130_3, hl130_3, hi130_3⟩ := at_T133 HR129_3.out (ji18) p130 q130; cases e130; have HR130_3 := Aside0.mk hi130_3; have HC130_3 := Aside0.mk hl130_3; clear hi130_3 hl130_3; replace p130 := eq_true p130; replace q130 := eq_true q130))
                                    repeat (go_quiet (first | (go_at_call 146; (with_reducible refine (spec_l7Message.calls k2 _ (((rd_T51 l0 0).f3).drop (x3_2 : Int).toNat).length (((rd_T51 l0 0).f3).drop (x3_2 : Int).toNat) t126 _ ?side1 ?side2 A15.out).mono ?_); (case side1 => repeat (first | exact HRa125.out | (with_reducible refine Kd.C_alloc ?_ _) | (with_reducible refine Kd.C_drewN ?_ _) | (with_reducible refine Kd.C_drew ?_))); (case side2 => exact Nat.le_refl _); rintro e w' ⟨rfl, ⟨nd, rfl⟩⟩; (try first | exact ⟨rfl, _, World.drewN_drewN _ _ _⟩ | exact ⟨rfl, _, Eq.trans (World.drewN_drewN _ _ _) (congrArg (World.drewN _) (Nat.add_assoc _ _ _))⟩); have p127 : 0 ≤ (0 : Int) := (by omega); have q127 : 0 < (l0.length : Int) := of_decide_eq_true (by first | (with_reducible assumption) | assumption); obtain ⟨ad127, A127_3, c127_3, e127, hx127_0, hx127_1, hx127_2, hx127_3, hl127_3, hi127_3⟩ := at_T51 HR0.out 0 p127 q127; obtain rfl : ad115 = ad127 := (by injection e127); have qi127 : (0 < l0.length) = True := eq_true (by omega); (try rw [show ((0 : Int)).toNat = 0 from rfl] at hx127_0); (try rw [show 0 * 4 = 0 from rfl] at hx127_0); (try rw [Addr.add_zero'] at hx127_0); (try rw [show ((0 : Int)).toNat = 0 from rfl] at hx127_1); (try rw [show 0 * 4 = 0 from rfl] at hx127_1); (try rw [Addr.add_zero'] at hx127_1); (try rw [show ((0 : Int)).toNat = 0 from rfl] at hx127_2); (try rw [show 0 * 4 = 0 from rfl] at hx127_2); (try rw [Addr.add_zero'] at hx127_2); (try rw [show ((0 : Int)).toNat = 0 from rfl] at hx127_3); (try rw [show 0 * 4 = 0 from rfl] at hx127_3); (try rw [Addr.add_zero'] at hx127_3); have HR127_3 := Aside0.mk hi127_3; have HC127_3 := Aside0.mk hl127_3; clear hi127_3 hl127_3; replace p127 := eq_true p127; replace q127 := eq_true q127; have ea_ := Option.some.inj (hx122_3.symm.trans hx127_3); injection ea_ with ea_ en_ ec_; subst ea_; subst ec_; clear en_; have p128 : 0 ≤ (x3_2 : Int) := of_decide_eq_true (by first | (with_reducible assumption) | assumption); have q128 : x3_2 < (((rd_T51 l0 0).f3).length : Int) := of_decide_eq_true (by first | (with_reducible assumption) | assumption); obtain ⟨ad128, A128_3, c128_3, e128, hx128_0, hx128_1, hx128_2, hx128_3, hl128_3, hi128_3⟩ := at_T133 HR127_3.out x3_2 p128 q128; cases e128; have HR128_3 := Aside0.mk hi128_3; have HC128_3 := Aside0.mk hl128_3; clear hi128_3 hl128_3; replace p128 := eq_true p128; replace q128 := eq_true q128; have p129 : 0 ≤ (0 : Int) := (by omega); have q129 : 0 < (l0.length : Int) := of_decide_eq_true (by first | (with_reducible assumption) | assumption); obtain ⟨ad129, A129_3, c129_3, e129, hx129_0, hx129_1, hx129_2, hx129_3, hl129_3, hi129_3⟩ := at_T51 HR0.out 0 p129 q129; obtain rfl : ad115 = ad129 := (by injection e129); have qi129 : (0 < l0.length) = True := eq_true (by omega); (try rw [show ((0 : Int)).toNat = 0 from rfl] at hx129_0); (try rw [show 0 * 4 = 0 from rfl] at hx129_0); (try rw [Addr.add_zero'] at hx129_0); (try rw [show ((0 : Int)).toNat = 0 from rfl] at hx129_1); (try rw [show 0 * 4 = 0 from rfl] at hx129_1); (try rw [Addr.add_zero'] at hx129_1); (try rw [show ((0 : Int)).toNat = 0 from rfl] at hx129_2); (try rw [show 0 * 4 = 0 from rfl] at hx129_2); (try rw [Addr.add_zero'] at hx129_2); (try rw [show ((0 : Int)).toNat = 0 from rfl] at hx129_3); (try rw [show 0 * 4 = 0 from rfl] at hx129_3); (try rw [Addr.add_zero'] at hx129_3); have HR129_3 := Aside0.mk hi129_3; have HC129_3 := Aside0.mk hl129_3; clear hi129_3 hl129_3; replace p129 := eq_true p129; replace q129 := eq_true q129; have ea_ := Option.some.inj (hx122_3.symm.trans hx129_3); injection ea_ with ea_ en_ ec_; subst ea_; subst ec_; clear en_; have p130 : 0 ≤ ((ji18) : Int) := of_decide_eq_true (by first | (with_reducible assumption) | assumption); have q130 : (ji18) < (((rd_T51 l0 0).f3).length : Int) := of_decide_eq_true (by first | (with_reducible assumption) | assumption); obtain ⟨ad130, A130_3, c130_3, e130, hx130_0, hx130_1, hx130_2, hx130_3, hl130_3, hi130_3⟩ := at_T133 HR129_3.out (ji18) p130 q130; cases e130; have HR130_3 := Aside0.mk hi130_3; have HC130_3 := Aside0.mk hl130_3; clear hi130_3 hl130_3; replace p130 := eq_true p130; replace q130 := eq_true q130)); try go_wp2_with (first | (go_at_call 146; (with_reducible refine (spec_l7Message.calls k2 _ (((rd_T51 l0 0).f3).drop (x3_2 : Int).toNat).length (((rd_T51 l0 0).f3).drop (x3_2 : Int).toNat) t126 _ ?side1 ?side2 A15.out).mono ?_); (case side1 => repeat (first | exact HRa125.out | (with_reducible refine Kd.C_alloc ?_ _) | (with_reducible refine Kd.C_drewN ?_ _) | (with_reducible refine Kd.C_drew ?_))); (case side2 => exact Nat.le_refl _); rintro e w' ⟨rfl, ⟨nd, rfl⟩⟩; (try first | exact ⟨rfl, _, World.drewN_drewN _ _ _⟩ | exact ⟨rfl, _, Eq.trans (World.drewN_drewN _ _ _) (congrArg (World.drewN _) (Nat.add_assoc _ _ _))⟩); have p127 : 0 ≤ (0 : Int) := (by omega); have q127 : 0 < (l0.length : Int) := of_decide_eq_true (by first | (with_reducible assumption) | assumption); obtain ⟨ad127, A127_3, c127_3, e127, hx127_0, hx127_1, hx127_2, hx127_3, hl127_3, hi127_3⟩ := at_T51 HR0.out 0 p127 q127; obtain rfl : ad115 = ad127 := (by injection e127); have qi127 : (0 < l0.length) = True := eq_true (by omega); (try rw [show ((0 : Int)).toNat = 0 from rfl] at hx127_0); (try rw [show 0 * 4 = 0 from rfl] at hx127_0); (try rw [Addr.add_zero'] at hx127_0); (try rw [show ((0 : Int)).toNat = 0 from rfl] at hx127_1); (try rw [show 0 * 4 = 0 from rfl] at hx127_1); (try rw [Addr.add_zero'] at hx127_1); (try rw [show ((0 : Int)).toNat = 0 from rfl] at hx127_2); (try rw [show 0 * 4 = 0 from rfl] at hx127_2); (try rw [Addr.add_zero'] at hx127_2); (try rw [show ((0 : Int)).toNat = 0 from rfl] at hx127_3); (try rw [show 0 * 4 = 0 from rfl] at hx127_3); (try rw [Addr.add_zero'] at hx127_3); have HR127_3 := Aside0.mk hi127_3; have HC127_3 := Aside0.mk hl127_3; clear hi127_3 hl127_3; replace p127 := eq_true p127; replace q127 := eq_true q127; have ea_ := Option.some.inj (hx122_3.symm.trans hx127_3); injection ea_ with ea_ en_ ec_; subst ea_; subst ec_; clear en_; have p128 : 0 ≤ (x3_2 : Int) := of_decide_eq_true (by first | (with_reducible assumption) | assumption); have q128 : x3_2 < (((rd_T51 l0 0).f3).length : Int) := of_decide_eq_true (by first | (with_reducible assumption) | assumption); obtain ⟨ad128, A128_3, c128_3, e128, hx128_0, hx128_1, hx128_2, hx128_3, hl128_3, hi128_3⟩ := at_T133 HR127_3.out x3_2 p128 q128; cases e128; have HR128_3 := Aside0.mk hi128_3; have HC128_3 := Aside0.mk hl128_3; clear hi128_3 hl128_3; replace p128 := eq_true p128; replace q128 := eq_true q128; have p129 : 0 ≤ (0 : Int) := (by omega); have q129 : 0 < (l0.length : Int) := of_decide_eq_true (by first | (with_reducible assumption) | assumption); obtain ⟨ad129, A129_3, c129_3, e129, hx129_0, hx129_1, hx129_2, hx129_3, hl129_3, hi129_3⟩ := at_T51 HR0.out 0 p129 q129; obtain rfl : ad115 = ad129 := (by injection e129); have qi129 : (0 < l0.length) = True := eq_true (by omega); (try rw [show ((0 : Int)).toNat = 0 from rfl] at hx129_0); (try rw [show 0 * 4 = 0 from rfl] at hx129_0); (try rw [Addr.add_zero'] at hx129_0); (try rw [show ((0 : Int)).toNat = 0 from rfl] at hx129_1); (try rw [show 0 * 4 = 0 from rfl] at hx129_1); (try rw [Addr.add_zero'] at hx129_1); (try rw [show ((0 : Int)).toNat = 0 from rfl] at hx129_2); (try rw [show 0 * 4 = 0 from rfl] at hx129_2); (try rw [Addr.add_zero'] at hx129_2); (try rw [show ((0 : Int)).toNat = 0 from rfl] at hx129_3); (try rw [show 0 * 4 = 0 from rfl] at hx129_3); (try rw [Addr.add_zero'] at hx129_3); have HR129_3 := Aside0.mk hi129_3; have HC129_3 := Aside0.mk hl129_3; clear hi129_3 hl129_3; replace p129 := eq_true p129; replace q129 := eq_true q129; have ea_ := Option.some.inj (hx122_3.symm.trans hx129_3); injection ea_ with ea_ en_ ec_; subst ea_; subst ec_; clear en_; have p130 : 0 ≤ ((ji18) : Int) := of_decide_eq_true (by first | (with_reducible assumption) | assumption); have q130 : (ji18) < (((rd_T51 l0 0).f3).length : Int) := of_decide_eq_true (by first | (with_reducible assumption) | assumption); obtain ⟨ad130, A130_3, c130_3, e130, hx130_0, hx130_1, hx130_2, hx130_3, hl130_3, hi130_3⟩ := at_T133 HR129_3.out (ji18) p130 q130; cases e130; have HR130_3 := Aside0.mk hi130_3; have HC130_3 := Aside0.mk hl130_3; clear hi130_3 hl130_3; replace p130 := eq_true p130; replace q130 := eq_true q130)))
                                    go_ret
                                    exact ⟨by first | rfl | (simp; done) | (simp only [← hji18] <;> (first | rfl | simp)) | (simp [*]; done), by repeat (first | exact Drawn0.refl _ | apply Drawn0.step)⟩
                                  · rw [if_neg c21] at H
                                    have c21b0 : decide (((rd_T133 ((rd_T51 l0 0).f3) x3_2).f0) ≤ ((rd_T133 ((rd_T51 l0 0).f3) (ji18)).f0)) = false := decide_eq_false c21
                                    clear c21
                                    by_cases c22 : ((rd_T133 ((rd_T51 l0 0).f3) x3_2).f0) ≥ ((rd_T51 l0 0).f2)
                                    · rw [if_pos c22] at H
                                      have c22b0 : decide (((rd_T51 l0 0).f2) ≤ ((rd_T133 ((rd_T51 l0 0).f3) x3_2).f0)) = true := decide_eq_true c22
                                      clear c22
                                      obtain rfl := Option.some.inj H
                                      have p122 : 0 ≤ (0 : Int) := (by omega)
                                      have q122 : 0 < (l0.length : Int) := of_decide_eq_true (by first | (with_reducible assumption) | assumption)
                                      obtain ⟨ad122, A122_3, c122_3, e122, hx122_0, hx122_1, hx122_2, hx122_3, hl122_3, hi122_3⟩ := at_T51 HR0.out 0 p122 q122
                                      obtain rfl : ad115 = ad122 := (by injection e122)
                                      have qi122 : (0 < l0.length) = True := eq_true (by omega)
                                      (try rw [show ((0 : Int)).toNat = 0 from rfl] at hx122_0)
                                      (try rw [show 0 * 4 = 0 from rfl] at hx122_0)
                                      (try rw [Addr.add_zero'] at hx122_0)
                                      (try rw [show ((0 : Int)).toNat = 0 from rfl] at hx122_1)
                                      (try rw [show 0 * 4 = 0 from rfl] at hx122_1)
                                      (try rw [Addr.add_zero'] at hx122_1)
                                      (try rw [show ((0 : Int)).toNat = 0 from rfl] at hx122_2)
                                      (try rw [show 0 * 4 = 0 from rfl] at hx122_2)
                                      (try rw [Addr.add_zero'] at hx122_2)
                                      (try rw [show ((0 : Int)).toNat = 0 from rfl] at hx122_3)
                                      (try rw [show 0 * 4 = 0 from rfl] at hx122_3)
                                      (try rw [Addr.add_zero'] at hx122_3)
                                      have HR122_3 := Aside0.mk hi122_3
                                      have HC122_3 := Aside0.mk hl122_3
                                      clear hi122_3 hl122_3
                                      replace p122 := eq_true p122
                                      replace q122 := eq_true q122
                                      have p123 : 0 ≤ (0 : Int) := (by omega)
                                      have q123 : 0 < (l0.length : Int) := of_decide_eq_true (by first | (with_reducible assumption) | assumption)
                                      obtain ⟨ad123, A123_3, c123_3, e123, hx123_0, hx123_1, hx123_2, hx123_3, hl123_3, hi123_3⟩ := at_T51 HR0.out 0 p123 q123
                                      obtain rfl : ad115 = ad123 := (by injection e123)
                                      have qi123 : (0 < l0.length) = True := eq_true (by omega)
                                      (try rw [show ((0 : Int)).toNat = 0 from rfl] at hx123_0)
                                      (try rw [show 0 * 4 = 0 from rfl] at hx123_0)
                                      (try rw [Addr.add_zero'] at hx123_0)
                                      (try rw [show ((0 : Int)).toNat = 0 from rfl] at hx123_1)
                                      (try rw [show 0 * 4 = 0 from rfl] at hx123_1)
                                      (try rw [Addr.add_zero'] at hx123_1)
                                      (try rw [show ((0 : Int)).toNat = 0 from rfl] at hx123_2)
                                      (try rw [show 0 * 4 = 0 from rfl] at hx123_2)
                                      (try rw [Addr.add_zero'] at hx123_2)
                                      (try rw [show ((0 : Int)).toNat = 0 from rfl] at hx123_3)
                                      (try rw [show 0 * 4 = 0 from rfl] at hx123_3)
                                      (try rw [Addr.add_zero'] at hx123_3)
                                      have HR123_3 := Aside0.mk hi123_3
                                      have HC123_3 := Aside0.mk hl123_3
                                      clear hi123_3 hl123_3
                                      replace p123 := eq_true p123
                                      replace q123 := eq_true q123
                                      have ea_ := Option.some.inj (hx122_3.symm.trans hx123_3)
                                      injection ea_ with ea_ en_ ec_
                                      subst ea_
                                      subst ec_
                                      clear en_
                                      have p124 : 0 ≤ (x3_2 : Int) := of_decide_eq_true (by first | (with_reducible assumption) | assumption)
                                      have q124 : x3_2 < (((rd_T51 l0 0).f3).length : Int) := of_decide_eq_true (by first | (with_reducible assumption) | assumption)
                                      obtain ⟨ad124, A124_3, c124_3, e124, hx124_0, hx124_1, hx124_2, hx124_3, hl124_3, hi124_3⟩ := at_T133 HR123_3.out x3_2 p124 q124
                                      cases e124
                                      have HR124_3 := Aside0.mk hi124_3
                                      have HC124_3 := Aside0.mk hl124_3
                                      clear hi124_3 hl124_3
                                      replace p124 := eq_true p124
                                      replace q124 := eq_true q124
                                      have HRa125 := Aside0.mk (Kd.C_elem HR123_3.out (x3_2 : Int) (of_decide_eq_true (by first | (with_reducible assumption) | assumption)) (of_decide_eq_true (by first | (with_reducible assumption) | assumption)))
                                      go_wp2_with (first | (go_at_call 146; (with_reducible refine (spec_l7Message.calls k2 _ (((rd_T51 l0 0).f3).drop (x3_2 : Int).toNat).length (((rd_T51 l0 0).f3).drop (x3_2 : Int).toNat) t126 _ ?side1 ?side2 A15.out).mono ?_); (case side1 => repeat (first | exact HRa125.out | (with_reducible refine Kd.C_alloc ?_ _) | (with_reducible refine Kd.C_drewN ?_ _) | (with_reducible refine Kd.C_drew ?_))); (case side2 => exact Nat.le_refl _); rintro e w' ⟨rfl, ⟨nd, rfl⟩⟩; (try first | exact ⟨rfl, _, World.drewN_drewN _ _ _⟩ | exact ⟨rfl, _, Eq.trans (World.drewN_drewN _ _ _) (congrArg (World.drewN _) (Nat.add_assoc _ _ _))⟩); have p127 : 0 ≤ (0 : Int) := (by omega); have q127 : 0 < (l0.length : Int) := of_decide_eq_true (by first | (with_reducible assumption) | assumption); obtain ⟨ad127, A127_3, c127_3, e127, hx127_0, hx127_1, hx127_2, hx127_3, hl127_3, hi127_3⟩ := at_T51 HR0.out 0 p127 q127; obtain rfl : ad115 = ad127 := (by injection e127); have qi127 : (0 < l0.length) = True := eq_true (by omega); (try rw [show ((0 : Int)).toNat = 0 from rfl] at hx127_0); (try rw [show 0 * 4 = 0 from rfl] at hx127_0); (try rw [Addr.add_zero'] at hx127_0); (try rw [show ((0 : Int)).toNat = 0 from rfl] at hx127_1); (try rw [show 0 * 4 = 0 from rfl] at hx127_1); (try rw [Addr.add_zero'] at hx127_1); (try rw [show ((0 : Int)).toNat = 0 from rfl] at hx127_2); (try rw [show 0 * 4 = 0 from rfl] at hx127_2); (try rw [Addr.add_zero'] at hx127_2); (try rw [show ((0 : Int)).toNat = 0 from rfl] at hx127_3); (try rw [show 0 * 4 = 0 from rfl] at hx127_3); (try rw [Addr.add_zero'] at hx127_3); have HR127_3 := Aside0.mk hi127_3; have HC127_3 := Aside0.mk hl127_3; clear hi127_3 hl127_3; replace p127 := eq_true p127; replace q127 := eq_true q127; have ea_ := Option.some.inj (hx122_3.symm.trans hx127_3); injection ea_ with ea_ en_ ec_; subst ea_; subst ec_; clear en_; have p128 : 0 ≤ (x3_2 : Int) := of_decide_eq_true (by first | (with_reducible assumption) | assumption); have q128 : x3_2 < (((rd_T51 l0 0).f3).length : Int) := of_decide_eq_true (by first | (with_reducible assumption) | assumption); obtain ⟨ad128, A128_3, c128_3, e128, hx128_0, hx128_1, hx128_2, hx128_3, hl128_3, hi128_3⟩ := at_T133 HR127_3.out x3_2 p128 q128; cases e128; have HR128_3 := Aside0.mk hi128_3; have HC128_3 := Aside0.mk hl128_3; clear hi128_3 hl128_3; replace p128 := eq_true p128; replace q128 := eq_true q128; have p129 : 0 ≤ (0 : Int) := (by omega); have q129 : 0 < (l0.length : Int) := of_decide_eq_true (by first | (with_reducible assumption) | assumption); obtain ⟨ad129, A129_3, c129_3, e129, hx129_0, hx129_1, hx129_2, hx129_3, hl129_3, hi129_3⟩ := at_T51 HR0.out 0 p129 q129; obtain rfl : ad115 = ad129 := (by injection e129); have qi129 : (0 < l0.length) = True := eq_true (by omega); (try rw [show ((0 : Int)).toNat = 0 from rfl] at hx129_0); (try rw [show 0 * 4 = 0 from rfl] at hx129_0); (try rw [Addr.add_zero'] at hx129_0); (try rw [show ((0 : Int)).toNat = 0 from rfl] at hx129_1); (try rw [show 0 * 4 = 0 from rfl] at hx129_1); (try rw [Addr.add_zero'] at hx129_1); (try rw [show ((0 : Int)).toNat = 0 from rfl] at hx129_2); (try rw [show 0 * 4 = 0 from rfl] at hx129_2); (try rw [Addr.add_zero'] at hx129_2); (try rw [show ((0 : Int)).toNat = 0 from rfl] at hx129_3); (try rw [show 0 * 4 = 0 from rfl] at hx129_3); (try rw [Addr.add_zero'] at hx129_3); have HR129_3 := Aside0.mk hi129_3; have HC129_3 := Aside0.mk hl129_3; clear hi129_3 hl129_3; replace p129 := eq_true p129; replace q129 := eq_true q129; have ea_ := Option.some.inj (hx122_3.symm.trans hx129_3); injection ea_ with ea_ en_ ec_; subst ea_; subst ec_; clear en_; have p130 : 0 ≤ ((ji18) : Int) := of_decide_eq_true (by first | (with_reducible assumption) | assumption); have q130 : (ji18) < (((rd_T51 l0 0).f3).length : Int) := of_decide_eq_true (by first | (with_reducible assumption) | assumption); obtain ⟨ad130, A130_3, c130_3, e130, hx130_0, hx130_1, hx130_2, hx130_3, hl130_3, hi130_3⟩ := at_T133 HR129_3.out (ji18) p130 q130; cases e130; have HR130_3 := Aside0.mk hi130_3; have HC130_3 := Aside0.mk hl130_3; clear hi130_3 hl130_3; replace p130 := eq_true p130; replace q130 := eq_true q130; have p131 : 0 ≤ (0 : Int) := (by omega); have q131 : 0 < (l0.length : Int) := of_decide_eq_true (by first | (with_reducible assumption) | assumption); obtain ⟨ad131, A131_3, c131_3, e131, hx131_0, hx131_1, hx131_2, hx131_3, hl131_3, hi131_3⟩ := at_T51 HR0.out 0 p131 q131; obtain rfl : ad115 = ad131 := (by injection e131); have qi131 : (0 < l0.length) = True := eq_true (by omega); (try rw [show ((0 : Int)).toNat = 0 from rfl] at hx131_0); (try rw [show 0 * 4 = 0 from rfl] at hx131_0); (try rw [Addr.add_zero'] at hx131_0); (try rw [show ((0 : Int)).toNat = 0 from rfl] at hx131_1); (try rw [show 0 * 4 = 0 from rfl] at hx131_1); (try rw [Addr.add_zero'] at hx131_1); (try rw [show ((0 : Int)).toNat = 0 from rfl] at hx131_2); (try rw [show 0 * 4 = 0 from rfl] at hx131_2); (try rw [Addr.add_zero'] at hx131_2); (try rw [show ((0 : Int)).toNat = 0 from rfl] at hx131_3); (try rw [show 0 * 4 = 0 from rfl] at hx131_3); (try rw [Addr.add_zero'] at hx131_3); have HR131_3 := Aside0.mk hi131_3; have HC131_3 := Aside0.mk hl131_3; clear hi131_3 hl131_3; replace p131 := eq_true p131; replace q131 := eq_true q131; have ea_ := Option.some.inj (hx122_3.symm.trans hx131_3); injection ea_ with ea_ en_ ec_; subst ea_; subst ec_; clear en_; have p132 : 0 ≤ (x3_2 : Int) := of_decide_eq_true (by first | (with_reducible assumption) | assumption); have q132 : x3_2 < (((rd_T51 l0 0).f3).length : Int) := of_decide_eq_true (by first | (with_reducible assumption) | assumption); obtain ⟨ad132, A132_3, c132_3, e132, hx132_0, hx132_1, hx132_2, hx132_3, hl132_3, hi132_3⟩ := at_T133 HR131_3.out x3_2 p132 q132; cases e132; have HR132_3 := Aside0.mk hi132_3; have HC132_3 := Aside0.mk hl132_3; clear hi132_3 hl132_3; replace p132 := eq_true p132; replace q132 := eq_true q132; have p133 : 0 ≤ (0 : Int) := (by omega); have q133 : 0 < (l0.length : Int) := of_decide_eq_true (by first | (with_reducible assumption) | assumption); obtain ⟨ad133, A133_3, c133_3, e133, hx133_0, hx133_1, hx133_2, hx133_3, hl133_3, hi133_3⟩ := at_T51 HR0.out 0 p133 q133; obtain rfl : ad115 = ad133 := (by injection e133); have qi133 : (0 < l0.length) = True := eq_true (by omega); (try rw [show ((0 : Int)).toNat = 0 from rfl] at hx133_0); (try rw [show 0 * 4 = 0 from rfl] at hx133_0); (try rw [Addr.add_zero'] at hx133_0); (try rw [show ((0 : Int)).toNat = 0 from rfl] at hx133_1); (try rw [show 0 * 4 = 0 from rfl] at hx133_1); (try rw [Addr.add_zero'] at hx133_1); (try rw [show ((0 : Int)).toNat = 0 from rfl] at hx133_2); (try rw [show 0 * 4 = 0 from rfl] at hx133_2); (try rw [Addr.add_zero'] at hx133_2); (try rw [show ((0 : Int)).toNat = 0 from rfl] at hx133_3); (try rw [show 0 * 4 = 0 from rfl] at hx133_3); (try rw [Addr.add_zero'] at hx133_3); have HR133_3 := Aside0.mk hi133_3; have HC133_3 := Aside0.mk hl133_3; clear hi133_3 hl133_3; replace p133 := eq_true p133; replace q133 := eq_true q133; have ea_ := Option.some.inj (hx122_3.symm.trans hx133_3); injection ea_ with ea_ en_ ec_; subst ea_; subst ec_; clear en_))
                                      repeat (go_quiet (first | (go_at_call 146; (with_reducible refine (spec_l7Message.calls k2 _ (((rd_T51 l0 0).f3).drop (x3_2 : Int).toNat).length (((rd_T51 l0 0).f3).drop (x3_2 : Int).toNat) t126 _ ?side1 ?side2 A15.out).mono ?_); (case side1 => repeat (first | exact HRa125.out | (with_reducible refine Kd.C_alloc ?_ _) | (with_reducible refine Kd.C_drewN ?_ _) | (with_reducible refine Kd.C_drew ?_))); (case side2 => exact Nat.le_refl _); rintro e w' ⟨rfl, ⟨nd, rfl⟩⟩; (try first | exact ⟨rfl, _, World.drewN_drewN _ _ _⟩ | exact ⟨rfl, _, Eq.trans (World.drewN_drewN _ _ _) (congrArg (World.drewN _) (Nat.add_assoc _ _ _))⟩); have p127 : 0 ≤ (0 : Int) := (by omega); have q127 : 0 < (l0.length : Int) := of_decide_eq_true (by first | (with_reducible assumption) | assumption); obtain ⟨ad127, A127_3, c127_3, e127, hx127_0, hx127_1, hx127_2, hx127_3, hl127_3, hi127_3⟩ := at_T51 HR0.out 0 p127 q127; obtain rfl : ad115 = ad127 := (by injection e127); have qi127 : (0 < l0.length) = True := eq_true (by omega); (try rw [show ((0 : Int)).toNat = 0 from rfl] at hx127_0); (try rw [show 0 * 4 = 0 from rfl] at hx127_0); (try rw [Addr.add_zero'] at hx127_0); (try rw [show ((0 : Int)).toNat = 0 from rfl] at hx127_1); (try rw [show 0 * 4 = 0 from rfl] at hx127_1); (try rw [Addr.add_zero'] at hx127_1); (try rw [show ((0 : Int)).toNat = 0 from rfl] at hx127_2); (try rw [show 0 * 4 = 0 from rfl] at hx127_2); (try rw [Addr.add_zero'] at hx127_2); (try rw [show ((0 : Int)).toNat = 0 from rfl] at hx127_3); (try rw [show 0 * 4 = 0 from rfl] at hx127_3); (try rw [Addr.add_zero'] at hx127_3); have HR127_3 := Aside0.mk hi127_3; have HC127_3 := Aside0.mk hl127_3; clear hi127_3 hl127_3; replace p127 := eq_true p127; replace q127 := eq_true q127; have ea_ := Option.some.inj (hx122_3.symm.trans hx127_3); injection ea_ with ea_ en_ ec_; subst ea_; subst ec_; clear en_; have p128 : 0 ≤ (x3_2 : Int) := of_decide_eq_true (by first | (with_reducible assumption) | assumption); have q128 : x3_2 < (((rd_T51 l0 0).f3).length : Int) := of_decide_eq_true (by first | (with_reducible assumption) | assumption); obtain ⟨ad128, A128_3, c128_3, e128, hx128_0, hx128_1, hx128_2, hx128_3, hl128_3, hi128_3⟩ := at_T133 HR127_3.out x3_2 p128 q128; cases e128; have HR128_3 := Aside0.mk hi128_3; have HC128_3 := Aside0.mk hl128_3; clear hi128_3 hl128_3; replace p128 := eq_true p128; replace q128 := eq_true q128; have p129 : 0 ≤ (0 : Int) := (by omega); have q129 : 0 < (l0.length : Int) := of_decide_eq_true (by first | (with_reducible assumption) | assumption); obtain ⟨ad129, A129_3, c129_3, e129, hx129_0, hx129_1, hx129_2, hx129_3, hl129_3, hi129_3⟩ := at_T51 HR0.out 0 p129 q129; obtain rfl : ad115 = ad129 := (by injection e129); have qi129 : (0 < l0.length) = True := eq_true (by omega); (try rw [show ((0 : Int)).toNat = 0 from rfl] at hx129_0); (try rw [show 0 * 4 = 0 from rfl] at hx129_0); (try rw [Addr.add_zero'] at hx129_0); (try rw [show ((0 : Int)).toNat = 0 from rfl] at hx129_1); (try rw [show 0 * 4 = 0 from rfl] at hx129_1); (try rw [Addr.add_zero'] at hx129_1); (try rw [show ((0 : Int)).toNat = 0 from rfl] at hx129_2); (try rw [show 0 * 4 = 0 from rfl] at hx129_2); (try rw [Addr.add_zero'] at hx129_2); (try rw [show ((0 : Int)).toNat = 0 from rfl] at hx129_3); (try rw [show 0 * 4 = 0 from rfl] at hx129_3); (try rw [Addr.add_zero'] at hx129_3); have HR129_3 := Aside0.mk hi129_3; have HC129_3 := Aside0.mk hl129_3; clear hi129_3 hl129_3; replace p129 := eq_true p129; replace q129 := eq_true q129; have ea_ := Option.some.inj (hx122_3.symm.trans hx129_3); injection ea_ with ea_ en_ ec_; subst ea_; subst ec_; clear en_; have p130 : 0 ≤ ((ji18) : Int) := of_decide_eq_true (by first | (with_reducible assumption) | assumption); have q130 : (ji18) < (((rd_T51 l0 0).f3).length : Int) := of_decide_eq_true (by first | (with_reducible assumption) | assumption); obtain ⟨ad130, A130_3, c130_3, e130, hx130_0, hx130_1, hx130_2, hx130_3, hl130_3, hi130_3⟩ := at_T133 HR129_3.out (ji18) p130 q130; cases e130; have HR130_3 := Aside0.mk hi130_3; have HC130_3 := Aside0.mk hl130_3; clear hi130_3 hl130_3; replace p130 := eq_true p130; replace q130 := eq_true q130; have p131 : 0 ≤ (0 : Int) := (by omega); have q131 : 0 < (l0.length : Int) := of_decide_eq_true (by first | (with_reducible assumption) | assumption); obtain ⟨ad131, A131_3, c131_3, e131, hx131_0, hx131_1, hx131_2, hx131_3, hl131_3, hi131_3⟩ := at_T51 HR0.out 0 p131 q131; obtain rfl : ad115 = ad131 := (by injection e131); have qi131 : (0 < l0.length) = True := eq_true (by omega); (try rw [show ((0 : Int)).toNat = 0 from rfl] at hx131_0); (try rw [show 0 * 4 = 0 from rfl] at hx131_0); (try rw [Addr.add_zero'] at hx131_0); (try rw [show ((0 : Int)).toNat = 0 from rfl] at hx131_1); (try rw [show 0 * 4 = 0 from rfl] at hx131_1); (try rw [Addr.add_zero'] at hx131_1); (try rw [show ((0 : Int)).toNat = 0 from rfl] at hx131_2); (try rw [show 0 * 4 = 0 from rfl] at hx131_2); (try rw [Addr.add_zero'] at hx131_2); (try rw [show ((0 : Int)).toNat = 0 from rfl] at hx131_3); (try rw [show 0 * 4 = 0 from rfl] at hx131_3); (try rw [Addr.add_zero'] at hx131_3); have HR131_3 := Aside0.mk hi131_3; have HC131_3 := Aside0.mk hl131_3; clear hi131_3 hl131_3; replace p131 := eq_true p131; replace q131 := eq_true q131; have ea_ := Option.some.inj (hx122_3.symm.trans hx131_3); injection ea_ with ea_ en_ ec_; subst ea_; subst ec_; clear en_; have p132 : 0 ≤ (x3_2 : Int) := of_decide_eq_true (by first | (with_reducible assumption) | assumption); have q132 : x3_2 < (((rd_T51 l0 0).f3).length : Int) := of_decide_eq_true (by first | (with_reducible assumption) | assumption); obtain ⟨ad132, A132_3, c132_3, e132, hx132_0, hx132_1, hx132_2, hx132_3, hl132_3, hi132_3⟩ := at_T133 HR131_3.out x3_2 p132 q132; cases e132; have HR132_3 := Aside0.mk hi132_3; have HC132_3 := Aside0.mk hl132_3; clear hi132_3 hl132_3; replace p132 := eq_true p132; replace q132 := eq_true q132; have p133 : 0 ≤ (0 : Int) := (by omega); have q133 : 0 < (l0.length : Int) := of_decide_eq_true (by first | (with_reducible assumption) | assumption); obtain ⟨ad133, A133_3, c133_3, e133, hx133_0, hx133_1, hx133_2, hx133_3, hl133_3, hi133_3⟩ := at_T51 HR0.out 0 p133 q133; obtain rfl : ad115 = ad133 := (by injection e133); have qi133 : (0 < l0.length) = True := eq_true (by omega); (try rw [show ((0 : Int)).toNat = 0 from rfl] at hx133_0); (try rw [show 0 * 4 = 0 from rfl] at hx133_0); (try rw [Addr.add_zero'] at hx133_0); (try rw [show ((0 : Int)).toNat = 0 from rfl] at hx133_1); (try rw [show 0 * 4 = 0 from rfl] at hx133_1); (try rw [Addr.add_zero'] at hx133_1); (try rw [show ((0 : Int)).toNat = 0 from rfl] at hx133_2); (try rw [show 0 * 4 = 0 from rfl] at hx133_2); (try rw [Addr.add_zero'] at hx133_2); (try rw [show ((0 : Int)).toNat = 0 from rfl] at hx133_3); (try rw [show 0 * 4 = 0 from rfl] at hx133_3); (try rw [Addr.add_zero'] at hx133_3); have HR133_3 := Aside0.mk hi133_3; have HC133_3 := Aside0.mk hl133_3; clear hi133_3 hl133_3; replace p133 := eq_true p133; replace q133 := eq_true q133; have ea_ := Option.some.inj (hx122_3.symm.trans hx133_3); injection ea_ with ea_ en_ ec_; subst ea_; subst ec_; clear en_)); try go_wp2_with (first | (go_at_call 146; (with_reducible refine (spec_l7Message.calls k2 _ (((rd_T51 l0 0).f3).drop (x3_2 : Int).toNat).length (((rd_T51 l0 0).f3).drop (x3_2 : Int).toNat) t126 _ ?side1 ?side2 A15.out).mono ?_); (case side1 => repeat (first | exact HRa125.out | (with_reducible refine Kd.C_alloc ?_ _) | (with_reducible refine Kd.C_drewN ?_ _) | (with_reducible refine Kd.C_drew ?_))); (case side2 => exact Nat.le_refl _); rintro e w' ⟨rfl, ⟨nd, rfl⟩⟩; (try first | exact ⟨rfl, _, World.drewN_drewN _ _ _⟩ | exact ⟨rfl, _, Eq.trans (World.drewN_drewN _ _ _) (congrArg (World.drewN _) (Nat.add_assoc _ _ _))⟩); have p127 : 0 ≤ (0 : Int) := (by omega); have q127 : 0 < (l0.length : Int) := of_decide_eq_true (by first | (with_reducible assumption) | assumption); obtain ⟨ad127, A127_3, c127_3, e127, hx127_0, hx127_1, hx127_2, hx127_3, hl127_3, hi127_3⟩ := at_T51 HR0.out 0 p127 q127; obtain rfl : ad115 = ad127 := (by injection e127); have qi127 : (0 < l0.length) = True := eq_true (by omega); (try rw [show ((0 : Int)).toNat = 0 from rfl] at hx127_0); (try rw [show 0 * 4 = 0 from rfl] at hx127_0); (try rw [Addr.add_zero'] at hx127_0); (try rw [show ((0 : Int)).toNat = 0 from rfl] at hx127_1); (try rw [show 0 * 4 = 0 from rfl] at hx127_1); (try rw [Addr.add_zero'] at hx127_1); (try rw [show ((0 : Int)).toNat = 0 from rfl] at hx127_2); (try rw [show 0 * 4 = 0 from rfl] at hx127_2); (try rw [Addr.add_zero'] at hx127_2); (try rw [show ((0 : Int)).toNat = 0 from rfl] at hx127_3); (try rw [show 0 * 4 = 0 from rfl] at hx127_3); (try rw [Addr.add_zero'] at hx127_3); have HR127_3 := Aside0.mk hi127_3; have HC127_3 := Aside0.mk hl127_3; clear hi127_3 hl127_3; replace p127 := eq_true p127; replace q127 := eq_true q127; have ea_ := Option.some.inj (hx122_3.symm.trans hx127_3); injection ea_ with ea_ en_ ec_; subst ea_; subst ec_; clear en_; have p128 : 0 ≤ (x3_2 : Int) := of_decide_eq_true (by first | (with_reducible assumption) | assumption); have q128 : x3_2 < (((rd_T51 l0 0).f3).length : Int) := of_decide_eq_true (by first | (with_reducible assumption) | assumption); obtain ⟨ad128, A128_3, c128_3, e128, hx128_0, hx128_1, hx128_2, hx128_3, hl128_3, hi128_3⟩ := at_T133 HR127_3.out x3_2 p128 q128; cases e128; have HR128_3 := Aside0.mk hi128_3; have HC128_3 := Aside0.mk hl128_3; clear hi128_3 hl128_3; replace p128 := eq_true p128; replace q128 := eq_true q128; have p129 : 0 ≤ (0 : Int) := (by omega); have q129 : 0 < (l0.length : Int) := of_decide_eq_true (by first | (with_reducible assumption) | assumption); obtain ⟨ad129, A129_3, c129_3, e129, hx129_0, hx129_1, hx129_2, hx129_3, hl129_3, hi129_3⟩ := at_T51 HR0.out 0 p129 q129; obtain rfl : ad115 = ad129 := (by injection e129); have qi129 : (0 < l0.length) = True := eq_true (by omega); (try rw [show ((0 : Int)).toNat = 0 from rfl] at hx129_0); (try rw [show 0 * 4 = 0 from rfl] at hx129_0); (try rw [Addr.add_zero'] at hx129_0); (try rw [show ((0 : Int)).toNat = 0 from rfl] at hx129_1); (try rw [show 0 * 4 = 0 from rfl] at hx129_1); (try rw [Addr.add_zero'] at hx129_1); (try rw [show ((0 : Int)).toNat = 0 from rfl] at hx129_2); (try rw [show 0 * 4 = 0 from rfl] at hx129_2); (try rw [Addr.add_zero'] at hx129_2); (try rw [show ((0 : Int)).toNat = 0 from rfl] at hx129_3); (try rw [show 0 * 4 = 0 from rfl] at hx129_3); (try rw [Addr.add_zero'] at hx129_3); have HR129_3 := Aside0.mk hi129_3; have HC129_3 := Aside0.mk hl129_3; clear hi129_3 hl129_3; replace p129 := eq_true p129; replace q129 := eq_true q129; have ea_ := Option.some.inj (hx122_3.symm.trans hx129_3); injection ea_ with ea_ en_ ec_; subst ea_; subst ec_; clear en_; have p130 : 0 ≤ ((ji18) : Int) := of_decide_eq_true (by first | (with_reducible assumption) | assumption); have q130 : (ji18) < (((rd_T51 l0 0).f3).length : Int) := of_decide_eq_true (by first | (with_reducible assumption) | assumption); obtain ⟨ad130, A130_3, c130_3, e130, hx130_0, hx130_1, hx130_2, hx130_3, hl130_3, hi130_3⟩ := at_T133 HR129_3.out (ji18) p130 q130; cases e130; have HR130_3 := Aside0.mk hi130_3; have HC130_3 := Aside0.mk hl130_3; clear hi130_3 hl130_3; replace p130 := eq_true p130; replace q130 := eq_true q130; have p131 : 0 ≤ (0 : Int) := (by omega); have q131 : 0 < (l0.length : Int) := of_decide_eq_true (by first | (with_reducible assumption) | assumption); obtain ⟨ad131, A131_3, c131_3, e131, hx131_0, hx131_1, hx131_2, hx131_3, hl131_3, hi131_3⟩ := at_T51 HR0.out 0 p131 q131; obtain rfl : ad115 = ad131 := (by injection e131); have qi131 : (0 < l0.length) = True := eq_true (by omega); (try rw [show ((0 : Int)).toNat = 0 from rfl] at hx131_0); (try rw [show 0 * 4 = 0 from rfl] at hx131_0); (try rw [Addr.add_zero'] at hx131_0); (try rw [show ((0 : Int)).toNat = 0 from rfl] at hx131_1); (try rw [show 0 * 4 = 0 from rfl] at hx131_1); (try rw [Addr.add_zero'] at hx131_1); (try rw [show ((0 : Int)).toNat = 0 from rfl] at hx131_2); (try rw [show 0 * 4 = 0 from rfl] at hx131_2); (try rw [Addr.add_zero'] at hx131_2); (try rw [show ((0 : Int)).toNat = 0 from rfl] at hx131_3); (try rw [show 0 * 4 = 0 from rfl] at hx131_3); (try rw [Addr.add_zero'] at hx131_3); have HR131_3 := Aside0.mk hi131_3; have HC131_3 := Aside0.mk hl131_3; clear hi131_3 hl131_3; replace p131 := eq_true p131; replace q131 := eq_true q131; have ea_ := Option.some.inj (hx122_3.symm.trans hx131_3); injection ea_ with ea_ en_ ec_; subst ea_; subst ec_; clear en_; have p132 : 0 ≤ (x3_2 : Int) := of_decide_eq_true (by first | (with_reducible assumption) | assumption); have q132 : x3_2 < (((rd_T51 l0 0).f3).length : Int) := of_decide_eq_true (by first | (with_reducible assumption) | assumption); obtain ⟨ad132, A132_3, c132_3, e132, hx132_0, hx132_1, hx132_2, hx132_3, hl132_3, hi132_3⟩ := at_T133 HR131_3.out x3_2 p132 q132; cases e132; have HR132_3 := Aside0.mk hi132_3; have HC132_3 := Aside0.mk hl132_3; clear hi132_3 hl132_3; replace p132 := eq_true p132; replace q132 := eq_true q132; have p133 : 0 ≤ (0 : Int) := (by omega); have q133 : 0 < (l0.length : Int) := of_decide_eq_true (by first | (with_reducible assumption) | assumption); obtain ⟨ad133, A133_3, c133_3, e133, hx133_0, hx133_1, hx133_2, hx133_3, hl133_3, hi133_3⟩ := at_T51 HR0.out 0 p133 q133; obtain rfl : ad115 = ad133 := (by injection e133); have qi133 : (0 < l0.length) = True := eq_true (by omega); (try rw [show ((0 : Int)).toNat = 0 from rfl] at hx133_0); (try rw [show 0 * 4 = 0 from rfl] at hx133_0); (try rw [Addr.add_zero'] at hx133_0); (try rw [show ((0 : Int)).toNat = 0 from rfl] at hx133_1); (try rw [show 0 * 4 = 0 from rfl] at hx133_1); (try rw [Addr.add_zero'] at hx133_1); (try rw [show ((0 : Int)).toNat = 0 from rfl] at hx133_2); (try rw [show 0 * 4 = 0 from rfl] at hx133_2); (try rw [Addr.add_zero'] at hx133_2); (try rw [show ((0 : Int)).toNat = 0 from rfl] at hx133_3); (try rw [show 0 * 4 = 0 from rfl] at hx133_3); (try rw [Addr.add_zero'] at hx133_3); have HR133_3 := Aside0.mk hi133_3; have HC133_3 := Aside0.mk hl133_3; clear hi133_3 hl133_3; replace p133 := eq_true p133; replace q133 := eq_true q133; have ea_ := Option.some.inj (hx122_3.symm.trans hx133_3); injection ea_ with ea_ en_ ec_; subst ea_; subst ec_; clear en_)))
                                      go_ret
                                      exact ⟨by first | rfl | (simp; done) | (simp only [← hji18] <;> (first | rfl | simp)) | (simp [*]; done), by repeat (first | exact Drawn0.refl _ | apply Drawn0.step)⟩
                                    · rw [if_neg c22] at H
                                      have c22b0 : decide (((rd_T51 l0 0).f2) ≤ ((rd_T133 ((rd_T51 l0 0).f3) x3_2).f0)) = false := decide_eq_false c22
                                      clear c22
                                      have H' := Aside0.mk H
                                      clear H
                                      have p122 : 0 ≤ (0 : Int) := (by omega)
                                      have q122 : 0 < (l0.length : Int) := of_decide_eq_true (by first | (with_reducible assumption) | assumption)
                                      obtain ⟨ad122, A122_3, c122_3, e122, hx122_0, hx122_1, hx122_2, hx122_3, hl122_3, hi122_3⟩ := at_T51 HR0.out 0 p122 q122
                                      obtain rfl : ad115 = ad122 := (by injection e122)
                                      have qi122 : (0 < l0.length) = True := eq_true (by omega)
                                      (try rw [show ((0 : Int)).toNat = 0 from rfl] at hx122_0)
                                      (try rw [show 0 * 4 = 0 from rfl] at hx122_0)
                                      (try rw [Addr.add_zero'] at hx122_0)
                                      (try rw [show ((0 : Int)).toNat = 0 from rfl] at hx122_1)
                                      (try rw [show 0 * 4 = 0 from rfl] at hx122_1)
                                      (try rw [Addr.add_zero'] at hx122_1)
                                      (try rw [show ((0 : Int)).toNat = 0 from rfl] at hx122_2)
                                      (try rw [show 0 * 4 = 0 from rfl] at hx122_2)
                                      (try rw [Addr.add_zero'] at hx122_2)
                                      (try rw [show ((0 : Int)).toNat = 0 from rfl] at hx122_3)
                                      (try rw [show 0 * 4 = 0 from rfl] at hx122_3)
                                      (try rw [Addr.add_zero'] at hx122_3)
                                      have HR122_3 := Aside0.mk hi122_3
                                      have HC122_3 := Aside0.mk hl122_3
                                      clear hi122_3 hl122_3
                                      replace p122 := eq_true p122
                                      replace q122 := eq_true q122
                                      have p123 : 0 ≤ (0 : Int) := (by omega)
                                      have q123 : 0 < (l0.length : Int) := of_decide_eq_true (by first | (with_reducible assumption) | assumption)
                                      obtain ⟨ad123, A123_3, c123_3, e123, hx123_0, hx123_1, hx123_2, hx123_3, hl123_3, hi123_3⟩ := at_T51 HR0.out 0 p123 q123
                                      obtain rfl : ad115 = ad123 := (by injection e123)
                                      have qi123 : (0 < l0.length) = True := eq_true (by omega)
                                      (try rw [show ((0 : Int)).toNat = 0 from rfl] at hx123_0)
                                      (try rw [show 0 * 4 = 0 from rfl] at hx123_0)
                                      (try rw [Addr.add_zero'] at hx123_0)
                                      (try rw [show ((0 : Int)).toNat = 0 from rfl] at hx123_1)
                                      (try rw [show 0 * 4 = 0 from rfl] at hx123_1)
                                      (try rw [Addr.add_zero'] at hx123_1)
                                      (try rw [show ((0 : Int)).toNat = 0 from rfl] at hx123_2)
                                      (try rw [show 0 * 4 = 0 from rfl] at hx123_2)
                                      (try rw [Addr.add_zero'] at hx123_2)
                                      (try rw [show ((0 : Int)).toNat = 0 from rfl] at hx123_3)
                                      (try rw [show 0 * 4 = 0 from rfl] at hx123_3)
                                      (try rw [Addr.add_zero'] at hx123_3)
                                      have HR123_3 := Aside0.mk hi123_3
                                      have HC123_3 := Aside0.mk hl123_3
                                      clear hi123_3 hl123_3
                                      replace p123 := eq_true p123
                                      replace q123 := eq_true q123
                                      have ea_ := Option.some.inj (hx122_3.symm.trans hx123_3)
                                      injection ea_ with ea_ en_ ec_
                                      subst ea_
                                      subst ec_
                                      clear en_
                                      have p124 : 0 ≤ (x3_2 : Int) := of_decide_eq_true (by first | (with_reducible assumption) | assumption)
                                      have q124 : x3_2 < (((rd_T51 l0 0).f3).length : Int) := of_decide_eq_true (by first | (with_reducible assumption) | assumption)
                                      obtain ⟨ad124, A124_3, c124_3, e124, hx124_0, hx124_1, hx124_2, hx124_3, hl124_3, hi124_3⟩ := at_T133 HR123_3.out x3_2 p124 q124
                                      cases e124
                                      have HR124_3 := Aside0.mk hi124_3
                                      have HC124_3 := Aside0.mk hl124_3
                                      clear hi124_3 hl124_3
                                      replace p124 := eq_true p124
                                      replace q124 := eq_true q124
                                      have HRa125 := Aside0.mk (Kd.C_elem HR123_3.out (x3_2 : Int) (of_decide_eq_true (by first | (with_reducible assumption) | assumption)) (of_decide_eq_true (by first | (with_reducible assumption) | assumption)))
                                      go_wp2_with (first | (go_at_call 146; (with_reducible refine (spec_l7Message.calls k2 _ (((rd_T51 l0 0).f3).drop (x3_2 : Int).toNat).length (((rd_T51 l0 0).f3).drop (x3_2 : Int).toNat) t126 _ ?side1 ?side2 A15.out).mono ?_); (case side1 => repeat (first | exact HRa125.out | (with_reducible refine Kd.C_alloc ?_ _) | (with_reducible refine Kd.C_drewN ?_ _) | (with_reducible refine Kd.C_drew ?_))); (case side2 => exact Nat.le_refl _); rintro e w' ⟨rfl, ⟨nd, rfl⟩⟩; (try first | exact ⟨rfl, _, World.drewN_drewN _ _ _⟩ | exact ⟨rfl, _, Eq.trans (World.drewN_drewN _ _ _) (congrArg (World.drewN _) (Nat.add_assoc _ _ _))⟩); have p127 : 0 ≤ (0 : Int) := (by omega); have q127 : 0 < (l0.length : Int) := of_decide_eq_true (by first | (with_reducible assumption) | assumption); obtain ⟨ad127, A127_3, c127_3, e127, hx127_0, hx127_1, hx127_2, hx127_3, hl127_3, hi127_3⟩ := at_T51 HR0.out 0 p127 q127; obtain rfl : ad115 = ad127 := (by injection e127); have qi127 : (0 < l0.length) = True := eq_true (by omega); (try rw [show ((0 : Int)).toNat = 0 from rfl] at hx127_0); (try rw [show 0 * 4 = 0 from rfl] at hx127_0); (try rw [Addr.add_zero'] at hx127_0); (try rw [show ((0 : Int)).toNat = 0 from rfl] at hx127_1); (try rw [show 0 * 4 = 0 from rfl] at hx127_1); (try rw [Addr.add_zero'] at hx127_1); (try rw [show ((0 : Int)).toNat = 0 from rfl] at hx127_2); (try rw [show 0 * 4 = 0 from rfl] at hx127_2); (try rw [Addr.add_zero'] at hx127_2); (try rw [show ((0 : Int)).toNat = 0 from rfl] at hx127_3); (try rw [show 0 * 4 = 0 from rfl] at hx127_3); (try rw [Addr.add_zero'] at hx127_3); have HR127_3 := Aside0.mk hi127_3; have HC127_3 := Aside0.mk hl127_3; clear hi127_3 hl127_3; replace p127 := eq_true p127; replace q127 := eq_true q127; have ea_ := Option.some.inj (hx122_3.symm.trans hx127_3); injection ea_ with ea_ en_ ec_; subst ea_; subst ec_; clear en_; have p128 : 0 ≤ (x3_2 : Int) := of_decide_eq_true (by first | (with_reducible assumption) | assumption); have q128 : x3_2 < (((rd_T51 l0 0).f3).length : Int) := of_decide_eq_true (by first | (with_reducible assumption) | assumption); obtain ⟨ad128, A128_3, c128_3, e128, hx128_0, hx128_1, hx128_2, hx128_3, hl128_3, hi128_3⟩ := at_T133 HR127_3.out x3_2 p128 q128; cases e128; have HR128_3 := Aside0.mk hi128_3; have HC128_3 := Aside0.mk hl128_3; clear hi128_3 hl128_3; replace p128 := eq_true p128; replace q128 := eq_true q128; have p129 : 0 ≤ (0 : Int) := (by omega); have q129 : 0 < (l0.length : Int) := of_decide_eq_true (by first | (with_reducible assumption) | assumption); obtain ⟨ad129, A129_3, c129_3, e129, hx129_0, hx129_1, hx129_2, hx129_3, hl129_3, hi129_3⟩ := at_T51 HR0.out 0 p129 q129; obtain rfl : ad115 = ad129 := (by injection e129); have qi129 : (0 < l0.length) = True := eq_true (by omega); (try rw [show ((0 : Int)).toNat = 0 from rfl] at hx129_0); (try rw [show 0 * 4 = 0 from rfl] at hx129_0); (try rw [Addr.add_zero'] at hx129_0); (try rw [show ((0 : Int)).toNat = 0 from rfl] at hx129_1); (try rw [show 0 * 4 = 0 from rfl] at hx129_1); (try rw [Addr.add_zero'] at hx129_1); (try rw [show ((0 : Int)).toNat = 0 from rfl] at hx129_2); (try rw [show 0 * 4 = 0 from rfl] at hx129_2); (try rw [Addr.add_zero'] at hx129_2); (try rw [show ((0 : Int)).toNat = 0 from rfl] at hx129_3); (try rw [show 0 * 4 = 0 from rfl] at hx129_3); (try rw [Addr.add_zero'] at hx129_3); have HR129_3 := Aside0.mk hi129_3; have HC129_3 := Aside0.mk hl129_3; clear hi129_3 hl129_3; replace p129 := eq_true p129; replace q129 := eq_true q129; have ea_ := Option.some.inj (hx122_3.symm.trans hx129_3); injection ea_ with ea_ en_ ec_; subst ea_; subst ec_; clear en_; have p130 : 0 ≤ ((ji18) : Int) := of_decide_eq_true (by first | (with_reducible assumption) | assumption); have q130 : (ji18) < (((rd_T51 l0 0).f3).length : Int) := of_decide_eq_true (by first | (with_reducible assumption) | assumption); obtain ⟨ad130, A130_3, c130_3, e130, hx130_0, hx130_1, hx130_2, hx130_3, hl130_3, hi130_3⟩ := at_T133 HR129_3.out (ji18) p130 q130; cases e130; have HR130_3 := Aside0.mk hi130_3; have HC130_3 := Aside0.mk hl130_3; clear hi130_3 hl130_3; replace p130 := eq_true p130; replace q130 := eq_true q130; have p131 : 0 ≤ (0 : Int) := (by omega); have q131 : 0 < (l0.length : Int) := of_decide_eq_true (by first | (with_reducible assumption) | assumption); obtain ⟨ad131, A131_3, c131_3, e131, hx131_0, hx131_1, hx131_2, hx131_3, hl131_3, hi131_3⟩ := at_T51 HR0.out 0 p131 q131; obtain rfl : ad115 = ad131 := (by injection e131); have qi131 : (0 < l0.length) = True := eq_true (by omega); (try rw [show ((0 : Int)).toNat = 0 from rfl] at hx131_0); (try rw [show 0 * 4 = 0 from rfl] at hx131_0); (try rw [Addr.add_zero'] at hx131_0); (try rw [show ((0 : Int)).toNat = 0 from rfl] at hx131_1); (try rw [show 0 * 4 = 0 from rfl] at hx131_1); (try rw [Addr.add_zero'] at hx131_1); (try rw [show ((0 : Int)).toNat = 0 from rfl] at hx131_2); (try rw [show 0 * 4 = 0 from rfl] at hx131_2); (try rw [Addr.add_zero'] at hx131_2); (try rw [show ((0 : Int)).toNat = 0 from rfl] at hx131_3); (try rw [show 0 * 4 = 0 from rfl] at hx131_3); (try rw [Addr.add_zero'] at hx131_3); have HR131_3 := Aside0.mk hi131_3; have HC131_3 := Aside0.mk hl131_3; clear hi131_3 hl131_3; replace p131 := eq_true p131; replace q131 := eq_true q131; have ea_ := Option.some.inj (hx122_3.symm.trans hx131_3); injection ea_ with ea_ en_ ec_; subst ea_; subst ec_; clear en_; have p132 : 0 ≤ (x3_2 : Int) := of_decide_eq_true (by first | (with_reducible assumption) | assumption); have q132 : x3_2 < (((rd_T51 l0 0).f3).length : Int) := of_decide_eq_true (by first | (with_reducible assumption) | assumption); obtain ⟨ad132, A132_3, c132_3, e132, hx132_0, hx132_1, hx132_2, hx132_3, hl132_3, hi132_3⟩ := at_T133 HR131_3.out x3_2 p132 q132; cases e132; have HR132_3 := Aside0.mk hi132_3; have HC132_3 := Aside0.mk hl132_3; clear hi132_3 hl132_3; replace p132 := eq_true p132; replace q132 := eq_true q132; have p133 : 0 ≤ (0 : Int) := (by omega); have q133 : 0 < (l0.length : Int) := of_decide_eq_true (by first | (with_reducible assumption) | assumption); obtain ⟨ad133, A133_3, c133_3, e133, hx133_0, hx133_1, hx133_2, hx133_3, hl133_3, hi133_3⟩ := at_T51 HR0.out 0 p133 q133; obtain rfl : ad115 = ad133 := (by injection e133); have qi133 : (0 < l0.length) = True := eq_true (by omega); (try rw [show ((0 : Int)).toNat = 0 from rfl] at hx133_0); (try rw [show 0 * 4 = 0 from rfl] at hx133_0); (try rw [Addr.add_zero'] at hx133_0); (try rw [show ((0 : Int)).toNat = 0 from rfl] at hx133_1); (try rw [show 0 * 4 = 0 from rfl] at hx133_1); (try rw [Addr.add_zero'] at hx133_1); (try rw [show ((0 : Int)).toNat = 0 from rfl] at hx133_2); (try rw [show 0 * 4 = 0 from rfl] at hx133_2); (try rw [Addr.add_zero'] at hx133_2); (try rw [show ((0 : Int)).toNat = 0 from rfl] at hx133_3); (try rw [show 0 * 4 = 0 from rfl] at hx133_3); (try rw [Addr.add_zero'] at hx133_3); have HR133_3 := Aside0.mk hi133_3; have HC133_3 := Aside0.mk hl133_3; clear hi133_3 hl133_3; replace p133 := eq_true p133; replace q133 := eq_true q133; have ea_ := Option.some.inj (hx122_3.symm.trans hx133_3); injection ea_ with ea_ en_ ec_; subst ea_; subst ec_; clear en_))
                                      repeat (go_quiet (first | (go_at_call 146; (with_reducible refine (spec_l7Message.calls k2 _ (((rd_T51 l0 0).f3).drop (x3_2 : Int).toNat).length (((rd_T51 l0 0).f3).drop (x3_2 : Int).toNat) t126 _ ?side1 ?side2 A15.out).mono ?_); (case side1 => repeat (first | exact HRa125.out | (with_reducible refine Kd.C_alloc ?_ _) | (with_reducible refine Kd.C_drewN ?_ _) | (with_reducible refine Kd.C_drew ?_))); (case side2 => exact Nat.le_refl _); rintro e w' ⟨rfl, ⟨nd, rfl⟩⟩; (try first | exact ⟨rfl, _, World.drewN_drewN _ _ _⟩ | exact ⟨rfl, _, Eq.trans (World.drewN_drewN _ _ _) (congrArg (World.drewN _) (Nat.add_assoc _ _ _))⟩); have p127 : 0 ≤ (0 : Int) := (by omega); have q127 : 0 < (l0.length : Int) := of_decide_eq_true (by first | (with_reducible assumption) | assumption); obtain ⟨ad127, A127_3, c127_3, e127, hx127_0, hx127_1, hx127_2, hx127_3, hl127_3, hi127_3⟩ := at_T51 HR0.out 0 p127 q127; obtain rfl : ad115 = ad127 := (by injection e127); have qi127 : (0 < l0.length) = True := eq_true (by omega); (try rw [show ((0 : Int)).toNat = 0 from rfl] at hx127_0); (try rw [show 0 * 4 = 0 from rfl] at hx127_0); (try rw [Addr.add_zero'] at hx127_0); (try rw [show ((0 : Int)).toNat = 0 from rfl] at hx127_1); (try rw [show 0 * 4 = 0 from rfl] at hx127_1); (try rw [Addr.add_zero'] at hx127_1); (try rw [show ((0 : Int)).toNat = 0 from rfl] at hx127_2); (try rw [show 0 * 4 = 0 from rfl] at hx127_2); (try rw [Addr.add_zero'] at hx127_2); (try rw [show ((0 : Int)).toNat = 0 from rfl] at hx127_3); (try rw [show 0 * 4 = 0 from rfl] at hx127_3); (try rw [Addr.add_zero'] at hx127_3); have HR127_3 := Aside0.mk hi127_3; have HC127_3 := Aside0.mk hl127_3; clear hi127_3 hl127_3; replace p127 := eq_true p127; replace q127 := eq_true q127; have ea_ := Option.some.inj (hx122_3.symm.trans hx127_3); injection ea_ with ea_ en_ ec_; subst ea_; subst ec_; clear en_; have p128 : 0 ≤ (x3_2 : Int) := of_decide_eq_true (by first | (with_reducible assumption) | assumption); have q128 : x3_2 < (((rd_T51 l0 0).f3).length : Int) := of_decide_eq_true (by first | (with_reducible assumption) | assumption); obtain ⟨ad128, A128_3, c128_3, e128, hx128_0, hx128_1, hx128_2, hx128_3, hl128_3, hi128_3⟩ := at_T133 HR127_3.out x3_2 p128 q128; cases e128; have HR128_3 := Aside0.mk hi128_3; have HC128_3 := Aside0.mk hl128_3; clear hi128_3 hl128_3; replace p128 := eq_true p128; replace q128 := eq_true q128; have p129 : 0 ≤ (0 : Int) := (by omega); have q129 : 0 < (l0.length : Int) := of_decide_eq_true (by first | (with_reducible assumption) | assumption); obtain ⟨ad129, A129_3, c129_3, e129, hx129_0, hx129_1, hx129_2, hx129_3, hl129_3, hi129_3⟩ := at_T51 HR0.out 0 p129 q129; obtain rfl : ad115 = ad129 := (by injection e129); have qi129 : (0 < l0.length) = True := eq_true (by omega); (try rw [show ((0 : Int)).toNat = 0 from rfl] at hx129_0); (try rw [show 0 * 4 = 0 from rfl] at hx129_0); (try rw [Addr.add_zero'] at hx129_0); (try rw [show ((0 : Int)).toNat = 0 from rfl] at hx129_1); (try rw [show 0 * 4 = 0 from rfl] at hx129_1); (try rw [Addr.add_zero'] at hx129_1); (try rw [show ((0 : Int)).toNat = 0 from rfl] at hx129_2); (try rw [show 0 * 4 = 0 from rfl] at hx129_2); (try rw [Addr.add_zero'] at hx129_2); (try rw [show ((0 : Int)).toNat = 0 from rfl] at hx129_3); (try rw [show 0 * 4 = 0 from rfl] at hx129_3); (try rw [Addr.add_zero'] at hx129_3); have HR129_3 := Aside0.mk hi129_3; have HC129_3 := Aside0.mk hl129_3; clear hi129_3 hl129_3; replace p129 := eq_true p129; replace q129 := eq_true q129; have ea_ := Option.some.inj (hx122_3.symm.trans hx129_3); injection ea_ with ea_ en_ ec_; subst ea_; subst ec_; clear en_; have p130 : 0 ≤ ((ji18) : Int) := of_decide_eq_true (by first | (with_reducible assumption) | assumption); have q130 : (ji18) < (((rd_T51 l0 0).f3).length : Int) := of_decide_eq_true (by first | (with_reducible assumption) | assumption); obtain ⟨ad130, A130_3, c130_3, e130, hx130_0, hx130_1, hx130_2, hx130_3, hl130_3, hi130_3⟩ := at_T133 HR129_3.out (ji18) p130 q130; cases e130; have HR130_3 := Aside0.mk hi130_3; have HC130_3 := Aside0.mk hl130_3; clear hi130_3 hl130_3; replace p130 := eq_true p130; replace q130 := eq_true q130; have p131 : 0 ≤ (0 : Int) := (by omega); have q131 : 0 < (l0.length : Int) := of_decide_eq_true (by first | (with_reducible assumption) | assumption); obtain ⟨ad131, A131_3, c131_3, e131, hx131_0, hx131_1, hx131_2, hx131_3, hl131_3, hi131_3⟩ := at_T51 HR0.out 0 p131 q131; obtain rfl : ad115 = ad131 := (by injection e131); have qi131 : (0 < l0.length) = True := eq_true (by omega); (try rw [show ((0 : Int)).toNat = 0 from rfl] at hx131_0); (try rw [show 0 * 4 = 0 from rfl] at hx131_0); (try rw [Addr.add_zero'] at hx131_0); (try rw [show ((0 : Int)).toNat = 0 from rfl] at hx131_1); (try rw [show 0 * 4 = 0 from rfl] at hx131_1); (try rw [Addr.add_zero'] at hx131_1); (try rw [show ((0 : Int)).toNat = 0 from rfl] at hx131_2); (try rw [show 0 * 4 = 0 from rfl] at hx131_2); (try rw [Addr.add_zero'] at hx131_2); (try rw [show ((0 : Int)).toNat = 0 from rfl] at hx131_3); (try rw [show 0 * 4 = 0 from rfl] at hx131_3); (try rw [Addr.add_zero'] at hx131_3); have HR131_3 := Aside0.mk hi131_3; have HC131_3 := Aside0.mk hl131_3; clear hi131_3 hl131_3; replace p131 := eq_true p131; replace q131 := eq_true q131; have ea_ := Option.some.inj (hx122_3.symm.trans hx131_3); injection ea_ with ea_ en_ ec_; subst ea_; subst ec_; clear en_; have p132 : 0 ≤ (x3_2 : Int) := of_decide_eq_true (by first | (with_reducible assumption) | assumption); have q132 : x3_2 < (((rd_T51 l0 0).f3).length : Int) := of_decide_eq_true (by first | (with_reducible assumption) | assumption); obtain ⟨ad132, A132_3, c132_3, e132, hx132_0, hx132_1, hx132_2, hx132_3, hl132_3, hi132_3⟩ := at_T133 HR131_3.out x3_2 p132 q132; cases e132; have HR132_3 := Aside0.mk hi132_3; have HC132_3 := Aside0.mk hl132_3; clear hi132_3 hl132_3; replace p132 := eq_true p132; replace q132 := eq_true q132; have p133 : 0 ≤ (0 : Int) := (by omega); have q133 : 0 < (l0.length : Int) := of_decide_eq_true (by first | (with_reducible assumption) | assumption); obtain ⟨ad133, A133_3, c133_3, e133, hx133_0, hx133_1, hx133_2, hx133_3, hl133_3, hi133_3⟩ := at_T51 HR0.out 0 p133 q133; obtain rfl : ad115 = ad133 := (by injection e133); have qi133 : (0 < l0.length) = True := eq_true (by omega); (try rw [show ((0 : Int)).toNat = 0 from rfl] at hx133_0); (try rw [show 0 * 4 = 0 from rfl] at hx133_0); (try rw [Addr.add_zero'] at hx133_0); (try rw [show ((0 : Int)).toNat = 0 from rfl] at hx133_1); (try rw [show 0 * 4 = 0 from rfl] at hx133_1); (try rw [Addr.add_zero'] at hx133_1); (try rw [show ((0 : Int)).toNat = 0 from rfl] at hx133_2); (try rw [show 0 * 4 = 0 from rfl] at hx133_2); (try rw [Addr.add_zero'] at hx133_2); (try rw [show ((0 : Int)).toNat = 0 from rfl] at hx133_3); (try rw [show 0 * 4 = 0 from rfl] at hx133_3); (try rw [Addr.add_zero'] at hx133_3); have HR133_3 := Aside0.mk hi133_3; have HC133_3 := Aside0.mk hl133_3; clear hi133_3 hl133_3; replace p133 := eq_true p133; replace q133 := eq_true q133; have ea_ := Option.some.inj (hx122_3.symm.trans hx133_3); injection ea_ with ea_ en_ ec_; subst ea_; subst ec_; clear en_)); try go_wp2_with (first | (go_at_call 146; (with_reducible refine (spec_l7Message.calls k2 _ (((rd_T51 l0 0).f3).drop (x3_2 : Int).toNat).length (((rd_T51 l0 0).f3).drop (x3_2 : Int).toNat) t126 _ ?side1 ?side2 A15.out).mono ?_); (case side1 => repeat (first | exact HRa125.out | (with_reducible refine Kd.C_alloc ?_ _) | (with_reducible refine Kd.C_drewN ?_ _) | (with_reducible refine Kd.C_drew ?_))); (case side2 => exact Nat.le_refl _); rintro e w' ⟨rfl, ⟨nd, rfl⟩⟩; (try first | exact ⟨rfl, _, World.drewN_drewN _ _ _⟩ | exact ⟨rfl, _, Eq.trans (World.drewN_drewN _ _ _) (congrArg (World.drewN _) (Nat.add_assoc _ _ _))⟩); have p127 : 0 ≤ (0 : Int) := (by omega); have q127 : 0 < (l0.length : Int) := of_decide_eq_true (by first | (with_reducible assumption) | assumption); obtain ⟨ad127, A127_3, c127_3, e127, hx127_0, hx127_1, hx127_2, hx127_3, hl127_3, hi127_3⟩ := at_T51 HR0.out 0 p127 q127; obtain rfl : ad115 = ad127 := (by injection e127); have qi127 : (0 < l0.length) = True := eq_true (by omega); (try rw [show ((0 : Int)).toNat = 0 from rfl] at hx127_0); (try rw [show 0 * 4 = 0 from rfl] at hx127_0); (try rw [Addr.add_zero'] at hx127_0); (try rw [show ((0 : Int)).toNat = 0 from rfl] at hx127_1); (try rw [show 0 * 4 = 0 from rfl] at hx127_1); (try rw [Addr.add_zero'] at hx127_1); (try rw [show ((0 : Int)).toNat = 0 from rfl] at hx127_2); (try rw [show 0 * 4 = 0 from rfl] at hx127_2); (try rw [Addr.add_zero'] at hx127_2); (try rw [show ((0 : Int)).toNat = 0 from rfl] at hx127_3); (try rw [show 0 * 4 = 0 from rfl] at hx127_3); (try rw [Addr.add_zero'] at hx127_3); have HR127_3 := Aside0.mk hi127_3; have HC127_3 := Aside0.mk hl127_3; clear hi127_3 hl127_3; replace p127 := eq_true p127; replace q127 := eq_true q127; have ea_ := Option.some.inj (hx122_3.symm.trans hx127_3); injection ea_ with ea_ en_ ec_; subst ea_; subst ec_; clear en_; have p128 : 0 ≤ (x3_2 : Int) := of_decide_eq_true (by first | (with_reducible assumption) | assumption); have q128 : x3_2 < (((rd_T51 l0 0).f3).length : Int) := of_decide_eq_true (by first | (with_reducible assumption) | assumption); obtain ⟨ad128, A128_3, c128_3, e128, hx128_0, hx128_1, hx128_2, hx128_3, hl128_3, hi128_3⟩ := at_T133 HR127_3.out x3_2 p128 q128; cases e128; have HR128_3 := Aside0.mk hi128_3; have HC128_3 := Aside0.mk hl128_3; clear hi128_3 hl128_3; replace p128 := eq_true p128; replace q128 := eq_true q128; have p129 : 0 ≤ (0 : Int) := (by omega); have q129 : 0 < (l0.length : Int) := of_decide_eq_true (by first | (with_reducible assumption) | assumption); obtain ⟨ad129, A129_3, c129_3, e129, hx129_0, hx129_1, hx129_2, hx129_3, hl129_3, hi129_3⟩ := at_T51 HR0.out 0 p129 q129; obtain rfl : ad115 = ad129 := (by injection e129); have qi129 : (0 < l0.length) = True := eq_true (by omega); (try rw [show ((0 : Int)).toNat = 0 from rfl] at hx129_0); (try rw [show 0 * 4 = 0 from rfl] at hx129_0); (try rw [Addr.add_zero'] at hx129_0); (try rw [show ((0 : Int)).toNat = 0 from rfl] at hx129_1); (try rw [show 0 * 4 = 0 from rfl] at hx129_1); (try rw [Addr.add_zero'] at hx129_1); (try rw [show ((0 : Int)).toNat = 0 from rfl] at hx129_2); (try rw [show 0 * 4 = 0 from rfl] at hx129_2); (try rw [Addr.add_zero'] at hx129_2); (try rw [show ((0 : Int)).toNat = 0 from rfl] at hx129_3); (try rw [show 0 * 4 = 0 from rfl] at hx129_3); (try rw [Addr.add_zero'] at hx129_3); have HR129_3 := Aside0.mk hi129_3; have HC129_3 := Aside0.mk hl129_3; clear hi129_3 hl129_3; replace p129 := eq_true p129; replace q129 := eq_true q129; have ea_ := Option.some.inj (hx122_3.symm.trans hx129_3); injection ea_ with ea_ en_ ec_; subst ea_; subst ec_; clear en_; have p130 : 0 ≤ ((ji18) : Int) := of_decide_eq_true (by first | (with_reducible assumption) | assumption); have q130 : (ji18) < (((rd_T51 l0 0).f3).length : Int) := of_decide_eq_true (by first | (with_reducible assumption) | assumption); obtain ⟨ad130, A130_3, c130_3, e130, hx130_0, hx130_1, hx130_2, hx130_3, hl130_3, hi130_3⟩ := at_T133 HR129_3.out (ji18) p130 q130; cases e130; have HR130_3 := Aside0.mk hi130_3; have HC130_3 := Aside0.mk hl130_3; clear hi130_3 hl130_3; replace p130 := eq_true p130; replace q130 := eq_true q130; have p131 : 0 ≤ (0 : Int) := (by omega); have q131 : 0 < (l0.length : Int) := of_decide_eq_true (by first | (with_reducible assumption) | assumption); obtain ⟨ad131, A131_3, c131_3, e131, hx131_0, hx131_1, hx131_2, hx131_3, hl131_3, hi131_3⟩ := at_T51 HR0.out 0 p131 q131; obtain rfl : ad115 = ad131 := (by injection e131); have qi131 : (0 < l0.length) = True := eq_true (by omega); (try rw [show ((0 : Int)).toNat = 0 from rfl] at hx131_0); (try rw [show 0 * 4 = 0 from rfl] at hx131_0); (try rw [Addr.add_zero'] at hx131_0); (try rw [show ((0 : Int)).toNat = 0 from rfl] at hx131_1); (try rw [show 0 * 4 = 0 from rfl] at hx131_1); (try rw [Addr.add_zero'] at hx131_1); (try rw [show ((0 : Int)).toNat = 0 from rfl] at hx131_2); (try rw [show 0 * 4 = 0 from rfl] at hx131_2); (try rw [Addr.add_zero'] at hx131_2); (try rw [show ((0 : Int)).toNat = 0 from rfl] at hx131_3); (try rw [show 0 * 4 = 0 from rfl] at hx131_3); (try rw [Addr.add_zero'] at hx131_3); have HR131_3 := Aside0.mk hi131_3; have HC131_3 := Aside0.mk hl131_3; clear hi131_3 hl131_3; replace p131 := eq_true p131; replace q131 := eq_true q131; have ea_ := Option.some.inj (hx122_3.symm.trans hx131_3); injection ea_ with ea_ en_ ec_; subst ea_; subst ec_; clear en_; have p132 : 0 ≤ (x3_2 : Int) := of_decide_eq_true (by first | (with_reducible assumption) | assumption); have q132 : x3_2 < (((rd_T51 l0 0).f3).length : Int) := of_decide_eq_true (by first | (with_reducible assumption) | assumption); obtain ⟨ad132, A132_3, c132_3, e132, hx132_0, hx132_1, hx132_2, hx132_3, hl132_3, hi132_3⟩ := at_T133 HR131_3.out x3_2 p132 q132; cases e132; have HR132_3 := Aside0.mk hi132_3; have HC132_3 := Aside0.mk hl132_3; clear hi132_3 hl132_3; replace p132 := eq_true p132; replace q132 := eq_true q132; have p133 : 0 ≤ (0 : Int) := (by omega); have q133 : 0 < (l0.length : Int) := of_decide_eq_true (by first | (with_reducible assumption) | assumption); obtain ⟨ad133, A133_3, c133_3, e133, hx133_0, hx133_1, hx133_2, hx133_3, hl133_3, hi133_3⟩ := at_T51 HR0.out 0 p133 q133; obtain rfl : ad115 = ad133 := (by injection e133); have qi133 : (0 < l0.length) = True := eq_true (by omega); (try rw [show ((0 : Int)).toNat = 0 from rfl] at hx133_0); (try rw [show 0 * 4 = 0 from rfl] at hx133_0); (try rw [Addr.add_zero'] at hx133_0); (try rw [show ((0 : Int)).toNat = 0 from rfl] at hx133_1); (try rw [show 0 * 4 = 0 from rfl] at hx133_1); (try rw [Addr.add_zero'] at hx133_1); (try rw [show ((0 : Int)).toNat = 0 from rfl] at hx133_2); (try rw [show 0 * 4 = 0 from rfl] at hx133_2); (try rw [Addr.add_zero'] at hx133_2); (try rw [show ((0 : Int)).toNat = 0 from rfl] at hx133_3); (try rw [show 0 * 4 = 0 from rfl] at hx133_3); (try rw [Addr.add_zero'] at hx133_3); have HR133_3 := Aside0.mk hi133_3; have HC133_3 := Aside0.mk hl133_3; clear hi133_3 hl133_3; replace p133 := eq_true p133; replace q133 := eq_true q133; have ea_ := Option.some.inj (hx122_3.symm.trans hx133_3); injection ea_ with ea_ en_ ec_; subst ea_; subst ec_; clear en_)))
                                      go_roundg k2
                                      case measure => have := HJ4.out; have := HK2.out; omega
                                      case rel => exact ⟨(wrap64 (x3_2 + 1)), (by first | rfl | (simp; done) | (simp [*]; done)), H', ⟨by have := HJ4.out; have := HK2.out; omega⟩, by repeat (first | exact Drawn0.refl _ | apply Drawn0.step)⟩
                                · rw [if_neg c20] at H
                                  exact absurd H (by simp)
                              · rw [if_neg c19] at H
                                exact absurd H (by simp)
                            · rw [if_neg c17] at H
                              have c17b0 : decide (0 < x3_2) = false := decide_eq_false c17
                              clear c17
                              by_cases c23 : ((rd_T133 ((rd_T51 l0 0).f3) x3_2).f0) ≥ ((rd_T51 l0 0).f2)
                              · rw [if_pos c23] at H
                                have c23b0 : decide (((rd_T51 l0 0).f2) ≤ ((rd_T133 ((rd_T51 l0 0).f3) x3_2).f0)) = true := decide_eq_true c23
                                clear c23
                                obtain rfl := Option.some.inj H
                                have p122 : 0 ≤ (0 : Int) := (by omega)
                                have q122 : 0 < (l0.length : Int) := of_decide_eq_true (by first | (with_reducible assumption) | assumption)
                                obtain ⟨ad122, A122_3, c122_3, e122, hx122_0, hx122_1, hx122_2, hx122_3, hl122_3, hi122_3⟩ := at_T51 HR0.out 0 p122 q122
                                obtain rfl : ad115 = ad122 := (by injection e122)
                                have qi122 : (0 < l0.length) = True := eq_true (by omega)
                                (try rw [show ((0 : Int)).toNat = 0 from rfl] at hx122_0)
                                (try rw [show 0 * 4 = 0 from rfl] at hx122_0)
                                (try rw [Addr.add_zero'] at hx122_0)
                                (try rw [show ((0 : Int)).toNat = 0 from rfl] at hx122_1)
                                (try rw [show 0 * 4 = 0 from rfl] at hx122_1)
                                (try rw [Addr.add_zero'] at hx122_1)
                                (try rw [show ((0 : Int)).toNat = 0 from rfl] at hx122_2)
                                (try rw [show 0 * 4 = 0 from rfl] at hx122_2)
                                (try rw [Addr.add_zero'] at hx122_2)
                                (try rw [show ((0 : Int)).toNat = 0 from rfl] at hx122_3)
                                (try rw [show 0 * 4 = 0 from rfl] at hx122_3)
                                (try rw [Addr.add_zero'] at hx122_3)
                                have HR122_3 := Aside0.mk hi122_3
                                have HC122_3 := Aside0.mk hl122_3
                                clear hi122_3 hl122_3
                                replace p122 := eq_true p122
                                replace q122 := eq_true q122
                                have p123 : 0 ≤ (0 : Int) := (by omega)
                                have q123 : 0 < (l0.length : Int) := of_decide_eq_true (by first | (with_reducible assumption) | assumption)
                                obtain ⟨ad123, A123_3, c123_3, e123, hx123_0, hx123_1, hx123_2, hx123_3, hl123_3, hi123_3⟩ := at_T51 HR0.out 0 p123 q123
                                obtain rfl : ad115 = ad123 := (by injection e123)
                                have qi123 : (0 < l0.length) = True := eq_true (by omega)
                                (try rw [show ((0 : Int)).toNat = 0 from rfl] at hx123_0)
                                (try rw [show 0 * 4 = 0 from rfl] at hx123_0)
                                (try rw [Addr.add_zero'] at hx123_0)
                                (try rw [show ((0 : Int)).toNat = 0 from rfl] at hx123_1)
                                (try rw [show 0 * 4 = 0 from rfl] at hx123_1)
                                (try rw [Addr.add_zero'] at hx123_1)
                                (try rw [show ((0 : Int)).toNat = 0 from rfl] at hx123_2)
                                (try rw [show 0 * 4 = 0 from rfl] at hx123_2)
                                (try rw [Addr.add_zero'] at hx123_2)
                                (try rw [show ((0 : Int)).toNat = 0 from rfl] at hx123_3)
                                (try rw [show 0 * 4 = 0 from rfl] at hx123_3)
                                (try rw [Addr.add_zero'] at hx123_3)
                                have HR123_3 := Aside0.mk hi123_3
                                have HC123_3 := Aside0.mk hl123_3
                                clear hi123_3 hl123_3
                                replace p123 := eq_true p123
                                replace q123 := eq_true q123
                                have ea_ := Option.some.inj (hx122_3.symm.trans hx123_3)
                                injection ea_ with ea_ en_ ec_
                                subst ea_
                                subst ec_
                                clear en_
                                have p124 : 0 ≤ (x3_2 : Int) := of_decide_eq_true (by first | (with_reducible assumption) | assumption)
                                have q124 : x3_2 < (((rd_T51 l0 0).f3).length : Int) := of_decide_eq_true (by first | (with_reducible assumption) | assumption)
                                obtain ⟨ad124, A124_3, c124_3, e124, hx124_0, hx124_1, hx124_2, hx124_3, hl124_3, hi124_3⟩ := at_T133 HR123_3.out x3_2 p124 q124
                                cases e124
                                have HR124_3 := Aside0.mk hi124_3
                                have HC124_3 := Aside0.mk hl124_3
                                clear hi124_3 hl124_3
                                replace p124 := eq_true p124
                                replace q124 := eq_true q124
                                have HRa125 := Aside0.mk (Kd.C_elem HR123_3.out (x3_2 : Int) (of_decide_eq_true (by first | (with_reducible assumption) | assumption)) (of_decide_eq_true (by first | (with_reducible assumption) | assumption)))
                                go_wp2_with (first | (go_at_call 146; (with_reducible refine (spec_l7Message.calls k2 _ (((rd_T51 l0 0).f3).drop (x3_2 : Int).toNat).length (((rd_T51 l0 0).f3).drop (x3_2 : Int).toNat) t126 _ ?side1 ?side2 A15.out).mono ?_); (case side1 => repeat (first | exact HRa125.out | (with_reducible refine Kd.C_alloc ?_ _) | (with_reducible refine Kd.C_drewN ?_ _) | (with_reducible refine Kd.C_drew ?_))); (case side2 => exact Nat.le_refl _); rintro e w' ⟨rfl, ⟨nd, rfl⟩⟩; (try first | exact ⟨rfl, _, World.drewN_drewN _ _ _⟩ | exact ⟨rfl, _, Eq.trans (World.drewN_drewN _ _ _) (congrArg (World.drewN _) (Nat.add_assoc _ _ _))⟩); have p134 : 0 ≤ (0 : Int) := (by omega); have q134 : 0 < (l0.length : Int) := of_decide_eq_true (by first | (with_reducible assumption) | assumption); obtain ⟨ad134, A134_3, c134_3, e134, hx134_0, hx134_1, hx134_2, hx134_3, hl134_3, hi134_3⟩ := at_T51 HR0.out 0 p134 q134; obtain rfl : ad115 = ad134 := (by injection e134); have qi134 : (0 < l0.length) = True := eq_true (by omega); (try rw [show ((0 : Int)).toNat = 0 from rfl] at hx134_0); (try rw [show 0 * 4 = 0 from rfl] at hx134_0); (try rw [Addr.add_zero'] at hx134_0); (try rw [show ((0 : Int)).toNat = 0 from rfl] at hx134_1); (try rw [show 0 * 4 = 0 from rfl] at hx134_1); (try rw [Addr.add_zero'] at hx134_1); (try rw [show ((0 : Int)).toNat = 0 from rfl] at hx134_2); (try rw [show 0 * 4 = 0 from rfl] at hx134_2); (try rw [Addr.add_zero'] at hx134_2); (try rw [show ((0 : Int)).toNat = 0 from rfl] at hx134_3); (try rw [show 0 * 4 = 0 from rfl] at hx134_3); (try rw [Addr.add_zero'] at hx134_3); have HR134_3 := Aside0.mk hi134_3; have HC134_3 := Aside0.mk hl134_3; clear hi134_3 hl134_3; replace p134 := eq_true p134; replace q134 := eq_true q134; have ea_ := Option.some.inj (hx122_3.symm.trans hx134_3); injection ea_ with ea_ en_ ec_; subst ea_; subst ec_; clear en_; have p135 : 0 ≤ (x3_2 : Int) := of_decide_eq_true (by first | (with_reducible assumption) | assumption); have q135 : x3_2 < (((rd_T51 l0 0).f3).length : Int) := of_decide_eq_true (by first | (with_reducible assumption) | assumption); obtain ⟨ad135, A135_3, c135_3, e135, hx135_0, hx135_1, hx135_2, hx135_3, hl135_3, hi135_3⟩ := at_T133 HR134_3.out x3_2 p135 q135; cases e135; have HR135_3 := Aside0.mk hi135_3; have HC135_3 := Aside0.mk hl135_3; clear hi135_3 hl135_3; replace p135 := eq_true p135; replace q135 := eq_true q135; have p136 : 0 ≤ (0 : Int) := (by omega); have q136 : 0 < (l0.length : Int) := of_decide_eq_true (by first | (with_reducible assumption) | assumption); obtain ⟨ad136, A136_3, c136_3, e136, hx136_0, hx136_1, hx136_2, hx136_3, hl136_3, hi136_3⟩ := at_T51 HR0.out 0 p136 q136; obtain rfl : ad115 = ad136 := (by injection e136); have qi136 : (0 < l0.length) = True := eq_true (by omega); (try rw [show ((0 : Int)).toNat = 0 from rfl] at hx136_0); (try rw [show 0 * 4 = 0 from rfl] at hx136_0); (try rw [Addr.add_zero'] at hx136_0); (try rw [show ((0 : Int)).toNat = 0 from rfl] at hx136_1); (try rw [show 0 * 4 = 0 from rfl] at hx136_1); (try rw [Addr.add_zero'] at hx136_1); (try rw [show ((0 : Int)).toNat = 0 from rfl] at hx136_2); (try rw [show 0 * 4 = 0 from rfl] at hx136_2); (try rw [Addr.add_zero'] at hx136_2); (try rw [show ((0 : Int)).toNat = 0 from rfl] at hx136_3); (try rw [show 0 * 4 = 0 from rfl] at hx136_3); (try rw [Addr.add_zero'] at hx136_3); have HR136_3 := Aside0.mk hi136_3; have HC136_3 := Aside0.mk hl136_3; clear hi136_3 hl136_3; replace p136 := eq_true p136; replace q136 := eq_true q136; have ea_ := Option.some.inj (hx122_3.symm.trans hx136_3); injection ea_ with ea_ en_ ec_; subst ea_; subst ec_; clear en_))
                                repeat (go_quiet (first | (go_at_call 146; (with_reducible refine (spec_l7Message.calls k2 _ (((rd_T51 l0 0).f3).drop (x3_2 : Int).toNat).length (((rd_T51 l0 0).f3).drop (x3_2 : Int).toNat) t126 _ ?side1 ?side2 A15.out).mono ?_); (case side1 => repeat (first | exact HRa125.out | (with_reducible refine Kd.C_alloc ?_ _) | (with_reducible refine Kd.C_drewN ?_ _) | (with_reducible refine Kd.C_drew ?_))); (case side2 => exact Nat.le_refl _); rintro e w' ⟨rfl, ⟨nd, rfl⟩⟩; (try first | exact ⟨rfl, _, World.drewN_drewN _ _ _⟩ | exact ⟨rfl, _, Eq.trans (World.drewN_drewN _ _ _) (congrArg (World.drewN _) (Nat.add_assoc _ _ _))⟩); have p134 : 0 ≤ (0 : Int) := (by omega); have q134 : 0 < (l0.length : Int) := of_decide_eq_true (by first | (with_reducible assumption) | assumption); obtain ⟨ad134, A134_3, c134_3, e134, hx134_0, hx134_1, hx134_2, hx134_3, hl134_3, hi134_3⟩ := at_T51 HR0.out 0 p134 q134; obtain rfl : ad115 = ad134 := (by injection e134); have qi134 : (0 < l0.length) = True := eq_true (by omega); (try rw [show ((0 : Int)).toNat = 0 from rfl] at hx134_0); (try rw [show 0 * 4 = 0 from rfl] at hx134_0); (try rw [Addr.add_zero'] at hx134_0); (try rw [show ((0 : Int)).toNat = 0 from rfl] at hx134_1); (try rw [show 0 * 4 = 0 from rfl] at hx134_1); (try rw [Addr.add_zero'] at hx134_1); (try rw [show ((0 : Int)).toNat = 0 from rfl] at hx134_2); (try rw [show 0 * 4 = 0 from rfl] at hx134_2); (try rw [Addr.add_zero'] at hx134_2); (try rw [show ((0 : Int)).toNat = 0 from rfl] at hx134_3); (try rw [show 0 * 4 = 0 from rfl] at hx134_3); (try rw [Addr.add_zero'] at hx134_3); have HR134_3 := Aside0.mk hi134_3; have HC134_3 := Aside0.mk hl134_3; clear hi134_3 hl134_3; replace p134 := eq_true p134; replace q134 := eq_true q134; have ea_ := Option.some.inj (hx122_3.symm.trans hx134_3); injection ea_ with ea_ en_ ec_; subst ea_; subst ec_; clear en_; have p135 : 0 ≤ (x3_2 : Int) := of_decide_eq_true (by first | (with_reducible assumption) | assumption); have q135 : x3_2 < (((rd_T51 l0 0).f3).length : Int) := of_decide_eq_true (by first | (with_reducible assumption) | assumption); obtain ⟨ad135, A135_3, c135_3, e135, hx135_0, hx135_1, hx135_2, hx135_3, hl135_3, hi135_3⟩ := at_T133 HR134_3.out x3_2 p135 q135; cases e135; have HR135_3 := Aside0.mk hi135_3; have HC135_3 := Aside0.mk hl135_3; clear hi135_3 hl135_3; replace p135 := eq_true p135; replace q135 := eq_true q135; have p136 : 0 ≤ (0 : Int) := (by omega); have q136 : 0 < (l0.length : Int) := of_decide_eq_true (by first | (with_reducible assumption) | assumption); obtain ⟨ad136, A136_3, c136_3, e136, hx136_0, hx136_1, hx136_2, hx136_3, hl136_3, hi136_3⟩ := at_T51 HR0.out 0 p136 q136; obtain rfl : ad115 = ad136 := (by injection e136); have qi136 : (0 < l0.length) = True := eq_true (by omega); (try rw [show ((0 : Int)).toNat = 0 from rfl] at hx136_0); (try rw [show 0 * 4 = 0 from rfl] at hx136_0); (try rw [Addr.add_zero'] at hx136_0); (try rw [show ((0 : Int)).toNat = 0 from rfl] at hx136_1); (try rw [show 0 * 4 = 0 from rfl] at hx136_1); (try rw [Addr.add_zero'] at hx136_1); (try rw [show ((0 : Int)).toNat = 0 from rfl] at hx136_2); (try rw [show 0 * 4 = 0 from rfl] at hx136_2); (try rw [Addr.add_zero'] at hx136_2); (try rw [show ((0 : Int)).toNat = 0 from rfl] at hx136_3); (try rw [show 0 * 4 = 0 from rfl] at hx136_3); (try rw [Addr.add_zero'] at hx136_3); have HR136_3 := Aside0.mk hi136_3; have HC136_3 := Aside0.mk hl136_3; clear hi136_3 hl136_3; replace p136 := eq_true p136; replace q136 := eq_true q136; have ea_ := Option.some.inj (hx122_3.symm.trans hx136_3); injection ea_ with ea_ en_ ec_; subst ea_; subst ec_; clear en_)); try go_wp2_with (first | (go_at_call 146; (with_reducible refine (spec_l7Message.calls k2 _ (((rd_T51 l0 0).f3).drop (x3_2 : Int).toNat).length (((rd_T51 l0 0).f3).drop (x3_2 : Int).toNat) t126 _ ?side1 ?side2 A15.out).mono ?_); (case side1 => repeat (first | exact HRa125.out | (with_reducible refine Kd.C_alloc ?_ _) | (with_reducible refine Kd.C_drewN ?_ _) | (with_reducible refine Kd.C_drew ?_))); (case side2 => exact Nat.le_refl _); rintro e w' ⟨rfl, ⟨nd, rfl⟩⟩; (try first | exact ⟨rfl, _, World.drewN_drewN _ _ _⟩ | exact ⟨rfl, _, Eq.trans (World.drewN_drewN _ _ _) (congrArg (World.drewN _) (Nat.add_assoc _ _ _))⟩); have p134 : 0 ≤ (0 : Int) := (by omega); have q134 : 0 < (l0.length : Int) := of_decide_eq_true (by first | (with_reducible assumption) | assumption); obtain ⟨ad134, A134_3, c134_3, e134, hx134_0, hx134_1, hx134_2, hx134_3, hl134_3, hi134_3⟩ := at_T51 HR0.out 0 p134 q134; obtain rfl : ad115 = ad134 := (by injection e134); have qi134 : (0 < l0.length) = True := eq_true (by omega); (try rw [show ((0 : Int)).toNat = 0 from rfl] at hx134_0); (try rw [show 0 * 4 = 0 from rfl] at hx134_0); (try rw [Addr.add_zero'] at hx134_0); (try rw [show ((0 : Int)).toNat = 0 from rfl] at hx134_1); (try rw [show 0 * 4 = 0 from rfl] at hx134_1); (try rw [Addr.add_zero'] at hx134_1); (try rw [show ((0 : Int)).toNat = 0 from rfl] at hx134_2); (try rw [show 0 * 4 = 0 from rfl] at hx134_2); (try rw [Addr.add_zero'] at hx134_2); (try rw [show ((0 : Int)).toNat = 0 from rfl] at hx134_3); (try rw [show 0 * 4 = 0 from rfl] at hx134_3); (try rw [Addr.add_zero'] at hx134_3); have HR134_3 := Aside0.mk hi134_3; have HC134_3 := Aside0.mk hl134_3; clear hi134_3 hl134_3; replace p134 := eq_true p134; replace q134 := eq_true q134; have ea_ := Option.some.inj (hx122_3.symm.trans hx134_3); injection ea_ with ea_ en_ ec_; subst ea_; subst ec_; clear en_; have p135 : 0 ≤ (x3_2 : Int) := of_decide_eq_true (by first | (with_reducible assumption) | assumption); have q135 : x3_2 < (((rd_T51 l0 0).f3).length : Int) := of_decide_eq_true (by first | (with_reducible assumption) | assumption); obtain ⟨ad135, A135_3, c135_3, e135, hx135_0, hx135_1, hx135_2, hx135_3, hl135_3, hi135_3⟩ := at_T133 HR134_3.out x3_2 p135 q135; cases e135; have HR135_3 := Aside0.mk hi135_3; have HC135_3 := Aside0.mk hl135_3; clear hi135_3 hl135_3; replace p135 := eq_true p135; replace q135 := eq_true q135; have p136 : 0 ≤ (0 : Int) := (by omega); have q136 : 0 < (l0.length : Int) := of_decide_eq_true (by first | (with_reducible assumption) | assumption); obtain ⟨ad136, A136_3, c136_3, e136, hx136_0, hx136_1, hx136_2, hx136_3, hl136_3, hi136_3⟩ := at_T51 HR0.out 0 p136 q136; obtain rfl : ad115 = ad136 := (by injection e136); have qi136 : (0 < l0.length) = True := eq_true (by omega); (try rw [show ((0 : Int)).toNat = 0 from rfl] at hx136_0); (try rw [show 0 * 4 = 0 from rfl] at hx136_0); (try rw [Addr.add_zero'] at hx136_0); (try rw [show ((0 : Int)).toNat = 0 from rfl] at hx136_1); (try rw [show 0 * 4 = 0 from rfl] at hx136_1); (try rw [Addr.add_zero'] at hx136_1); (try rw [show ((0 : Int)).toNat = 0 from rfl] at hx136_2); (try rw [show 0 * 4 = 0 from rfl] at hx136_2); (try rw [Addr.add_zero'] at hx136_2); (try rw [show ((0 : Int)).toNat = 0 from rfl] at hx136_3); (try rw [show 0 * 4 = 0 from rfl] at hx136_3); (try rw [Addr.add_zero'] at hx136_3); have HR136_3 := Aside0.mk hi136_3; have HC136_3 := Aside0.mk hl136_3; clear hi136_3 hl136_3; replace p136 := eq_true p136; replace q136 := eq_true q136; have ea_ := Option.some.inj (hx122_3.symm.trans hx136_3); injection ea_ with ea_ en_ ec_; subst ea_; subst ec_; clear en_)))
                                go_ret
                                exact ⟨by first | rfl | (simp; done) | (simp [*]; done), by repeat (first | exact Drawn0.refl _ | apply Drawn0.step)⟩
                              · rw [if_neg c23] at H
                                have c23b0 : decide (((rd_T51 l0 0).f2) ≤ ((rd_T133 ((rd_T51 l0 0).f3) x3_2).f0)) = false := decide_eq_false c23
                                clear c23
                                have H' := Aside0.mk H
                                clear H
                                have p122 : 0 ≤ (0 : Int) := (by omega)
                                have q122 : 0 < (l0.length : Int) := of_decide_eq_true (by first | (with_reducible assumption) | assumption)
                                obtain ⟨ad122, A122_3, c122_3, e122, hx122_0, hx122_1, hx122_2, hx122_3, hl122_3, hi122_3⟩ := at_T51 HR0.out 0 p122 q122
                                obtain rfl : ad115 = ad122 := (by injection e122)
                                have qi122 : (0 < l0.length) = True := eq_true (by omega)
                                (try rw [show ((0 : Int)).toNat = 0 from rfl] at hx122_0)
                                (try rw [show 0 * 4 = 0 from rfl] at hx122_0)
                                (try rw [Addr.add_zero'] at hx122_0)
                                (try rw [show ((0 : Int)).toNat = 0 from rfl] at hx122_1)
                                (try rw [show 0 * 4 = 0 from rfl] at hx122_1)
                                (try rw [Addr.add_zero'] at hx122_1)
                                (try rw [show ((0 : Int)).toNat = 0 from rfl] at hx122_2)
                                (try rw [show 0 * 4 = 0 from rfl] at hx122_2)
                                (try rw [Addr.add_zero'] at hx122_2)
                                (try rw [show ((0 : Int)).toNat = 0 from rfl] at hx122_3)
                                (try rw [show 0 * 4 = 0 from rfl] at hx122_3)
                                (try rw [Addr.add_zero'] at hx122_3)
                                have HR122_3 := Aside0.mk hi122_3
                                have HC122_3 := Aside0.mk hl122_3
                                clear hi122_3 hl122_3
                                replace p122 := eq_true p122
                                replace q122 := eq_true q122
                                have p123 : 0 ≤ (0 : Int) := (by omega)
                                have q123 : 0 < (l0.length : Int) := of_decide_eq_true (by first | (with_reducible assumption) | assumption)
                                obtain ⟨ad123, A123_3, c123_3, e123, hx123_0, hx123_1, hx123_2, hx123_3, hl123_3, hi123_3⟩ := at_T51 HR0.out 0 p123 q123
                                obtain rfl : ad115 = ad123 := (by injection e123)
                                have qi123 : (0 < l0.length) = True := eq_true (by omega)
                                (try rw [show ((0 : Int)).toNat = 0 from rfl] at hx123_0)
                                (try rw [show 0 * 4 = 0 from rfl] at hx123_0)
                                (try rw [Addr.add_zero'] at hx123_0)
                                (try rw [show ((0 : Int)).toNat = 0 from rfl] at hx123_1)
                                (try rw [show 0 * 4 = 0 from rfl] at hx123_1)
                                (try rw [Addr.add_zero'] at hx123_1)
                                (try rw [show ((0 : Int)).toNat = 0 from rfl] at hx123_2)
                                (try rw [show 0 * 4 = 0 from rfl] at hx123_2)
                                (try rw [Addr.add_zero'] at hx123_2)
                                (try rw [show ((0 : Int)).toNat = 0 from rfl] at hx123_3)
                                (try rw [show 0 * 4 = 0 from rfl] at hx123_3)
                                (try rw [Addr.add_zero'] at hx123_3)
                                have HR123_3 := Aside0.mk hi123_3
                                have HC123_3 := Aside0.mk hl123_3
                                clear hi123_3 hl123_3
                                replace p123 := eq_true p123
                                replace q123 := eq_true q123
                                have ea_ := Option.some.inj (hx122_3.symm.trans hx123_3)
                                injection ea_ with ea_ en_ ec_
                                subst ea_
                                subst ec_
                                clear en_
                                have p124 : 0 ≤ (x3_2 : Int) := of_decide_eq_true (by first | (with_reducible assumption) | assumption)
                                have q124 : x3_2 < (((rd_T51 l0 0).f3).length : Int) := of_decide_eq_true (by first | (with_reducible assumption) | assumption)
                                obtain ⟨ad124, A124_3, c124_3, e124, hx124_0, hx124_1, hx124_2, hx124_3, hl124_3, hi124_3⟩ := at_T133 HR123_3.out x3_2 p124 q124
                                cases e124
                                have HR124_3 := Aside0.mk hi124_3
                                have HC124_3 := Aside0.mk hl124_3
                                clear hi124_3 hl124_3
                                replace p124 := eq_true p124
                                replace q124 := eq_true q124
                                have HRa125 := Aside0.mk (Kd.C_elem HR123_3.out (x3_2 : Int) (of_decide_eq_true (by first | (with_reducible assumption) | assumption)) (of_decide_eq_true (by first | (with_reducible assumption) | assumption)))
                                go_wp2_with (first | (go_at_call 146; (with_reducible refine (spec_l7Message.calls k2 _ (((rd_T51 l0 0).f3).drop (x3_2 : Int).toNat).length (((rd_T51 l0 0).f3).drop (x3_2 : Int).toNat) t126 _ ?side1 ?side2 A15.out).mono ?_); (case side1 => repeat (first | exact HRa125.out | (with_reducible refine Kd.C_alloc ?_ _) | (with_reducible refine Kd.C_drewN ?_ _) | (with_reducible refine Kd.C_drew ?_))); (case side2 => exact Nat.le_refl _); rintro e w' ⟨rfl, ⟨nd, rfl⟩⟩; (try first | exact ⟨rfl, _, World.drewN_drewN _ _ _⟩ | exact ⟨rfl, _, Eq.trans (World.drewN_drewN _ _ _) (congrArg (World.drewN _) (Nat.add_assoc _ _ _))⟩); have p134 : 0 ≤ (0 : Int) := (by omega); have q134 : 0 < (l0.length : Int) := of_decide_eq_true (by first | (with_reducible assumption) | assumption); obtain ⟨ad134, A134_3, c134_3, e134, hx134_0, hx134_1, hx134_2, hx134_3, hl134_3, hi134_3⟩ := at_T51 HR0.out 0 p134 q134; obtain rfl : ad115 = ad134 := (by injection e134); have qi134 : (0 < l0.length) = True := eq_true (by omega); (try rw [show ((0 : Int)).toNat = 0 from rfl] at hx134_0); (try rw [show 0 * 4 = 0 from rfl] at hx134_0); (try rw [Addr.add_zero'] at hx134_0); (try rw [show ((0 : Int)).toNat = 0 from rfl] at hx134_1); (try rw [show 0 * 4 = 0 from rfl] at hx134_1); (try rw [Addr.add_zero'] at hx134_1); (try rw [show ((0 : Int)).toNat = 0 from rfl] at hx134_2); (try rw [show 0 * 4 = 0 from rfl] at hx134_2); (try rw [Addr.add_zero'] at hx134_2); (try rw [show ((0 : Int)).toNat = 0 from rfl] at hx134_3); (try rw [show 0 * 4 = 0 from rfl] at hx134_3); (try rw [Addr.add_zero'] at hx134_3); have HR134_3 := Aside0.mk hi134_3; have HC134_3 := Aside0.mk hl134_3; clear hi134_3 hl134_3; replace p134 := eq_true p134; replace q134 := eq_true q134; have ea_ := Option.some.inj (hx122_3.symm.trans hx134_3); injection ea_ with ea_ en_ ec_; subst ea_; subst ec_; clear en_; have p135 : 0 ≤ (x3_2 : Int) := of_decide_eq_true (by first | (with_reducible assumption) | assumption); have q135 : x3_2 < (((rd_T51 l0 0).f3).length : Int) := of_decide_eq_true (by first | (with_reducible assumption) | assumption); obtain ⟨ad135, A135_3, c135_3, e135, hx135_0, hx135_1, hx135_2, hx135_3, hl135_3, hi135_3⟩ := at_T133 HR134_3.out x3_2 p135 q135; cases e135; have HR135_3 := Aside0.mk hi135_3; have HC135_3 := Aside0.mk hl135_3; clear hi135_3 hl135_3; replace p135 := eq_true p135; replace q135 := eq_true q135; have p136 : 0 ≤ (0 : Int) := (by omega); have q136 : 0 < (l0.length : Int) := of_decide_eq_true (by first | (with_reducible assumption) | assumption); obtain ⟨ad136, A136_3, c136_3, e136, hx136_0, hx136_1, hx136_2, hx136_3, hl136_3, hi136_3⟩ := at_T51 HR0.out 0 p136 q136; obtain rfl : ad115 = ad136 := (by injection e136); have qi136 : (0 < l0.length) = True := eq_true (by omega); (try rw [show ((0 : Int)).toNat = 0 from rfl] at hx136_0); (try rw [show 0 * 4 = 0 from rfl] at hx136_0); (try rw [Addr.add_zero'] at hx136_0); (try rw [show ((0 : Int)).toNat = 0 from rfl] at hx136_1); (try rw [show 0 * 4 = 0 from rfl] at hx136_1); (try rw [Addr.add_zero'] at hx136_1); (try rw [show ((0 : Int)).toNat = 0 from rfl] at hx136_2); (try rw [show 0 * 4 = 0 from rfl] at hx136_2); (try rw [Addr.add_zero'] at hx136_2); (try rw [show ((0 : Int)).toNat = 0 from rfl] at hx136_3); (try rw [show 0 * 4 = 0 from rfl] at hx136_3); (try rw [Addr.add_zero'] at hx136_3); have HR136_3 := Aside0.mk hi136_3; have HC136_3 := Aside0.mk hl136_3; clear hi136_3 hl136_3; replace p136 := eq_true p136; replace q136 := eq_true q136; have ea_ := Option.some.inj (hx122_3.symm.trans hx136_3); injection ea_ with ea_ en_ ec_; subst ea_; subst ec_; clear en_))
                                repeat (go_quiet (first | (go_at_call 146; (with_reducible refine (spec_l7Message.calls k2 _ (((rd_T51 l0 0).f3).drop (x3_2 : Int).toNat).length (((rd_T51 l0 0).f3).drop (x3_2 : Int).toNat) t126 _ ?side1 ?side2 A15.out).mono ?_); (case side1 => repeat (first | exact HRa125.out | (with_reducible refine Kd.C_alloc ?_ _) | (with_reducible refine Kd.C_drewN ?_ _) | (with_reducible refine Kd.C_drew ?_))); (case side2 => exact Nat.le_refl _); rintro e w' ⟨rfl, ⟨nd, rfl⟩⟩; (try first | exact ⟨rfl, _, World.drewN_drewN _ _ _⟩ | exact ⟨rfl, _, Eq.trans (World.drewN_drewN _ _ _) (congrArg (World.drewN _) (Nat.add_assoc _ _ _))⟩); have p134 : 0 ≤ (0 : Int) := (by omega); have q134 : 0 < (l0.length : Int) := of_decide_eq_true (by first | (with_reducible assumption) | assumption); obtain ⟨ad134, A134_3, c134_3, e134, hx134_0, hx134_1, hx134_2, hx134_3, hl134_3, hi134_3⟩ := at_T51 HR0.out 0 p134 q134; obtain rfl : ad115 = ad134 := (by injection e134); have qi134 : (0 < l0.length) = True := eq_true (by omega); (try rw [show ((0 : Int)).toNat = 0 from rfl] at hx134_0); (try rw [show 0 * 4 = 0 from rfl] at hx134_0); (try rw [Addr.add_zero'] at hx134_0); (try rw [show ((0 : Int)).toNat = 0 from rfl] at hx134_1); (try rw [show 0 * 4 = 0 from rfl] at hx134_1); (try rw [Addr.add_zero'] at hx134_1); (try rw [show ((0 : Int)).toNat = 0 from rfl] at hx134_2); (try rw [show 0 * 4 = 0 from rfl] at hx134_2); (try rw [Addr.add_zero'] at hx134_2); (try rw [show ((0 : Int)).toNat = 0 from rfl] at hx134_3); (try rw [show 0 * 4 = 0 from rfl] at hx134_3); (try rw [Addr.add_zero'] at hx134_3); have HR134_3 := Aside0.mk hi134_3; have HC134_3 := Aside0.mk hl134_3; clear hi134_3 hl134_3; replace p134 := eq_true p134; replace q134 := eq_true q134; have ea_ := Option.some.inj (hx122_3.symm.trans hx134_3); injection ea_ with ea_ en_ ec_; subst ea_; subst ec_; clear en_; have p135 : 0 ≤ (x3_2 : Int) := of_decide_eq_true (by first | (with_reducible assumption) | assumption); have q135 : x3_2 < (((rd_T51 l0 0).f3).length : Int) := of_decide_eq_true (by first | (with_reducible assumption) | assumption); obtain ⟨ad135, A135_3, c135_3, e135, hx135_0, hx135_1, hx135_2, hx135_3, hl135_3, hi135_3⟩ := at_T133 HR134_3.out x3_2 p135 q135; cases e135; have HR135_3 := Aside0.mk hi135_3; have HC135_3 := Aside0.mk hl135_3; clear hi135_3 hl135_3; replace p135 := eq_true p135; replace q135 := eq_true q135; have p136 : 0 ≤ (0 : Int) := (by omega); have q136 : 0 < (l0.length : Int) := of_decide_eq_true (by first | (with_reducible assumption) | assumption); obtain ⟨ad136, A136_3, c136_3, e136, hx136_0, hx136_1, hx136_2, hx136_3, hl136_3, hi136_3⟩ := at_T51 HR0.out 0 p136 q136; obtain rfl : ad115 = ad136 := (by injection e136); have qi136 : (0 < l0.length) = True := eq_true (by omega); (try rw [show ((0 : Int)).toNat = 0 from rfl] at hx136_0); (try rw [show 0 * 4 = 0 from rfl] at hx136_0); (try rw [Addr.add_zero'] at hx136_0); (try rw [show ((0 : Int)).toNat = 0 from rfl] at hx136_1); (try rw [show 0 * 4 = 0 from rfl] at hx136_1); (try rw [Addr.add_zero'] at hx136_1); (try rw [show ((0 : Int)).toNat = 0 from rfl] at hx136_2); (try rw [show 0 * 4 = 0 from rfl] at hx136_2); (try rw [Addr.add_zero'] at hx136_2); (try rw [show ((0 : Int)).toNat = 0 from rfl] at hx136_3); (try rw [show 0 * 4 = 0 from rfl] at hx136_3); (try rw [Addr.add_zero'] at hx136_3); have HR136_3 := Aside0.mk hi136_3; have HC136_3 := Aside0.mk hl136_3; clear hi136_3 hl136_3; replace p136 := eq_true p136; replace q136 := eq_true q136; have ea_ := Option.some.inj (hx122_3.symm.trans hx136_3); injection ea_ with ea_ en_ ec_; subst ea_; subst ec_; clear en_)); try go_wp2_with (first | (go_at_call 146; (with_reducible refine (spec_l7Message.calls k2 _ (((rd_T51 l0 0).f3).drop (x3_2 : Int).toNat).length (((rd_T51 l0 0).f3).drop (x3_2 : Int).toNat) t126 _ ?side1 ?side2 A15.out).mono ?_); (case side1 => repeat (first | exact HRa125.out | (with_reducible refine Kd.C_alloc ?_ _) | (with_reducible refine Kd.C_drewN ?_ _) | (with_reducible refine Kd.C_drew ?_))); (case side2 => exact Nat.le_refl _); rintro e w' ⟨rfl, ⟨nd, rfl⟩⟩; (try first | exact ⟨rfl, _, World.drewN_drewN _ _ _⟩ | exact ⟨rfl, _, Eq.trans (World.drewN_drewN _ _ _) (congrArg (World.drewN _) (Nat.add_assoc _ _ _))⟩); have p134 : 0 ≤ (0 : Int) := (by omega); have q134 : 0 < (l0.length : Int) := of_decide_eq_true (by first | (with_reducible assumption) | assumption); obtain ⟨ad134, A134_3, c134_3, e134, hx134_0, hx134_1, hx134_2, hx134_3, hl134_3, hi134_3⟩ := at_T51 HR0.out 0 p134 q134; obtain rfl : ad115 = ad134 := (by injection e134); have qi134 : (0 < l0.length) = True := eq_true (by omega); (try rw [show ((0 : Int)).toNat = 0 from rfl] at hx134_0); (try rw [show 0 * 4 = 0 from rfl] at hx134_0); (try rw [Addr.add_zero'] at hx134_0); (try rw [show ((0 : Int)).toNat = 0 from rfl] at hx134_1); (try rw [show 0 * 4 = 0 from rfl] at hx134_1); (try rw [Addr.add_zero'] at hx134_1); (try rw [show ((0 : Int)).toNat = 0 from rfl] at hx134_2); (try rw [show 0 * 4 = 0 from rfl] at hx134_2); (try rw [Addr.add_zero'] at hx134_2); (try rw [show ((0 : Int)).toNat = 0 from rfl] at hx134_3); (try rw [show 0 * 4 = 0 from rfl] at hx134_3); (try rw [Addr.add_zero'] at hx134_3); have HR134_3 := Aside0.mk hi134_3; have HC134_3 := Aside0.mk hl134_3; clear hi134_3 hl134_3; replace p134 := eq_true p134; replace q134 := eq_true q134; have ea_ := Option.some.inj (hx122_3.symm.trans hx134_3); injection ea_ with ea_ en_ ec_; subst ea_; subst ec_; clear en_; have p135 : 0 ≤ (x3_2 : Int) := of_decide_eq_true (by first | (with_reducible assumption) | assumption); have q135 : x3_2 < (((rd_T51 l0 0).f3).length : Int) := of_decide_eq_true (by first | (with_reducible assumption) | assumption); obtain ⟨ad135, A135_3, c135_3, e135, hx135_0, hx135_1, hx135_2, hx135_3, hl135_3, hi135_3⟩ := at_T133 HR134_3.out x3_2 p135 q135; cases e135; have HR135_3 := Aside0.mk hi135_3; have HC135_3 := Aside0.mk hl135_3; clear hi135_3 hl135_3; replace p135 := eq_true p135; replace q135 := eq_true q135; have p136 : 0 ≤ (0 : Int) := (by omega); have q136 : 0 < (l0.length : Int) := of_decide_eq_true (by first | (with_reducible assumption) | assumption); obtain ⟨ad136, A136_3, c136_3, e136, hx136_0, hx136_1, hx136_2, hx136_3, hl136_3, hi136_3⟩ := at_T51 HR0.out 0 p136 q136; obtain rfl : ad115 = ad136 := (by injection e136); have qi136 : (0 < l0.length) = True := eq_true (by omega); (try rw [show ((0 : Int)).toNat = 0 from rfl] at hx136_0); (try rw [show 0 * 4 = 0 from rfl] at hx136_0); (try rw [Addr.add_zero'] at hx136_0); (try rw [show ((0 : Int)).toNat = 0 from rfl] at hx136_1); (try rw [show 0 * 4 = 0 from rfl] at hx136_1); (try rw [Addr.add_zero'] at hx136_1); (try rw [show ((0 : Int)).toNat = 0 from rfl] at hx136_2); (try rw [show 0 * 4 = 0 from rfl] at hx136_2); (try rw [Addr.add_zero'] at hx136_2); (try rw [show ((0 : Int)).toNat = 0 from rfl] at hx136_3); (try rw [show 0 * 4 = 0 from rfl] at hx136_3); (try rw [Addr.add_zero'] at hx136_3); have HR136_3 := Aside0.mk hi136_3; have HC136_3 := Aside0.mk hl136_3; clear hi136_3 hl136_3; replace p136 := eq_true p136; replace q136 := eq_true q136; have ea_ := Option.some.inj (hx122_3.symm.trans hx136_3); injection ea_ with ea_ en_ ec_; subst ea_; subst ec_; clear en_)))
                                go_roundg k2
                                case measure => have := HJ4.out; have := HK2.out; omega
                                case rel => exact ⟨(wrap64 (x3_2 + 1)), (by first | rfl | (simp; done) | (simp [*]; done)), H', ⟨by have := HJ4.out; have := HK2.out; omega⟩, by repeat (first | exact Drawn0.refl _ | apply Drawn0.step)⟩
                          · rw [if_neg c16] at H
                            have c16b0 : (t126 == 0) = false := beq_eq_false_iff_ne.mpr c16
                            have c16b1 : (t126 != 0) = true := bne_iff_ne.mpr c16
                            obtain rfl := Option.some.inj H
                            have p122 : 0 ≤ (0 : Int) := (by omega)
                            have q122 : 0 < (l0.length : Int) := of_decide_eq_true (by first | (with_reducible assumption) | assumption)
                            obtain ⟨ad122, A122_3, c122_3, e122, hx122_0, hx122_1, hx122_2, hx122_3, hl122_3, hi122_3⟩ := at_T51 HR0.out 0 p122 q122
                            obtain rfl : ad115 = ad122 := (by injection e122)
                            have qi122 : (0 < l0.length) = True := eq_true (by omega)
                            (try rw [show ((0 : Int)).toNat = 0 from rfl] at hx122_0)
                            (try rw [show 0 * 4 = 0 from rfl] at hx122_0)
                            (try rw [Addr.add_zero'] at hx122_0)
                            (try rw [show ((0 : Int)).toNat = 0 from rfl] at hx122_1)
                            (try rw [show 0 * 4 = 0 from rfl] at hx122_1)
                            (try rw [Addr.add_zero'] at hx122_1)
                            (try rw [show ((0 : Int)).toNat = 0 from rfl] at hx122_2)
                            (try rw [show 0 * 4 = 0 from rfl] at hx122_2)
                            (try rw [Addr.add_zero'] at hx122_2)
                            (try rw [show ((0 : Int)).toNat = 0 from rfl] at hx122_3)
                            (try rw [show 0 * 4 = 0 from rfl] at hx122_3)
                            (try rw [Addr.add_zero'] at hx122_3)
                            have HR122_3 := Aside0.mk hi122_3
                            have HC122_3 := Aside0.mk hl122_3
                            clear hi122_3 hl122_3
                            replace p122 := eq_true p122
                            replace q122 := eq_true q122
                            have p123 : 0 ≤ (0 : Int) := (by omega)
                            have q123 : 0 < (l0.length : Int) := of_decide_eq_true (by first | (with_reducible assumption) | assumption)
                            obtain ⟨ad123, A123_3, c123_3, e123, hx123_0, hx123_1, hx123_2, hx123_3, hl123_3, hi123_3⟩ := at_T51 HR0.out 0 p123 q123
                            obtain rfl : ad115 = ad123 := (by injection e123)
                            have qi123 : (0 < l0.length) = True := eq_true (by omega)
                            (try rw [show ((0 : Int)).toNat = 0 from rfl] at hx123_0)
                            (try rw [show 0 * 4 = 0 from rfl] at hx123_0)
                            (try rw [Addr.add_zero'] at hx123_0)
                            (try rw [show ((0 : Int)).toNat = 0 from rfl] at hx123_1)
                            (try rw [show 0 * 4 = 0 from rfl] at hx123_1)
                            (try rw [Addr.add_zero'] at hx123_1)
                            (try rw [show ((0 : Int)).toNat = 0 from rfl] at hx123_2)
                            (try rw [show 0 * 4 = 0 from rfl] at hx123_2)
                            (try rw [Addr.add_zero'] at hx123_2)
                            (try rw [show ((0 : Int)).toNat = 0 from rfl] at hx123_3)
                            (try rw [show 0 * 4 = 0 from rfl] at hx123_3)
                            (try rw [Addr.add_zero'] at hx123_3)
                            have HR123_3 := Aside0.mk hi123_3
                            have HC123_3 := Aside0.mk hl123_3
                            clear hi123_3 hl123_3
                            replace p123 := eq_true p123
                            replace q123 := eq_true q123
                            have ea_ := Option.some.inj (hx122_3.symm.trans hx123_3)
                            injection ea_ with ea_ en_ ec_
                            subst ea_
                            subst ec_
                            clear en_
                            have p124 : 0 ≤ (x3_2 : Int) := of_decide_eq_true (by first | (with_reducible assumption) | assumption)
                            have q124 : x3_2 < (((rd_T51 l0 0).f3).length : Int) := of_decide_eq_true (by first | (with_reducible assumption) | assumption)
                            obtain ⟨ad124, A124_3, c124_3, e124, hx124_0, hx124_1, hx124_2, hx124_3, hl124_3, hi124_3⟩ := at_T133 HR123_3.out x3_2 p124 q124
                            cases e124
                            have HR124_3 := Aside0.mk hi124_3
                            have HC124_3 := Aside0.mk hl124_3
                            clear hi124_3 hl124_3
                            replace p124 := eq_true p124
                            replace q124 := eq_true q124
                            have HRa125 := Aside0.mk (Kd.C_elem HR123_3.out (x3_2 : Int) (of_decide_eq_true (by first | (with_reducible assumption) | assumption)) (of_decide_eq_true (by first | (with_reducible assumption) | assumption)))
                            go_wp2_with (first | (go_at_call 146; (with_reducible refine (spec_l7Message.calls k2 _ (((rd_T51 l0 0).f3).drop (x3_2 : Int).toNat).length (((rd_T51 l0 0).f3).drop (x3_2 : Int).toNat) t126 _ ?side1 ?side2 A15.out).mono ?_); (case side1 => repeat (first | exact HRa125.out | (with_reducible refine Kd.C_alloc ?_ _) | (with_reducible refine Kd.C_drewN ?_ _) | (with_reducible refine Kd.C_drew ?_))); (case side2 => exact Nat.le_refl _); rintro e w' ⟨rfl, ⟨nd, rfl⟩⟩; (try first | exact ⟨rfl, _, World.drewN_drewN _ _ _⟩ | exact ⟨rfl, _, Eq.trans (World.drewN_drewN _ _ _) (congrArg (World.drewN _) (Nat.add_assoc _ _ _))⟩)))
                            repeat (go_quiet (first | (go_at_call 146; (with_reducible refine (spec_l7Message.calls k2 _ (((rd_T51 l0 0).f3).drop (x3_2 : Int).toNat).length (((rd_T51 l0 0).f3).drop (x3_2 : Int).toNat) t126 _ ?side1 ?side2 A15.out).mono ?_); (case side1 => repeat (first | exact HRa125.out | (with_reducible refine Kd.C_alloc ?_ _) | (with_reducible refine Kd.C_drewN ?_ _) | (with_reducible refine Kd.C_drew ?_))); (case side2 => exact Nat.le_refl _); rintro e w' ⟨rfl, ⟨nd, rfl⟩⟩; (try first | exact ⟨rfl, _, World.drewN_drewN _ _ _⟩ | exact ⟨rfl, _, Eq.trans (World.drewN_drewN _ _ _) (congrArg (World.drewN _) (Nat.add_assoc _ _ _))⟩))); try go_wp2_with (first | (go_at_call 146; (with_reducible refine (spec_l7Message.calls k2 _ (((rd_T51 l0 0).f3).drop (x3_2 : Int).toNat).length (((rd_T51 l0 0).f3).drop (x3_2 : Int).toNat) t126 _ ?side1 ?side2 A15.out).mono ?_); (case side1 => repeat (first | exact HRa125.out | (with_reducible refine Kd.C_alloc ?_ _) | (with_reducible refine Kd.C_drewN ?_ _) | (with_reducible refine Kd.C_drew ?_))); (case side2 => exact Nat.le_refl _); rintro e w' ⟨rfl, ⟨nd, rfl⟩⟩; (try first | exact ⟨rfl, _, World.drewN_drewN _ _ _⟩ | exact ⟨rfl, _, Eq.trans (World.drewN_drewN _ _ _) (congrArg (World.drewN _) (Nat.add_assoc _ _ _))⟩))))
                            go_ret
                            exact ⟨by first | rfl | (simp; done) | (simp [*]; done), by repeat (first | exact Drawn0.refl _ | apply Drawn0.step)⟩
                        · rw [if_neg c14] at H
                          exact absurd H (by simp)
                      · rw [if_neg c13] at H
                        have c13b0 : decide (x3_2 < (((rd_T51 l0 0).f3).length : Int)) = false := decide_eq_false c13
                        clear c13
                        obtain rfl := Option.some.inj H
                        have p122 : 0 ≤ (0 : Int) := (by omega)
                        have q122 : 0 < (l0.length : Int) := of_decide_eq_true (by first | (with_reducible assumption) | assumption)
                        obtain ⟨ad122, A122_3, c122_3, e122, hx122_0, hx122_1, hx122_2, hx122_3, hl122_3, hi122_3⟩ := at_T51 HR0.out 0 p122 q122
                        obtain rfl : ad115 = ad122 := (by injection e122)
                        have qi122 : (0 < l0.length) = True := eq_true (by omega)
                        (try rw [show ((0 : Int)).toNat = 0 from rfl] at hx122_0)
                        (try rw [show 0 * 4 = 0 from rfl] at hx122_0)
                        (try rw [Addr.add_zero'] at hx122_0)
                        (try rw [show ((0 : Int)).toNat = 0 from rfl] at hx122_1)
                        (try rw [show 0 * 4 = 0 from rfl] at hx122_1)
                        (try rw [Addr.add_zero'] at hx122_1)
                        (try rw [show ((0 : Int)).toNat = 0 from rfl] at hx122_2)
                        (try rw [show 0 * 4 = 0 from rfl] at hx122_2)
                        (try rw [Addr.add_zero'] at hx122_2)
                        (try rw [show ((0 : Int)).toNat = 0 from rfl] at hx122_3)
                        (try rw [show 0 * 4 = 0 from rfl] at hx122_3)
                        (try rw [Addr.add_zero'] at hx122_3)
                        have HR122_3 := Aside0.mk hi122_3
                        have HC122_3 := Aside0.mk hl122_3
                        clear hi122_3 hl122_3
                        replace p122 := eq_true p122
                        replace q122 := eq_true q122
                        go_wp2
                        repeat (go_quiet (fail); try go_wp2)
                        go_ret
                        exact ⟨by first | rfl | (simp; done) | (simp [*]; done), by repeat (first | exact Drawn0.refl _ | apply Drawn0.step)⟩
                    · rw [if_neg c12] at H
                      exact absurd H (by simp)
            · rw [if_neg c10] at H
              exact absurd H (by simp)
    · replace c4 := Bool.eq_false_iff.mpr c4
      subst c4
      have H1 : (some 5) = some r := by rw [if_neg (show ¬ (false = true) by decide)] at H; exact H
      clear H
      have H := H1
      clear H1
      obtain rfl := Option.some.inj H
      have p115 : 0 ≤ (0 : Int) := (by omega)
      have q115 : 0 < (l0.length : Int) := of_decide_eq_true (by first | (with_reducible assumption) | assumption)
      obtain ⟨ad115, A115_3, c115_3, e115, hx115_0, hx115_1, hx115_2, hx115_3, hl115_3, hi115_3⟩ := at_T51 HR0.out 0 p115 q115
      cases e115
      have qi115 : (0 < l0.length) = True := eq_true (by omega)
      (try rw [show ((0 : Int)).toNat = 0 from rfl] at hx115_0)
      (try rw [show 0 * 4 = 0 from rfl] at hx115_0)
      (try rw [Addr.add_zero'] at hx115_0)
      (try rw [show ((0 : Int)).toNat = 0 from rfl] at hx115_1)
      (try rw [show 0 * 4 = 0 from rfl] at hx115_1)
      (try rw [Addr.add_zero'] at hx115_1)
      (try rw [show ((0 : Int)).toNat = 0 from rfl] at hx115_2)
      (try rw [show 0 * 4 = 0 from rfl] at hx115_2)
      (try rw [Addr.add_zero'] at hx115_2)
      (try rw [show ((0 : Int)).toNat = 0 from rfl] at hx115_3)
      (try rw [show 0 * 4 = 0 from rfl] at hx115_3)
      (try rw [Addr.add_zero'] at hx115_3)
      have HR115_3 := Aside0.mk hi115_3
      have HC115_3 := Aside0.mk hl115_3
      clear hi115_3 hl115_3
      replace p115 := eq_true p115
      replace q115 := eq_true q115
      go_enter Try.func93, Try.ntmps93
      go_wp2_with (first | (go_at_call 138; (with_reducible refine (spec_l7Name.calls k ((rd_T51 l0 0).f0) false _ A3.out).mono ?_); rintro e w' ⟨rfl, ⟨nd, rfl⟩⟩; (try first | exact ⟨rfl, _, World.drewN_drewN _ _ _⟩ | exact ⟨rfl, _, Eq.trans (World.drewN_drewN _ _ _) (congrArg (World.drewN _) (Nat.add_assoc _ _ _))⟩)))
      repeat (go_quiet (first | (go_at_call 138; (with_reducible refine (spec_l7Name.calls k ((rd_T51 l0 0).f0) false _ A3.out).mono ?_); rintro e w' ⟨rfl, ⟨nd, rfl⟩⟩; (try first | exact ⟨rfl, _, World.drewN_drewN _ _ _⟩ | exact ⟨rfl, _, Eq.trans (World.drewN_drewN _ _ _) (congrArg (World.drewN _) (Nat.add_assoc _ _ _))⟩))); try go_wp2_with (first | (go_at_call 138; (with_reducible refine (spec_l7Name.calls k ((rd_T51 l0 0).f0) false _ A3.out).mono ?_); rintro e w' ⟨rfl, ⟨nd, rfl⟩⟩; (try first | exact ⟨rfl, _, World.drewN_drewN _ _ _⟩ | exact ⟨rfl, _, Eq.trans (World.drewN_drewN _ _ _) (congrArg (World.drewN _) (Nat.add_assoc _ _ _))⟩))))
      go_ret
      exact ⟨by first | rfl | (simp; done) | (simp [*]; done), by repeat (first | exact Drawn0.refl _ | apply Drawn0.step)⟩
  · rw [if_neg c2] at H
    exact absurd H (by simp)

end Go.Proofs.Ytfbgfakdflifdaa.PFnExactBoxFault

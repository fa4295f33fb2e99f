/- Functions of the program as Lean functions, each with the proof that its call comes to what that function says (texts written by a program of this session). Conditions: those that stand in each theorem. -/
import Derived.Test.YtfbgfakdflifdaaPFnExactStoreFaultx0
import Derived.Test.YtfbgfakdflifdaaPFnExactStoreFaultx3
namespace Go.Proofs.Ytfbgfakdflifdaa.PFnExactStoreFault
open Go.RowKit Go.Proofs.YtfbgfakdflifdaaW.PrintWords Go.Proofs.YtfbgfakdflifdaaW.PrintLast Go.Proofs.YtfbgfakdflifdaaW.PrintMore
attribute [local go_sem] max2_int min2_int max_two min_two max_three min_three max_four min_four   -- for this text's walks alone
set_option linter.unusedVariables false
set_option linter.unusedSimpArgs false

/-! ### spec_l7Box: function 93 -/
mutual
def spec_l7Box.j0 : Nat → List (S51) → Bool → Option (Int)
  | 0, _, _ => none
  | k + 1, x0, x24 => if x24 = true then (some 3) else (if 0 < (x0.length : Int) then (if (((rd_T51 x0 0).f3).length : Int) > 6 then (some 2) else (spec_l7Box.l0 k x0 0)) else (none))
def spec_l7Box.l0 : Nat → List (S51) → Int → Option (Int)
  | 0, _, _ => none
  | k + 1, x0, x3 => if 0 < (x0.length : Int) then (if x3 < (((rd_T51 x0 0).f3).length : Int) then (if 0 ≤ x3 then ((spec_l7Message.f k (((rd_T51 x0 0).f3).drop (x3 : Int).toNat)).bind fun t192 => (if t192 = 0 then (if x3 > 0 then (if 0 ≤ (wrap64 (x3 - 1)) then (if (wrap64 (x3 - 1)) < (((rd_T51 x0 0).f3).length : Int) then (if ((rd_T133 ((rd_T51 x0 0).f3) x3).f0) ≤ ((rd_T133 ((rd_T51 x0 0).f3) (wrap64 (x3 - 1))).f0) then (some 1) else (if ((rd_T133 ((rd_T51 x0 0).f3) x3).f0) ≥ ((rd_T51 x0 0).f2) then (some 1) else (spec_l7Box.l0 k x0 (wrap64 (x3 + 1))))) else (none)) else (none)) else (if ((rd_T133 ((rd_T51 x0 0).f3) x3).f0) ≥ ((rd_T51 x0 0).f2) then (some 1) else (spec_l7Box.l0 k x0 (wrap64 (x3 + 1))))) else (some t192))) else (none)) else (some 0)) else (none)
end
def spec_l7Box.f (k : Nat) (l0 : List (S51)) : Option (Int) := if 0 < (l0.length : Int) then ((spec_l7Name.f k ((rd_T51 l0 0).f0)).bind fun t182 => (if t182 = true then ((spec_l1In.f ((rd_T51 l0 0).f1) 1 999).bind fun t184 => (if t184 = true then ((spec_l1In.f ((rd_T51 l0 0).f2) 1 1000).bind fun t186 => (spec_l7Box.j0 k l0 (!t186))) else (spec_l7Box.j0 k l0 true))) else (some 5))) else (none)
theorem spec_l7Box.mono_l : ∀ k, (∀ y0 y1, LeO (spec_l7Box.j0 k y0 y1) (spec_l7Box.j0 (k + 1) y0 y1)) ∧ (∀ y0 y1, LeO (spec_l7Box.l0 k y0 y1) (spec_l7Box.l0 (k + 1) y0 y1))
  | 0 => ⟨fun _ _ r h => by simp [spec_l7Box.j0] at h, fun _ _ r h => by simp [spec_l7Box.l0] at h⟩
  | k + 1 => by
    obtain ⟨ih0, ih1⟩ := spec_l7Box.mono_l k
    refine ⟨?_, ?_⟩
    · intro y0 y1
      unfold spec_l7Box.j0
      repeat' first
      | (with_reducible exact ih0 _ _)
      | (with_reducible exact ih1 _ _)
      | (with_reducible exact spec_l7Message.mono _ _)
      | (with_reducible exact spec_l7Name.mono _ _)
      | (with_reducible exact LeO.refl _)
      | (with_reducible exact LeO.none _)
      | (with_reducible refine LeO.ite ?_ ?_)
      | (with_reducible refine LeO.bind ?_ (fun _ => ?_))
      | exact ih0 _ _
      | exact ih1 _ _
      | exact spec_l7Message.mono _ _
      | exact spec_l7Name.mono _ _
      | exact LeO.none _
      | refine LeO.ite ?_ ?_
      | refine LeO.bind ?_ (fun _ => ?_)
    · intro y0 y1
      unfold spec_l7Box.l0
      repeat' first
      | (with_reducible exact ih0 _ _)
      | (with_reducible exact ih1 _ _)
      | (with_reducible exact spec_l7Message.mono _ _)
      | (with_reducible exact spec_l7Name.mono _ _)
      | (with_reducible exact LeO.refl _)
      | (with_reducible exact LeO.none _)
      | (with_reducible refine LeO.ite ?_ ?_)
      | (with_reducible refine LeO.bind ?_ (fun _ => ?_))
      | exact ih0 _ _
      | exact ih1 _ _
      | exact spec_l7Message.mono _ _
      | exact spec_l7Name.mono _ _
      | exact LeO.none _
      | refine LeO.ite ?_ ?_
      | refine LeO.bind ?_ (fun _ => ?_)
theorem spec_l7Box.mono : ∀ a0 k, LeO (spec_l7Box.f k a0) (spec_l7Box.f (k + 1) a0) := by
  intro a0 k
  obtain ⟨ih0, ih1⟩ := spec_l7Box.mono_l k
  unfold spec_l7Box.f
  repeat' first
      | (with_reducible exact ih0 _ _)
      | (with_reducible exact ih1 _ _)
      | (with_reducible exact spec_l7Message.mono _ _)
      | (with_reducible exact spec_l7Name.mono _ _)
      | (with_reducible exact LeO.refl _)
      | (with_reducible exact LeO.none _)
      | (with_reducible refine LeO.ite ?_ ?_)
      | (with_reducible refine LeO.bind ?_ (fun _ => ?_))
      | exact ih0 _ _
      | exact ih1 _ _
      | exact spec_l7Message.mono _ _
      | exact spec_l7Name.mono _ _
      | exact LeO.none _
      | refine LeO.ite ?_ ?_
      | refine LeO.bind ?_ (fun _ => ?_)
set_option maxHeartbeats 8000000 in
set_option maxRecDepth 100000 in
theorem spec_l7Box.calls (k : Nat) (A0 : Option Addr) (c0 : Nat) (l0 : List (S51)) (r : Int) (w : World) (hr0 : Kd.C k51 w A0 l0.length l0) (hc0 : l0.length ≤ c0) (h : spec_l7Box.f k l0 = some r) :
    Calls Try.prog 93 #[.pointer A0] w fun e w' => e = .returned (.int .i64 r) ∧ Drawn0 w w' := by
  have HR0 := Aside0.mk hr0
  have HC0 := Aside0.mk hc0
  clear hr0 hc0
  have H : (if 0 < (l0.length : Int) then ((spec_l7Name.f k ((rd_T51 l0 0).f0)).bind fun t182 => (if t182 = true then ((spec_l1In.f ((rd_T51 l0 0).f1) 1 999).bind fun t184 => (if t184 = true then ((spec_l1In.f ((rd_T51 l0 0).f2) 1 1000).bind fun t186 => (spec_l7Box.j0 k l0 (!t186))) else (spec_l7Box.j0 k l0 true))) else (some 5))) else (none)) = some r := h
  clear h
  by_cases c2 : 0 < (l0.length : Int)
  · rw [if_pos c2] at H
    have c2b0 : decide (0 < (l0.length : Int)) = true := decide_eq_true c2
    have c2b1 : decide (0 < l0.length) = true := decide_eq_true (by omega)
    clear c2
    replace H := Option.bind_eq_some_iff.mp H
    obtain ⟨t182, A30, H⟩ := H
    replace H : (if t182 = true then ((spec_l1In.f ((rd_T51 l0 0).f1) 1 999).bind fun t184 => (if t184 = true then ((spec_l1In.f ((rd_T51 l0 0).f2) 1 1000).bind fun t186 => (spec_l7Box.j0 k l0 (!t186))) else (spec_l7Box.j0 k l0 true))) else (some 5)) = some r := H
    have A3 := Aside0.mk A30
    clear A30
    by_cases c4 : t182 = true
    · subst c4
      have H1 : ((spec_l1In.f ((rd_T51 l0 0).f1) 1 999).bind fun t184 => (if t184 = true then ((spec_l1In.f ((rd_T51 l0 0).f2) 1 1000).bind fun t186 => (spec_l7Box.j0 k l0 (!t186))) else (spec_l7Box.j0 k l0 true))) = some r := by rw [if_pos rfl] at H; exact H
      clear H
      have H := H1
      clear H1
      have HC5 := Aside0.mk H
      clear H
      have p181 : 0 ≤ (0 : Int) := (by omega)
      have q181 : 0 < (l0.length : Int) := of_decide_eq_true (by first | (with_reducible assumption) | assumption)
      obtain ⟨ad181, A181_3, c181_3, e181, hx181_0, hx181_1, hx181_2, hx181_3, hl181_3, hi181_3⟩ := at_T51 HR0.out 0 p181 q181
      cases e181
      have qi181 : (0 < l0.length) = True := eq_true (by omega)
      (try rw [show ((0 : Int)).toNat = 0 from rfl] at hx181_0)
      (try rw [show 0 * 4 = 0 from rfl] at hx181_0)
      (try rw [Addr.add_zero'] at hx181_0)
      (try rw [show ((0 : Int)).toNat = 0 from rfl] at hx181_1)
      (try rw [show 0 * 4 = 0 from rfl] at hx181_1)
      (try rw [Addr.add_zero'] at hx181_1)
      (try rw [show ((0 : Int)).toNat = 0 from rfl] at hx181_2)
      (try rw [show 0 * 4 = 0 from rfl] at hx181_2)
      (try rw [Addr.add_zero'] at hx181_2)
      (try rw [show ((0 : Int)).toNat = 0 from rfl] at hx181_3)
      (try rw [show 0 * 4 = 0 from rfl] at hx181_3)
      (try rw [Addr.add_zero'] at hx181_3)
      have HR181_3 := Aside0.mk hi181_3
      have HC181_3 := Aside0.mk hl181_3
      clear hi181_3 hl181_3
      replace p181 := eq_true p181
      replace q181 := eq_true q181
      go_enter Try.func93, Try.ntmps93
      go_upto_region 3 with (first | (go_at_call 138; (with_reducible refine (spec_l7Name.calls k ((rd_T51 l0 0).f0) true _ A3.out).mono ?_); rintro e w' ⟨rfl, ⟨nd, rfl⟩⟩; (try first | exact ⟨rfl, _, World.drewN_drewN _ _ _⟩ | exact ⟨rfl, _, Eq.trans (World.drewN_drewN _ _ _) (congrArg (World.drewN _) (Nat.add_assoc _ _ _))⟩)))
      repeat (go_quiet (first | (go_at_call 138; (with_reducible refine (spec_l7Name.calls k ((rd_T51 l0 0).f0) true _ A3.out).mono ?_); rintro e w' ⟨rfl, ⟨nd, rfl⟩⟩; (try first | exact ⟨rfl, _, World.drewN_drewN _ _ _⟩ | exact ⟨rfl, _, Eq.trans (World.drewN_drewN _ _ _) (congrArg (World.drewN _) (Nat.add_assoc _ _ _))⟩))); go_upto_region 3 with (first | (go_at_call 138; (with_reducible refine (spec_l7Name.calls k ((rd_T51 l0 0).f0) true _ A3.out).mono ?_); rintro e w' ⟨rfl, ⟨nd, rfl⟩⟩; (try first | exact ⟨rfl, _, World.drewN_drewN _ _ _⟩ | exact ⟨rfl, _, Eq.trans (World.drewN_drewN _ _ _) (congrArg (World.drewN _) (Nat.add_assoc _ _ _))⟩))))
      (try simp only [Act.put, List.setIfInBounds_toArray, List.set_cons_zero, List.set_cons_succ])
      go_cut [24] (fun v24 wc => ∃ (kq : Nat) (x24_4 : Bool), v24 = .bool x24_4 ∧ Aside0 (spec_l7Box.j0 kq l0 x24_4 = some r) ∧ Aside0 (kq ≤ k) ∧ Drawn0 w wc)
      case first =>
        have H := HC5.out
        clear HC5
        replace H := Option.bind_eq_some_iff.mp H
        obtain ⟨t184, A60, H⟩ := H
        replace H : (if t184 = true then ((spec_l1In.f ((rd_T51 l0 0).f2) 1 1000).bind fun t186 => (spec_l7Box.j0 k l0 (!t186))) else (spec_l7Box.j0 k l0 true)) = some r := H
        have A6 := Aside0.mk A60
        clear A60
        by_cases c7 : t184 = true
        · subst c7
          have H1 : ((spec_l1In.f ((rd_T51 l0 0).f2) 1 1000).bind fun t186 => (spec_l7Box.j0 k l0 (!t186))) = some r := by rw [if_pos rfl] at H; exact H
          clear H
          have H := H1
          clear H1
          replace H := Option.bind_eq_some_iff.mp H
          obtain ⟨t186, A80, H⟩ := H
          replace H : (spec_l7Box.j0 k l0 (!t186)) = some r := H
          have A8 := Aside0.mk A80
          clear A80
          have H' := Aside0.mk H
          clear H
          have p183 : 0 ≤ (0 : Int) := (by omega)
          have q183 : 0 < (l0.length : Int) := of_decide_eq_true (by first | (with_reducible assumption) | assumption)
          obtain ⟨ad183, A183_3, c183_3, e183, hx183_0, hx183_1, hx183_2, hx183_3, hl183_3, hi183_3⟩ := at_T51 HR0.out 0 p183 q183
          obtain rfl : ad181 = ad183 := (by injection e183)
          have qi183 : (0 < l0.length) = True := eq_true (by omega)
          (try rw [show ((0 : Int)).toNat = 0 from rfl] at hx183_0)
          (try rw [show 0 * 4 = 0 from rfl] at hx183_0)
          (try rw [Addr.add_zero'] at hx183_0)
          (try rw [show ((0 : Int)).toNat = 0 from rfl] at hx183_1)
          (try rw [show 0 * 4 = 0 from rfl] at hx183_1)
          (try rw [Addr.add_zero'] at hx183_1)
          (try rw [show ((0 : Int)).toNat = 0 from rfl] at hx183_2)
          (try rw [show 0 * 4 = 0 from rfl] at hx183_2)
          (try rw [Addr.add_zero'] at hx183_2)
          (try rw [show ((0 : Int)).toNat = 0 from rfl] at hx183_3)
          (try rw [show 0 * 4 = 0 from rfl] at hx183_3)
          (try rw [Addr.add_zero'] at hx183_3)
          have HR183_3 := Aside0.mk hi183_3
          have HC183_3 := Aside0.mk hl183_3
          clear hi183_3 hl183_3
          replace p183 := eq_true p183
          replace q183 := eq_true q183
          go_wp2_with (first | (go_at_call 141; (with_reducible refine (spec_l1In.calls ((rd_T51 l0 0).f1) 1 999 true _ A6.out).mono ?_); rintro e w' ⟨rfl, ⟨nd, rfl⟩⟩; (try first | exact ⟨rfl, _, World.drewN_drewN _ _ _⟩ | exact ⟨rfl, _, Eq.trans (World.drewN_drewN _ _ _) (congrArg (World.drewN _) (Nat.add_assoc _ _ _))⟩); have p185 : 0 ≤ (0 : Int) := (by omega); have q185 : 0 < (l0.length : Int) := of_decide_eq_true (by first | (with_reducible assumption) | assumption); obtain ⟨ad185, A185_3, c185_3, e185, hx185_0, hx185_1, hx185_2, hx185_3, hl185_3, hi185_3⟩ := at_T51 HR0.out 0 p185 q185; obtain rfl : ad181 = ad185 := (by injection e185); have qi185 : (0 < l0.length) = True := eq_true (by omega); (try rw [show ((0 : Int)).toNat = 0 from rfl] at hx185_0); (try rw [show 0 * 4 = 0 from rfl] at hx185_0); (try rw [Addr.add_zero'] at hx185_0); (try rw [show ((0 : Int)).toNat = 0 from rfl] at hx185_1); (try rw [show 0 * 4 = 0 from rfl] at hx185_1); (try rw [Addr.add_zero'] at hx185_1); (try rw [show ((0 : Int)).toNat = 0 from rfl] at hx185_2); (try rw [show 0 * 4 = 0 from rfl] at hx185_2); (try rw [Addr.add_zero'] at hx185_2); (try rw [show ((0 : Int)).toNat = 0 from rfl] at hx185_3); (try rw [show 0 * 4 = 0 from rfl] at hx185_3); (try rw [Addr.add_zero'] at hx185_3); have HR185_3 := Aside0.mk hi185_3; have HC185_3 := Aside0.mk hl185_3; clear hi185_3 hl185_3; replace p185 := eq_true p185; replace q185 := eq_true q185; have ea_ := Option.some.inj (hx183_3.symm.trans hx185_3); injection ea_ with ea_ en_ ec_; subst ea_; subst ec_; clear en_) | (go_at_call 141; (with_reducible refine (spec_l1In.calls ((rd_T51 l0 0).f2) 1 1000 t186 _ A8.out).mono ?_); rintro e w' ⟨rfl, ⟨nd, rfl⟩⟩; (try first | exact ⟨rfl, _, World.drewN_drewN _ _ _⟩ | exact ⟨rfl, _, Eq.trans (World.drewN_drewN _ _ _) (congrArg (World.drewN _) (Nat.add_assoc _ _ _))⟩)))
          repeat (go_quiet (first | (go_at_call 141; (with_reducible refine (spec_l1In.calls ((rd_T51 l0 0).f1) 1 999 true _ A6.out).mono ?_); rintro e w' ⟨rfl, ⟨nd, rfl⟩⟩; (try first | exact ⟨rfl, _, World.drewN_drewN _ _ _⟩ | exact ⟨rfl, _, Eq.trans (World.drewN_drewN _ _ _) (congrArg (World.drewN _) (Nat.add_assoc _ _ _))⟩); have p185 : 0 ≤ (0 : Int) := (by omega); have q185 : 0 < (l0.length : Int) := of_decide_eq_true (by first | (with_reducible assumption) | assumption); obtain ⟨ad185, A185_3, c185_3, e185, hx185_0, hx185_1, hx185_2, hx185_3, hl185_3, hi185_3⟩ := at_T51 HR0.out 0 p185 q185; obtain rfl : ad181 = ad185 := (by injection e185); have qi185 : (0 < l0.length) = True := eq_true (by omega); (try rw [show ((0 : Int)).toNat = 0 from rfl] at hx185_0); (try rw [show 0 * 4 = 0 from rfl] at hx185_0); (try rw [Addr.add_zero'] at hx185_0); (try rw [show ((0 : Int)).toNat = 0 from rfl] at hx185_1); (try rw [show 0 * 4 = 0 from rfl] at hx185_1); (try rw [Addr.add_zero'] at hx185_1); (try rw [show ((0 : Int)).toNat = 0 from rfl] at hx185_2); (try rw [show 0 * 4 = 0 from rfl] at hx185_2); (try rw [Addr.add_zero'] at hx185_2); (try rw [show ((0 : Int)).toNat = 0 from rfl] at hx185_3); (try rw [show 0 * 4 = 0 from rfl] at hx185_3); (try rw [Addr.add_zero'] at hx185_3); have HR185_3 := Aside0.mk hi185_3; have HC185_3 := Aside0.mk hl185_3; clear hi185_3 hl185_3; replace p185 := eq_true p185; replace q185 := eq_true q185; have ea_ := Option.some.inj (hx183_3.symm.trans hx185_3); injection ea_ with ea_ en_ ec_; subst ea_; subst ec_; clear en_) | (go_at_call 141; (with_reducible refine (spec_l1In.calls ((rd_T51 l0 0).f2) 1 1000 t186 _ A8.out).mono ?_); rintro e w' ⟨rfl, ⟨nd, rfl⟩⟩; (try first | exact ⟨rfl, _, World.drewN_drewN _ _ _⟩ | exact ⟨rfl, _, Eq.trans (World.drewN_drewN _ _ _) (congrArg (World.drewN _) (Nat.add_assoc _ _ _))⟩))); try go_wp2_with (first | (go_at_call 141; (with_reducible refine (spec_l1In.calls ((rd_T51 l0 0).f1) 1 999 true _ A6.out).mono ?_); rintro e w' ⟨rfl, ⟨nd, rfl⟩⟩; (try first | exact ⟨rfl, _, World.drewN_drewN _ _ _⟩ | exact ⟨rfl, _, Eq.trans (World.drewN_drewN _ _ _) (congrArg (World.drewN _) (Nat.add_assoc _ _ _))⟩); have p185 : 0 ≤ (0 : Int) := (by omega); have q185 : 0 < (l0.length : Int) := of_decide_eq_true (by first | (with_reducible assumption) | assumption); obtain ⟨ad185, A185_3, c185_3, e185, hx185_0, hx185_1, hx185_2, hx185_3, hl185_3, hi185_3⟩ := at_T51 HR0.out 0 p185 q185; obtain rfl : ad181 = ad185 := (by injection e185); have qi185 : (0 < l0.length) = True := eq_true (by omega); (try rw [show ((0 : Int)).toNat = 0 from rfl] at hx185_0); (try rw [show 0 * 4 = 0 from rfl] at hx185_0); (try rw [Addr.add_zero'] at hx185_0); (try rw [show ((0 : Int)).toNat = 0 from rfl] at hx185_1); (try rw [show 0 * 4 = 0 from rfl] at hx185_1); (try rw [Addr.add_zero'] at hx185_1); (try rw [show ((0 : Int)).toNat = 0 from rfl] at hx185_2); (try rw [show 0 * 4 = 0 from rfl] at hx185_2); (try rw [Addr.add_zero'] at hx185_2); (try rw [show ((0 : Int)).toNat = 0 from rfl] at hx185_3); (try rw [show 0 * 4 = 0 from rfl] at hx185_3); (try rw [Addr.add_zero'] at hx185_3); have HR185_3 := Aside0.mk hi185_3; have HC185_3 := Aside0.mk hl185_3; clear hi185_3 hl185_3; replace p185 := eq_true p185; replace q185 := eq_true q185; have ea_ := Option.some.inj (hx183_3.symm.trans hx185_3); injection ea_ with ea_ en_ ec_; subst ea_; subst ec_; clear en_) | (go_at_call 141; (with_reducible refine (spec_l1In.calls ((rd_T51 l0 0).f2) 1 1000 t186 _ A8.out).mono ?_); rintro e w' ⟨rfl, ⟨nd, rfl⟩⟩; (try first | exact ⟨rfl, _, World.drewN_drewN _ _ _⟩ | exact ⟨rfl, _, Eq.trans (World.drewN_drewN _ _ _) (congrArg (World.drewN _) (Nat.add_assoc _ _ _))⟩))))
          go_meet
          case rel => exact ⟨_, (!t186), (by first | rfl | (simp; done) | (simp [*]; done)), H', ⟨by first | omega | exact Nat.le_refl _⟩, by repeat (first | exact Drawn0.refl _ | apply Drawn0.step)⟩
        · replace c7 := Bool.eq_false_iff.mpr c7
          subst c7
          have H1 : (spec_l7Box.j0 k l0 true) = some r := by rw [if_neg (show ¬ (false = true) by decide)] at H; exact H
          clear H
          have H := H1
          clear H1
          have H' := Aside0.mk H
          clear H
          have p183 : 0 ≤ (0 : Int) := (by omega)
          have q183 : 0 < (l0.length : Int) := of_decide_eq_true (by first | (with_reducible assumption) | assumption)
          obtain ⟨ad183, A183_3, c183_3, e183, hx183_0, hx183_1, hx183_2, hx183_3, hl183_3, hi183_3⟩ := at_T51 HR0.out 0 p183 q183
          obtain rfl : ad181 = ad183 := (by injection e183)
          have qi183 : (0 < l0.length) = True := eq_true (by omega)
          (try rw [show ((0 : Int)).toNat = 0 from rfl] at hx183_0)
          (try rw [show 0 * 4 = 0 from rfl] at hx183_0)
          (try rw [Addr.add_zero'] at hx183_0)
          (try rw [show ((0 : Int)).toNat = 0 from rfl] at hx183_1)
          (try rw [show 0 * 4 = 0 from rfl] at hx183_1)
          (try rw [Addr.add_zero'] at hx183_1)
          (try rw [show ((0 : Int)).toNat = 0 from rfl] at hx183_2)
          (try rw [show 0 * 4 = 0 from rfl] at hx183_2)
          (try rw [Addr.add_zero'] at hx183_2)
          (try rw [show ((0 : Int)).toNat = 0 from rfl] at hx183_3)
          (try rw [show 0 * 4 = 0 from rfl] at hx183_3)
          (try rw [Addr.add_zero'] at hx183_3)
          have HR183_3 := Aside0.mk hi183_3
          have HC183_3 := Aside0.mk hl183_3
          clear hi183_3 hl183_3
          replace p183 := eq_true p183
          replace q183 := eq_true q183
          go_wp2_with (first | (go_at_call 141; (with_reducible refine (spec_l1In.calls ((rd_T51 l0 0).f1) 1 999 false _ A6.out).mono ?_); rintro e w' ⟨rfl, ⟨nd, rfl⟩⟩; (try first | exact ⟨rfl, _, World.drewN_drewN _ _ _⟩ | exact ⟨rfl, _, Eq.trans (World.drewN_drewN _ _ _) (congrArg (World.drewN _) (Nat.add_assoc _ _ _))⟩)))
          repeat (go_quiet (first | (go_at_call 141; (with_reducible refine (spec_l1In.calls ((rd_T51 l0 0).f1) 1 999 false _ A6.out).mono ?_); rintro e w' ⟨rfl, ⟨nd, rfl⟩⟩; (try first | exact ⟨rfl, _, World.drewN_drewN _ _ _⟩ | exact ⟨rfl, _, Eq.trans (World.drewN_drewN _ _ _) (congrArg (World.drewN _) (Nat.add_assoc _ _ _))⟩))); try go_wp2_with (first | (go_at_call 141; (with_reducible refine (spec_l1In.calls ((rd_T51 l0 0).f1) 1 999 false _ A6.out).mono ?_); rintro e w' ⟨rfl, ⟨nd, rfl⟩⟩; (try first | exact ⟨rfl, _, World.drewN_drewN _ _ _⟩ | exact ⟨rfl, _, Eq.trans (World.drewN_drewN _ _ _) (congrArg (World.drewN _) (Nat.add_assoc _ _ _))⟩))))
          go_meet
          case rel => exact ⟨_, (true), (by first | rfl | (simp; done) | (simp [*]; done)), H', ⟨by first | omega | exact Nat.le_refl _⟩, by repeat (first | exact Drawn0.refl _ | apply Drawn0.step)⟩
      case rest =>
        clear HC5
        try clear c1
        try clear p1
        try clear q1
        try clear hx1
        try clear qi1
        try clear c2
        try clear c2b0
        try clear c2b1
        try clear p2
        try clear c4
        try clear c7
        try clear hx181_0
        try clear hx181_1
        try clear hx181_2
        try clear hx181_3
        try clear hx183_0
        try clear hx183_1
        try clear hx183_2
        try clear hx183_3
        try clear hx185_0
        try clear hx185_1
        try clear hx185_2
        try clear hx185_3
        try clear p181
        try clear p183
        try clear p185
        try clear q181
        try clear q183
        try clear q185
        obtain ⟨kq, x24_4, rfl, HA, HJ4, ⟨mc4, rfl⟩⟩ := hcut
        cases kq with
        | zero => exact absurd HA.out (by simp [spec_l7Box.j0])
        | succ kj4 =>
          have H := HA.out
          clear HA
          simp only [spec_l7Box.j0] at H
          by_cases c9 : x24_4 = true
          · subst c9
            have H1 : (some 3) = some r := by rw [if_pos rfl] at H; exact H
            clear H
            have H := H1
            clear H1
            obtain rfl := Option.some.inj H
            go_wp2
            repeat (go_quiet (fail); try go_wp2)
            go_ret
            exact ⟨by first | rfl | (simp; done) | (simp [*]; done), by repeat (first | exact Drawn0.refl _ | apply Drawn0.step)⟩
          · replace c9 := Bool.eq_false_iff.mpr c9
            subst c9
            have H1 : (if 0 < (l0.length : Int) then (if (((rd_T51 l0 0).f3).length : Int) > 6 then (some 2) else (spec_l7Box.l0 kj4 l0 0)) else (none)) = some r := by rw [if_neg (show ¬ (false = true) by decide)] at H; exact H
            clear H
            have H := H1
            clear H1
            by_cases c10 : 0 < (l0.length : Int)
            · rw [if_pos c10] at H
              have c10b0 : decide (0 < (l0.length : Int)) = true := decide_eq_true c10
              have c10b1 : decide (0 < l0.length) = true := decide_eq_true (by omega)
              clear c10
              by_cases c11 : (((rd_T51 l0 0).f3).length : Int) > 6
              · rw [if_pos c11] at H
                have c11b0 : decide (6 < (((rd_T51 l0 0).f3).length : Int)) = true := decide_eq_true c11
                have c11b1 : decide (6 < ((rd_T51 l0 0).f3).length) = true := decide_eq_true (by omega)
                clear c11
                obtain rfl := Option.some.inj H
                have p187 : 0 ≤ (0 : Int) := (by omega)
                have q187 : 0 < (l0.length : Int) := of_decide_eq_true (by first | (with_reducible assumption) | assumption)
                obtain ⟨ad187, A187_3, c187_3, e187, hx187_0, hx187_1, hx187_2, hx187_3, hl187_3, hi187_3⟩ := at_T51 HR0.out 0 p187 q187
                obtain rfl : ad181 = ad187 := (by injection e187)
                have qi187 : (0 < l0.length) = True := eq_true (by omega)
                (try rw [show ((0 : Int)).toNat = 0 from rfl] at hx187_0)
                (try rw [show 0 * 4 = 0 from rfl] at hx187_0)
                (try rw [Addr.add_zero'] at hx187_0)
                (try rw [show ((0 : Int)).toNat = 0 from rfl] at hx187_1)
                (try rw [show 0 * 4 = 0 from rfl] at hx187_1)
                (try rw [Addr.add_zero'] at hx187_1)
                (try rw [show ((0 : Int)).toNat = 0 from rfl] at hx187_2)
                (try rw [show 0 * 4 = 0 from rfl] at hx187_2)
                (try rw [Addr.add_zero'] at hx187_2)
                (try rw [show ((0 : Int)).toNat = 0 from rfl] at hx187_3)
                (try rw [show 0 * 4 = 0 from rfl] at hx187_3)
                (try rw [Addr.add_zero'] at hx187_3)
                have HR187_3 := Aside0.mk hi187_3
                have HC187_3 := Aside0.mk hl187_3
                clear hi187_3 hl187_3
                replace p187 := eq_true p187
                replace q187 := eq_true q187
                go_wp2
                repeat (go_quiet (fail); try go_wp2)
                go_ret
                exact ⟨by first | rfl | (simp; done) | (simp [*]; done), by repeat (first | exact Drawn0.refl _ | apply Drawn0.step)⟩
              · rw [if_neg c11] at H
                have c11b0 : decide (6 < (((rd_T51 l0 0).f3).length : Int)) = false := decide_eq_false c11
                have c11b1 : decide (6 < ((rd_T51 l0 0).f3).length) = false := decide_eq_false (by omega)
                clear c11
                have H' := Aside0.mk H
                clear H
                have p187 : 0 ≤ (0 : Int) := (by omega)
                have q187 : 0 < (l0.length : Int) := of_decide_eq_true (by first | (with_reducible assumption) | assumption)
                obtain ⟨ad187, A187_3, c187_3, e187, hx187_0, hx187_1, hx187_2, hx187_3, hl187_3, hi187_3⟩ := at_T51 HR0.out 0 p187 q187
                obtain rfl : ad181 = ad187 := (by injection e187)
                have qi187 : (0 < l0.length) = True := eq_true (by omega)
                (try rw [show ((0 : Int)).toNat = 0 from rfl] at hx187_0)
                (try rw [show 0 * 4 = 0 from rfl] at hx187_0)
                (try rw [Addr.add_zero'] at hx187_0)
                (try rw [show ((0 : Int)).toNat = 0 from rfl] at hx187_1)
                (try rw [show 0 * 4 = 0 from rfl] at hx187_1)
                (try rw [Addr.add_zero'] at hx187_1)
                (try rw [show ((0 : Int)).toNat = 0 from rfl] at hx187_2)
                (try rw [show 0 * 4 = 0 from rfl] at hx187_2)
                (try rw [Addr.add_zero'] at hx187_2)
                (try rw [show ((0 : Int)).toNat = 0 from rfl] at hx187_3)
                (try rw [show 0 * 4 = 0 from rfl] at hx187_3)
                (try rw [Addr.add_zero'] at hx187_3)
                have HR187_3 := Aside0.mk hi187_3
                have HC187_3 := Aside0.mk hl187_3
                clear hi187_3 hl187_3
                replace p187 := eq_true p187
                replace q187 := eq_true q187
                go_wp2
                repeat (go_quiet (fail); try go_wp2)
                go_loopg [3] kj4 (fun kq v3 w' => ∃ (x3_2 : Int), v3 = .int .i64 x3_2 ∧ Aside0 (spec_l7Box.l0 kq l0 x3_2 = some r) ∧ Aside0 (kq ≤ kj4) ∧ Drawn0 w w')
                case atStart => exact ⟨(0), (by first | rfl | (simp; done) | (simp [*]; done)), H', ⟨Nat.le_refl _⟩, by repeat (first | exact Drawn0.refl _ | apply Drawn0.step)⟩
                case round =>
                  clear H'
                  try clear c1
                  try clear p1
                  try clear q1
                  try clear hx1
                  try clear qi1
                  try clear c2
                  try clear c2b0
                  try clear c2b1
                  try clear p2
                  try clear c4
                  try clear c7
                  try clear c9
                  try clear c10
                  try clear c10b0
                  try clear c10b1
                  try clear c11
                  try clear c11b0
                  try clear c11b1
                  try clear hx181_0
                  try clear hx181_1
                  try clear hx181_2
                  try clear hx181_3
                  try clear hx183_0
                  try clear hx183_1
                  try clear hx183_2
                  try clear hx183_3
                  try clear hx185_0
                  try clear hx185_1
                  try clear hx185_2
                  try clear hx185_3
                  try clear hx187_0
                  try clear hx187_1
                  try clear hx187_2
                  try clear hx187_3
                  try clear p1
                  try clear p181
                  try clear p183
                  try clear p185
                  try clear p187
                  try clear p2
                  try clear q1
                  try clear q181
                  try clear q183
                  try clear q185
                  try clear q187
                  obtain ⟨x3_2, rfl, HA, HK2, ⟨m2, rfl⟩⟩ := hrel
                  cases gk with
                  | zero => exact absurd HA.out (by simp [spec_l7Box.l0])
                  | succ k2 =>
                    have H := HA.out
                    clear HA
                    simp only [spec_l7Box.l0] at H
                    by_cases c12 : 0 < (l0.length : Int)
                    · rw [if_pos c12] at H
                      have c12b0 : decide (0 < (l0.length : Int)) = true := decide_eq_true c12
                      have c12b1 : decide (0 < l0.length) = true := decide_eq_true (by omega)
                      clear c12
                      by_cases c13 : x3_2 < (((rd_T51 l0 0).f3).length : Int)
                      · rw [if_pos c13] at H
                        have c13b0 : decide (x3_2 < (((rd_T51 l0 0).f3).length : Int)) = true := decide_eq_true c13
                        clear c13
                        by_cases c14 : 0 ≤ x3_2
                        · rw [if_pos c14] at H
                          have c14b0 : decide (0 ≤ x3_2) = true := decide_eq_true c14
                          clear c14
                          replace H := Option.bind_eq_some_iff.mp H
                          obtain ⟨t192, A150, H⟩ := H
                          replace H : (if t192 = 0 then (if x3_2 > 0 then (if 0 ≤ (wrap64 (x3_2 - 1)) then (if (wrap64 (x3_2 - 1)) < (((rd_T51 l0 0).f3).length : Int) then (if ((rd_T133 ((rd_T51 l0 0).f3) x3_2).f0) ≤ ((rd_T133 ((rd_T51 l0 0).f3) (wrap64 (x3_2 - 1))).f0) then (some 1) else (if ((rd_T133 ((rd_T51 l0 0).f3) x3_2).f0) ≥ ((rd_T51 l0 0).f2) then (some 1) else (spec_l7Box.l0 k2 l0 (wrap64 (x3_2 + 1))))) else (none)) else (none)) else (if ((rd_T133 ((rd_T51 l0 0).f3) x3_2).f0) ≥ ((rd_T51 l0 0).f2) then (some 1) else (spec_l7Box.l0 k2 l0 (wrap64 (x3_2 + 1))))) else (some t192)) = some r := H
                          have A15 := Aside0.mk A150
                          clear A150
                          by_cases c16 : t192 = 0
                          · rw [if_pos c16] at H
                            have c16b0 : (t192 == 0) = true := beq_iff_eq.mpr c16
                            have c16b1 : (t192 != 0) = false := bne_eq_false_iff_eq.mpr c16
                            clear c16
                            by_cases c17 : x3_2 > 0
                            · rw [if_pos c17] at H
                              have c17b0 : decide (0 < x3_2) = true := decide_eq_true c17
                              clear c17
                              obtain ⟨ji18, hji18⟩ : ∃ j_ : Int, (wrap64 (x3_2 - 1)) = j_ := ⟨_, rfl⟩
                              replace H : (if 0 ≤ (ji18) then (if (ji18) < (((rd_T51 l0 0).f3).length : Int) then (if ((rd_T133 ((rd_T51 l0 0).f3) x3_2).f0) ≤ ((rd_T133 ((rd_T51 l0 0).f3) (ji18)).f0) then (some 1) else (if ((rd_T133 ((rd_T51 l0 0).f3) x3_2).f0) ≥ ((rd_T51 l0 0).f2) then (some 1) else (spec_l7Box.l0 k2 l0 (wrap64 (x3_2 + 1))))) else (none)) else (none)) = some r := by first | (rw [hji18] at H; exact H) | (simp only [hji18] at H ⊢; exact H)
                              (try rw [hji18] at A15)
                              have hji18w : (IntKind.i64.wrap (x3_2 - 1)) = ji18 := (i64_w _).trans hji18
                              by_cases c19 : 0 ≤ (ji18)
                              · rw [if_pos c19] at H
                                have c19b0 : decide (0 ≤ (ji18)) = true := decide_eq_true c19
                                clear c19
                                by_cases c20 : (ji18) < (((rd_T51 l0 0).f3).length : Int)
                                · rw [if_pos c20] at H
                                  have c20b0 : decide ((ji18) < (((rd_T51 l0 0).f3).length : Int)) = true := decide_eq_true c20
                                  clear c20
                                  by_cases c21 : ((rd_T133 ((rd_T51 l0 0).f3) x3_2).f0) ≤ ((rd_T133 ((rd_T51 l0 0).f3) (ji18)).f0)
                                  · rw [if_pos c21] at H
                                    have c21b0 : decide (((rd_T133 ((rd_T51 l0 0).f3) x3_2).f0) ≤ ((rd_T133 ((rd_T51 l0 0).f3) (ji18)).f0)) = true := decide_eq_true c21
                                    clear c21
                                    obtain rfl := Option.some.inj H
                                    have p188 : 0 ≤ (0 : Int) := (by omega)
                                    have q188 : 0 < (l0.length : Int) := of_decide_eq_true (by first | (with_reducible assumption) | assumption)
                                    obtain ⟨ad188, A188_3, c188_3, e188, hx188_0, hx188_1, hx188_2, hx188_3, hl188_3, hi188_3⟩ := at_T51 HR0.out 0 p188 q188
                                    obtain rfl : ad181 = ad188 := (by injection e188)
                                    have qi188 : (0 < l0.length) = True := eq_true (by omega)
                                    (try rw [show ((0 : Int)).toNat = 0 from rfl] at hx188_0)
                                    (try rw [show 0 * 4 = 0 from rfl] at hx188_0)
                                    (try rw [Addr.add_zero'] at hx188_0)
                                    (try rw [show ((0 : Int)).toNat = 0 from rfl] at hx188_1)
                                    (try rw [show 0 * 4 = 0 from rfl] at hx188_1)
                                    (try rw [Addr.add_zero'] at hx188_1)
                                    (try rw [show ((0 : Int)).toNat = 0 from rfl] at hx188_2)
                                    (try rw [show 0 * 4 = 0 from rfl] at hx188_2)
                                    (try rw [Addr.add_zero'] at hx188_2)
                                    (try rw [show ((0 : Int)).toNat = 0 from rfl] at hx188_3)
                                    (try rw [show 0 * 4 = 0 from rfl] at hx188_3)
                                    (try rw [Addr.add_zero'] at hx188_3)
                                    have HR188_3 := Aside0.mk hi188_3
                                    have HC188_3 := Aside0.mk hl188_3
                                    clear hi188_3 hl188_3
                                    replace p188 := eq_true p188
                                    replace q188 := eq_true q188
                                    have p189 : 0 ≤ (0 : Int) := (by omega)
                                    have q189 : 0 < (l0.length : Int) := of_decide_eq_true (by first | (with_reducible assumption) | assumption)
                                    obtain ⟨ad189, A189_3, c189_3, e189, hx189_0, hx189_1, hx189_2, hx189_3, hl189_3, hi189_3⟩ := at_T51 HR0.out 0 p189 q189
                                    obtain rfl : ad181 = ad189 := (by injection e189)
                                    have qi189 : (0 < l0.length) = True := eq_true (by omega)
                                    (try rw [show ((0 : Int)).toNat = 0 from rfl] at hx189_0)
                                    (try rw [show 0 * 4 = 0 from rfl] at hx189_0)
                                    (try rw [Addr.add_zero'] at hx189_0)
                                    (try rw [show ((0 : Int)).toNat = 0 from rfl] at hx189_1)
                                    (try rw [show 0 * 4 = 0 from rfl] at hx189_1)
                                    (try rw [Addr.add_zero'] at hx189_1)
                                    (try rw [show ((0 : Int)).toNat = 0 from rfl] at hx189_2)
                                    (try rw [show 0 * 4 = 0 from rfl] at hx189_2)
                                    (try rw [Addr.add_zero'] at hx189_2)
                                    (try rw [show ((0 : Int)).toNat = 0 from rfl] at hx189_3)
                                    (try rw [show 0 * 4 = 0 from rfl] at hx189_3)
                                    (try rw [Addr.add_zero'] at hx189_3)
                                    have HR189_3 := Aside0.mk hi189_3
                                    have HC189_3 := Aside0.mk hl189_3
                                    clear hi189_3 hl189_3
                                    replace p189 := eq_true p189
                                    replace q189 := eq_true q189
                                    have ea_ := Option.some.inj (hx188_3.symm.trans hx189_3)
                                    injection ea_ with ea_ en_ ec_
                                    subst ea_
                                    subst ec_
                                    clear en_
                                    have p190 : 0 ≤ (x3_2 : Int) := of_decide_eq_true (by first | (with_reducible assumption) | assumption)
                                    have q190 : x3_2 < (((rd_T51 l0 0).f3).length : Int) := of_decide_eq_true (by first | (with_reducible assumption) | assumption)
                                    obtain ⟨ad190, A190_3, c190_3, e190, hx190_0, hx190_1, hx190_2, hx190_3, hl190_3, hi190_3⟩ := at_T133 HR189_3.out x3_2 p190 q190
                                    cases e190
                                    have HR190_3 := Aside0.mk hi190_3
                                    have HC190_3 := Aside0.mk hl190_3
                                    clear hi190_3 hl190_3
                                    replace p190 := eq_true p190
                                    replace q190 := eq_true q190
                                    have HRa191 := Aside0.mk (Kd.C_elem HR189_3.out (x3_2 : Int) (of_decide_eq_true (by first | (with_reducible assumption) | assumption)) (of_decide_eq_true (by first | (with_reducible assumption) | assumption)))
                                    go_wp2_with (first | (go_at_call 146; (with_reducible refine (spec_l7Message.calls k2 _ (((rd_T51 l0 0).f3).drop (x3_2 : Int).toNat).length (((rd_T51 l0 0).f3).drop (x3_2 : Int).toNat) t192 _ ?side1 ?side2 A15.out).mono ?_); (case side1 => repeat (first | exact HRa191.out | (with_reducible refine Kd.C_alloc ?_ _) | (with_reducible refine Kd.C_drewN ?_ _) | (with_reducible refine Kd.C_drew ?_))); (case side2 => exact Nat.le_refl _); rintro e w' ⟨rfl, ⟨nd, rfl⟩⟩; (try first | exact ⟨rfl, _, World.drewN_drewN _ _ _⟩ | exact ⟨rfl, _, Eq.trans (World.drewN_drewN _ _ _) (congrArg (World.drewN _) (Nat.add_assoc _ _ _))⟩); have p193 : 0 ≤ (0 : Int) := (by omega); have q193 : 0 < (l0.length : Int) := of_decide_eq_true (by first | (with_reducible assumption) | assumption); obtain ⟨ad193, A193_3, c193_3, e193, hx193_0, hx193_1, hx193_2, hx193_3, hl193_3, hi193_3⟩ := at_T51 HR0.out 0 p193 q193; obtain rfl : ad181 = ad193 := (by injection e193); have qi193 : (0 < l0.length) = True := eq_true (by omega); (try rw [show ((0 : Int)).toNat = 0 from rfl] at hx193_0); (try rw [show 0 * 4 = 0 from rfl] at hx193_0); (try rw [Addr.add_zero'] at hx193_0); (try rw [show ((0 : Int)).toNat = 0 from rfl] at hx193_1); (try rw [show 0 * 4 = 0 from rfl] at hx193_1); (try rw [Addr.add_zero'] at hx193_1); (try rw [show ((0 : Int)).toNat = 0 from rfl] at hx193_2); (try rw [show 0 * 4 = 0 from rfl] at hx193_2); (try rw [Addr.add_zero'] at hx193_2); (try rw [show ((0 : Int)).toNat = 0 from rfl] at hx193_3); (try rw [show 0 * 4 = 0 from rfl] at hx193_3); (try rw [Addr.add_zero'] at hx193_3); have HR193_3 := Aside0.mk hi193_3; have HC193_3 := Aside0.mk hl193_3; clear hi193_3 hl193_3; replace p193 := eq_true p193; replace q193 := eq_true q193; have ea_ := Option.some.inj (hx188_3.symm.trans hx193_3); injection ea_ with ea_ en_ ec_; subst ea_; subst ec_; clear en_; have p194 : 0 ≤ (x3_2 : Int) := of_decide_eq_true (by first | (with_reducible assumption) | assumption); have q194 : x3_2 < (((rd_T51 l0 0).f3).length : Int) := of_decide_eq_true (by first | (with_reducible assumption) | assumption); obtain ⟨ad194, A194_3, c194_3, e194, hx194_0, hx194_1, hx194_2, hx194_3, hl194_3, hi194_3⟩ := at_T133 HR193_3.out x3_2 p194 q194; cases e194; have HR194_3 := Aside0.mk hi194_3; have HC194_3 := Aside0.mk hl194_3; clear hi194_3 hl194_3; replace p194 := eq_true p194; replace q194 := eq_true q194; have p195 : 0 ≤ (0 : Int) := (by omega); have q195 : 0 < (l0.length : Int) := of_decide_eq_true (by first | (with_reducible assumption) | assumption); obtain ⟨ad195, A195_3, c195_3, e195, hx195_0, hx195_1, hx195_2, hx195_3, hl195_3, hi195_3⟩ := at_T51 HR0.out 0 p195 q195; obtain rfl : ad181 = ad195 := (by injection e195); have qi195 : (0 < l0.length) = True := eq_true (by omega); (try rw [show ((0 : Int)).toNat = 0 from rfl] at hx195_0); (try rw [show 0 * 4 = 0 from rfl] at hx195_0); (try rw [Addr.add_zero'] at hx195_0); (try rw [show ((0 : Int)).toNat = 0 from rfl] at hx195_1); (try rw [show 0 * 4 = 0 from rfl] at hx195_1); (try rw [Addr.add_zero'] at hx195_1); (try rw [show ((0 : Int)).toNat = 0 from rfl] at hx195_2); (try rw [show 0 * 4 = 0 from rfl] at hx195_2); (try rw [Addr.add_zero'] at hx195_2); (try rw [show ((0 : Int)).toNat = 0 from rfl] at hx195_3); (try rw [show 0 * 4 = 0 from rfl] at hx195_3); (try rw [Addr.add_zero'] at hx195_3); have HR195_3 := Aside0.mk hi195_3; have HC195_3 := Aside0.mk hl195_3; clear hi195_3 hl195_3; replace p195 := eq_true p195; replace q195 := eq_true q195; have ea_ := Option.some.inj (hx188_3.symm.trans hx195_3); injection ea_ with ea_ en_ ec_; subst ea_; subst ec_; clear en_; have p196 : 0 ≤ ((ji18) : Int) := of_decide_eq_true (by first | (with_reducible assumption) | assumption); have q196 : (ji18) < (((rd_T51 l0 0).f3).length : Int) := of_decide_eq_true (by first | (with_reducible assumption) | assumption); obtain ⟨ad196, A196_3, c196_3, e196, hx196_0, hx196_1, hx196_2, hx196_3, hl196_3, hi196_3⟩ := at_T133 HR195_3.out (ji18) p196 q196; cases e196; have HR196_3 := Aside0.mk hi196_3; have HC196_3 := Aside0.mk hl196_3; clear hi196_3 hl196_3; replace p196 := eq_true p196; replace q196 := eq_true q196))
                                    repeat (go_quiet (first | (go_at_call 146; (with_reducible refine (spec_l7Message.calls k2 _ (((rd_T51 l0 0).f3).drop (x3_2 : Int).toNat).length (((rd_T51 l0 0).f3).drop (x3_2 : Int).toNat) t192 _ ?side1 ?side2 A15.out).mono ?_); (case side1 => repeat (first | exact HRa191.out | (with_reducible refine Kd.C_alloc ?_ _) | (with_reducible refine Kd.C_drewN ?_ _) | (with_reducible refine Kd.C_drew ?_))); (case side2 => exact Nat.le_refl _); rintro e w' ⟨rfl, ⟨nd, rfl⟩⟩; (try first | exact ⟨rfl, _, World.drewN_drewN _ _ _⟩ | exact ⟨rfl, _, Eq.trans (World.drewN_drewN _ _ _) (congrArg (World.drewN _) (Nat.add_assoc _ _ _))⟩); have p193 : 0 ≤ (0 : Int) := (by omega); have q193 : 0 < (l0.length : Int) := of_decide_eq_true (by first | (with_reducible assumption) | assumption); obtain ⟨ad193, A193_3, c193_3, e193, hx193_0, hx193_1, hx193_2, hx193_3, hl193_3, hi193_3⟩ := at_T51 HR0.out 0 p193 q193; obtain rfl : ad181 = ad193 := (by injection e193); have qi193 : (0 < l0.length) = True := eq_true (by omega); (try rw [show ((0 : Int)).toNat = 0 from rfl] at hx193_0); (try rw [show 0 * 4 = 0 from rfl] at hx193_0); (try rw [Addr.add_zero'] at hx193_0); (try rw [show ((0 : Int)).toNat = 0 from rfl] at hx193_1); (try rw [show 0 * 4 = 0 from rfl] at hx193_1); (try rw [Addr.add_zero'] at hx193_1); (try rw [show ((0 : Int)).toNat = 0 from rfl] at hx193_2); (try rw [show 0 * 4 = 0 from rfl] at hx193_2); (try rw [Addr.add_zero'] at hx193_2); (try rw [show ((0 : Int)).toNat = 0 from rfl] at hx193_3); (try rw [show 0 * 4 = 0 from rfl] at hx193_3); (try rw [Addr.add_zero'] at hx193_3); have HR193_3 := Aside0.mk hi193_3; have HC193_3 := Aside0.mk hl193_3; clear hi193_3 hl193_3; replace p193 := eq_true p193; replace q193 := eq_true q193; have ea_ := Option.some.inj (hx188_3.symm.trans hx193_3); injection ea_ with ea_ en_ ec_; subst ea_; subst ec_; clear en_; have p194 : 0 ≤ (x3_2 : Int) := of_decide_eq_true (by first | (with_reducible assumption) | assumption); have q194 : x3_2 < (((rd_T51 l0 0).f3).length : Int) := of_decide_eq_true (by first | (with_reducible assumption) | assumption); obtain ⟨ad194, A194_3, c194_3, e194, hx194_0, hx194_1, hx194_2, hx194_3, hl194_3, hi194_3⟩ := at_T133 HR193_3.out x3_2 p194 q194; cases e194; have HR194_3 := Aside0.mk hi194_3; have HC194_3 := Aside0.mk hl194_3; clear hi194_3 hl194_3; replace p194 := eq_true p194; replace q194 := eq_true q194; have p195 : 0 ≤ (0 : Int) := (by omega); have q195 : 0 < (l0.length : Int) := of_decide_eq_true (by first | (with_reducible assumption) | assumption); obtain ⟨ad195, A195_3, c195_3, e195, hx195_0, hx195_1, hx195_2, hx195_3, hl195_3, hi195_3⟩ := at_T51 HR0.out 0 p195 q195; obtain rfl : ad181 = ad195 := (by injection e195); have qi195 : (0 < l0.length) = True := eq_true (by omega); (try rw [show ((0 : Int)).toNat = 0 from rfl] at hx195_0); (try rw [show 0 * 4 = 0 from rfl] at hx195_0); (try rw [Addr.add_zero'] at hx195_0); (try rw [show ((0 : Int)).toNat = 0 from rfl] at hx195_1); (try rw [show 0 * 4 = 0 from rfl] at hx195_1); (try rw [Addr.add_zero'] at hx195_1); (try rw [show ((0 : Int)).toNat = 0 from rfl] at hx195_2); (try rw [show 0 * 4 = 0 from rfl] at hx195_2); (try rw [Addr.add_zero'] at hx195_2); (try rw [show ((0 : Int)).toNat = 0 from rfl] at hx195_3); (try rw [show 0 * 4 = 0 from rfl] at hx195_3); (try rw [Addr.add_zero'] at hx195_3); have HR195_3 := Aside0.mk hi195_3; have HC195_3 := Aside0.mk hl195_3; clear hi195_3 hl195_3; replace p195 := eq_true p195; replace q195 := eq_true q195; have ea_ := Option.some.inj (hx188_3.symm.trans hx195_3); injection ea_ with ea_ en_ ec_; subst ea_; subst ec_; clear en_; have p196 : 0 ≤ ((ji18) : Int) := of_decide_eq_true (by first | (with_reducible assumption) | assumption); have q196 : (ji18) < (((rd_T51 l0 0).f3).length : Int) := of_decide_eq_true (by first | (with_reducible assumption) | assumption); obtain ⟨ad196, A196_3, c196_3, e196, hx196_0, hx196_1, hx196_2, hx196_3, hl196_3, hi196_3⟩ := at_T133 HR195_3.out (ji18) p196 q196; cases e196; have HR196_3 := Aside0.mk hi196_3; have HC196_3 := Aside0.mk hl196_3; clear hi196_3 hl196_3; replace p196 := eq_true p196; replace q196 := eq_true q196)); try go_wp2_with (first | (go_at_call 146; (with_reducible refine (spec_l7Message.calls k2 _ (((rd_T51 l0 0).f3).drop (x3_2 : Int).toNat).length (((rd_T51 l0 0).f3).drop (x3_2 : Int).toNat) t192 _ ?side1 ?side2 A15.out).mono ?_); (case side1 => repeat (first | exact HRa191.out | (with_reducible refine Kd.C_alloc ?_ _) | (with_reducible refine Kd.C_drewN ?_ _) | (with_reducible refine Kd.C_drew ?_))); (case side2 => exact Nat.le_refl _); rintro e w' ⟨rfl, ⟨nd, rfl⟩⟩; (try first | exact ⟨rfl, _, World.drewN_drewN _ _ _⟩ | exact ⟨rfl, _, Eq.trans (World.drewN_drewN _ _ _) (congrArg (World.drewN _) (Nat.add_assoc _ _ _))⟩); have p193 : 0 ≤ (0 : Int) := (by omega); have q193 : 0 < (l0.length : Int) := of_decide_eq_true (by first | (with_reducible assumption) | assumption); obtain ⟨ad193, A193_3, c193_3, e193, hx193_0, hx193_1, hx193_2, hx193_3, hl193_3, hi193_3⟩ := at_T51 HR0.out 0 p193 q193; obtain rfl : ad181 = ad193 := (by injection e193); have qi193 : (0 < l0.length) = True := eq_true (by omega); (try rw [show ((0 : Int)).toNat = 0 from rfl] at hx193_0); (try rw [show 0 * 4 = 0 from rfl] at hx193_0); (try rw [Addr.add_zero'] at hx193_0); (try rw [show ((0 : Int)).toNat = 0 from rfl] at hx193_1); (try rw [show 0 * 4 = 0 from rfl] at hx193_1); (try rw [Addr.add_zero'] at hx193_1); (try rw [show ((0 : Int)).toNat = 0 from rfl] at hx193_2); (try rw [show 0 * 4 = 0 from rfl] at hx193_2); (try rw [Addr.add_zero'] at hx193_2); (try rw [show ((0 : Int)).toNat = 0 from rfl] at hx193_3); (try rw [show 0 * 4 = 0 from rfl] at hx193_3); (try rw [Addr.add_zero'] at hx193_3); have HR193_3 := Aside0.mk hi193_3; have HC193_3 := Aside0.mk hl193_3; clear hi193_3 hl193_3; replace p193 := eq_true p193; replace q193 := eq_true q193; have ea_ := Option.some.inj (hx188_3.symm.trans hx193_3); injection ea_ with ea_ en_ ec_; subst ea_; subst ec_; clear en_; have p194 : 0 ≤ (x3_2 : Int) := of_decide_eq_true (by first | (with_reducible assumption) | assumption); have q194 : x3_2 < (((rd_T51 l0 0).f3).length : Int) := of_decide_eq_true (by first | (with_reducible assumption) | assumption); obtain ⟨ad194, A194_3, c194_3, e194, hx194_0, hx194_1, hx194_2, hx194_3, hl194_3, hi194_3⟩ := at_T133 HR193_3.out x3_2 p194 q194; cases e194; have HR194_3 := Aside0.mk hi194_3; have HC194_3 := Aside0.mk hl194_3; clear hi194_3 hl194_3; replace p194 := eq_true p194; replace q194 := eq_true q194; have p195 : 0 ≤ (0 : Int) := (by omega); have q195 : 0 < (l0.length : Int) := of_decide_eq_true (by first | (with_reducible assumption) | assumption); obtain ⟨ad195, A195_3, c195_3, e195, hx195_0, hx195_1, hx195_2, hx195_3, hl195_3, hi195_3⟩ := at_T51 HR0.out 0 p195 q195; obtain rfl : ad181 = ad195 := (by injection e195); have qi195 : (0 < l0.length) = True := eq_true (by omega); (try rw [show ((0 : Int)).toNat = 0 from rfl] at hx195_0); (try rw [show 0 * 4 = 0 from rfl] at hx195_0); (try rw [Addr.add_zero'] at hx195_0); (try rw [show ((0 : Int)).toNat = 0 from rfl] at hx195_1); (try rw [show 0 * 4 = 0 from rfl] at hx195_1); (try rw [Addr.add_zero'] at hx195_1); (try rw [show ((0 : Int)).toNat = 0 from rfl] at hx195_2); (try rw [show 0 * 4 = 0 from rfl] at hx195_2); (try rw [Addr.add_zero'] at hx195_2); (try rw [show ((0 : Int)).toNat = 0 from rfl] at hx195_3); (try rw [show 0 * 4 = 0 from rfl] at hx195_3); (try rw [Addr.add_zero'] at hx195_3); have HR195_3 := Aside0.mk hi195_3; have HC195_3 := Aside0.mk hl195_3; clear hi195_3 hl195_3; replace p195 := eq_true p195; replace q195 := eq_true q195; have ea_ := Option.some.inj (hx188_3.symm.trans hx195_3); injection ea_ with ea_ en_ ec_; subst ea_; subst ec_; clear en_; have p196 : 0 ≤ ((ji18) : Int) := of_decide_eq_true (by first | (with_reducible assumption) | assumption); have q196 : (ji18) < (((rd_T51 l0 0).f3).length : Int) := of_decide_eq_true (by first | (with_reducible assumption) | assumption); obtain ⟨ad196, A196_3, c196_3, e196, hx196_0, hx196_1, hx196_2, hx196_3, hl196_3, hi196_3⟩ := at_T133 HR195_3.out (ji18) p196 q196; cases e196; have HR196_3 := Aside0.mk hi196_3; have HC196_3 := Aside0.mk hl196_3; clear hi196_3 hl196_3; replace p196 := eq_true p196; replace q196 := eq_true q196)))
                                    go_ret
                                    exact ⟨by first | rfl | (simp; done) | (simp only [← hji18] <;> (first | rfl | simp)) | (simp [*]; done), by repeat (first | exact Drawn0.refl _ | apply Drawn0.step)⟩
                                  · rw [if_neg c21] at H
                                    have c21b0 : decide (((rd_T133 ((rd_T51 l0 0).f3) x3_2).f0) ≤ ((rd_T133 ((rd_T51 l0 0).f3) (ji18)).f0)) = false := decide_eq_false c21
                                    clear c21
                                    by_cases c22 : ((rd_T133 ((rd_T51 l0 0).f3) x3_2).f0) ≥ ((rd_T51 l0 0).f2)
                                    · rw [if_pos c22] at H
                                      have c22b0 : decide (((rd_T51 l0 0).f2) ≤ ((rd_T133 ((rd_T51 l0 0).f3) x3_2).f0)) = true := decide_eq_true c22
                                      clear c22
                                      obtain rfl := Option.some.inj H
                                      have p188 : 0 ≤ (0 : Int) := (by omega)
                                      have q188 : 0 < (l0.length : Int) := of_decide_eq_true (by first | (with_reducible assumption) | assumption)
                                      obtain ⟨ad188, A188_3, c188_3, e188, hx188_0, hx188_1, hx188_2, hx188_3, hl188_3, hi188_3⟩ := at_T51 HR0.out 0 p188 q188
                                      obtain rfl : ad181 = ad188 := (by injection e188)
                                      have qi188 : (0 < l0.length) = True := eq_true (by omega)
                                      (try rw [show ((0 : Int)).toNat = 0 from rfl] at hx188_0)
                                      (try rw [show 0 * 4 = 0 from rfl] at hx188_0)
                                      (try rw [Addr.add_zero'] at hx188_0)
                                      (try rw [show ((0 : Int)).toNat = 0 from rfl] at hx188_1)
                                      (try rw [show 0 * 4 = 0 from rfl] at hx188_1)
                                      (try rw [Addr.add_zero'] at hx188_1)
                                      (try rw [show ((0 : Int)).toNat = 0 from rfl] at hx188_2)
                                      (try rw [show 0 * 4 = 0 from rfl] at hx188_2)
                                      (try rw [Addr.add_zero'] at hx188_2)
                                      (try rw [show ((0 : Int)).toNat = 0 from rfl] at hx188_3)
                                      (try rw [show 0 * 4 = 0 from rfl] at hx188_3)
                                      (try rw [Addr.add_zero'] at hx188_3)
                                      have HR188_3 := Aside0.mk hi188_3
                                      have HC188_3 := Aside0.mk hl188_3
                                      clear hi188_3 hl188_3
                                      replace p188 := eq_true p188
                                      replace q188 := eq_true q188
                                      have p189 : 0 ≤ (0 : Int) := (by omega)
                                      have q189 : 0 < (l0.length : Int) := of_decide_eq_true (by first | (with_reducible assumption) | assumption)
                                      obtain ⟨ad189, A189_3, c189_3, e189, hx189_0, hx189_1, hx189_2, hx189_3, hl189_3, hi189_3⟩ := at_T51 HR0.out 0 p189 q189
                                      obtain rfl : ad181 = ad189 := (by injection e189)
                                      have qi189 : (0 < l0.length) = True := eq_true (by omega)
                                      (try rw [show ((0 : Int)).toNat = 0 from rfl] at hx189_0)
                                      (try rw [show 0 * 4 = 0 from rfl] at hx189_0)
                                      (try rw [Addr.add_zero'] at hx189_0)
                                      (try rw [show ((0 : Int)).toNat = 0 from rfl] at hx189_1)
                                      (try rw [show 0 * 4 = 0 from rfl] at hx189_1)
                                      (try rw [Addr.add_zero'] at hx189_1)
                                      (try rw [show ((0 : Int)).toNat = 0 from rfl] at hx189_2)
                                      (try rw [show 0 * 4 = 0 from rfl] at hx189_2)
                                      (try rw [Addr.add_zero'] at hx189_2)
                                      (try rw [show ((0 : Int)).toNat = 0 from rfl] at hx189_3)
                                      (try rw [show 0 * 4 = 0 from rfl] at hx189_3)
                                      (try rw [Addr.add_zero'] at hx189_3)
                                      have HR189_3 := Aside0.mk hi189_3
                                      have HC189_3 := Aside0.mk hl189_3
                                      clear hi189_3 hl189_3
                                      replace p189 := eq_true p189
                                      replace q189 := eq_true q189
                                      have ea_ := Option.some.inj (hx188_3.symm.trans hx189_3)
                                      injection ea_ with ea_ en_ ec_
                                      subst ea_
                                      subst ec_
                                      clear en_
                                      have p190 : 0 ≤ (x3_2 : Int) := of_decide_eq_true (by first | (with_reducible assumption) | assumption)
                                      have q190 : x3_2 < (((rd_T51 l0 0).f3).length : Int) := of_decide_eq_true (by first | (with_reducible assumption) | assumption)
                                      obtain ⟨ad190, A190_3, c190_3, e190, hx190_0, hx190_1, hx190_2, hx190_3, hl190_3, hi190_3⟩ := at_T133 HR189_3.out x3_2 p190 q190
                                      cases e190
                                      have HR190_3 := Aside0.mk hi190_3
                                      have HC190_3 := Aside0.mk hl190_3
                                      clear hi190_3 hl190_3
                                      replace p190 := eq_true p190
                                      replace q190 := eq_true q190
                                      have HRa191 := Aside0.mk (Kd.C_elem HR189_3.out (x3_2 : Int) (of_decide_eq_true (by first | (with_reducible assumption) | assumption)) (of_decide_eq_true (by first | (with_reducible assumption) | assumption)))
                                      go_wp2_with (first | (go_at_call 146; (with_reducible refine (spec_l7Message.calls k2 _ (((rd_T51 l0 0).f3).drop (x3_2 : Int).toNat).length (((rd_T51 l0 0).f3).drop (x3_2 : Int).toNat) t192 _ ?side1 ?side2 A15.out).mono ?_); (case side1 => repeat (first | exact HRa191.out | (with_reducible refine Kd.C_alloc ?_ _) | (with_reducible refine Kd.C_drewN ?_ _) | (with_reducible refine Kd.C_drew ?_))); (case side2 => exact Nat.le_refl _); rintro e w' ⟨rfl, ⟨nd, rfl⟩⟩; (try first | exact ⟨rfl, _, World.drewN_drewN _ _ _⟩ | exact ⟨rfl, _, Eq.trans (World.drewN_drewN _ _ _) (congrArg (World.drewN _) (Nat.add_assoc _ _ _))⟩); have p193 : 0 ≤ (0 : Int) := (by omega); have q193 : 0 < (l0.length : Int) := of_decide_eq_true (by first | (with_reducible assumption) | assumption); obtain ⟨ad193, A193_3, c193_3, e193, hx193_0, hx193_1, hx193_2, hx193_3, hl193_3, hi193_3⟩ := at_T51 HR0.out 0 p193 q193; obtain rfl : ad181 = ad193 := (by injection e193); have qi193 : (0 < l0.length) = True := eq_true (by omega); (try rw [show ((0 : Int)).toNat = 0 from rfl] at hx193_0); (try rw [show 0 * 4 = 0 from rfl] at hx193_0); (try rw [Addr.add_zero'] at hx193_0); (try rw [show ((0 : Int)).toNat = 0 from rfl] at hx193_1); (try rw [show 0 * 4 = 0 from rfl] at hx193_1); (try rw [Addr.add_zero'] at hx193_1); (try rw [show ((0 : Int)).toNat = 0 from rfl] at hx193_2); (try rw [show 0 * 4 = 0 from rfl] at hx193_2); (try rw [Addr.add_zero'] at hx193_2); (try rw [show ((0 : Int)).toNat = 0 from rfl] at hx193_3); (try rw [show 0 * 4 = 0 from rfl] at hx193_3); (try rw [Addr.add_zero'] at hx193_3); have HR193_3 := Aside0.mk hi193_3; have HC193_3 := Aside0.mk hl193_3; clear hi193_3 hl193_3; replace p193 := eq_true p193; replace q193 := eq_true q193; have ea_ := Option.some.inj (hx188_3.symm.trans hx193_3); injection ea_ with ea_ en_ ec_; subst ea_; subst ec_; clear en_; have p194 : 0 ≤ (x3_2 : Int) := of_decide_eq_true (by first | (with_reducible assumption) | assumption); have q194 : x3_2 < (((rd_T51 l0 0).f3).length : Int) := of_decide_eq_true (by first | (with_reducible assumption) | assumption); obtain ⟨ad194, A194_3, c194_3, e194, hx194_0, hx194_1, hx194_2, hx194_3, hl194_3, hi194_3⟩ := at_T133 HR193_3.out x3_2 p194 q194; cases e194; have HR194_3 := Aside0.mk hi194_3; have HC194_3 := Aside0.mk hl194_3; clear hi194_3 hl194_3; replace p194 := eq_true p194; replace q194 := eq_true q194; have p195 : 0 ≤ (0 : Int) := (by omega); have q195 : 0 < (l0.length : Int) := of_decide_eq_true (by first | (with_reducible assumption) | assumption); obtain ⟨ad195, A195_3, c195_3, e195, hx195_0, hx195_1, hx195_2, hx195_3, hl195_3, hi195_3⟩ := at_T51 HR0.out 0 p195 q195; obtain rfl : ad181 = ad195 := (by injection e195); have qi195 : (0 < l0.length) = True := eq_true (by omega); (try rw [show ((0 : Int)).toNat = 0 from rfl] at hx195_0); (try rw [show 0 * 4 = 0 from rfl] at hx195_0); (try rw [Addr.add_zero'] at hx195_0); (try rw [show ((0 : Int)).toNat = 0 from rfl] at hx195_1); (try rw [show 0 * 4 = 0 from rfl] at hx195_1); (try rw [Addr.add_zero'] at hx195_1); (try rw [show ((0 : Int)).toNat = 0 from rfl] at hx195_2); (try rw [show 0 * 4 = 0 from rfl] at hx195_2); (try rw [Addr.add_zero'] at hx195_2); (try rw [show ((0 : Int)).toNat = 0 from rfl] at hx195_3); (try rw [show 0 * 4 = 0 from rfl] at hx195_3); (try rw [Addr.add_zero'] at hx195_3); have HR195_3 := Aside0.mk hi195_3; have HC195_3 := Aside0.mk hl195_3; clear hi195_3 hl195_3; replace p195 := eq_true p195; replace q195 := eq_true q195; have ea_ := Option.some.inj (hx188_3.symm.trans hx195_3); injection ea_ with ea_ en_ ec_; subst ea_; subst ec_; clear en_; have p196 : 0 ≤ ((ji18) : Int) := of_decide_eq_true (by first | (with_reducible assumption) | assumption); have q196 : (ji18) < (((rd_T51 l0 0).f3).length : Int) := of_decide_eq_true (by first | (with_reducible assumption) | assumption); obtain ⟨ad196, A196_3, c196_3, e196, hx196_0, hx196_1, hx196_2, hx196_3, hl196_3, hi196_3⟩ := at_T133 HR195_3.out (ji18) p196 q196; cases e196; have HR196_3 := Aside0.mk hi196_3; have HC196_3 := Aside0.mk hl196_3; clear hi196_3 hl196_3; replace p196 := eq_true p196; replace q196 := eq_true q196; have p197 : 0 ≤ (0 : Int) := (by omega); have q197 : 0 < (l0.length : Int) := of_decide_eq_true (by first | (with_reducible assumption) | assumption); obtain ⟨ad197, A197_3, c197_3, e197, hx197_0, hx197_1, hx197_2, hx197_3, hl197_3, hi197_3⟩ := at_T51 HR0.out 0 p197 q197; obtain rfl : ad181 = ad197 := (by injection e197); have qi197 : (0 < l0.length) = True := eq_true (by omega); (try rw [show ((0 : Int)).toNat = 0 from rfl] at hx197_0); (try rw [show 0 * 4 = 0 from rfl] at hx197_0); (try rw [Addr.add_zero'] at hx197_0); (try rw [show ((0 : Int)).toNat = 0 from rfl] at hx197_1); (try rw [show 0 * 4 = 0 from rfl] at hx197_1); (try rw [Addr.add_zero'] at hx197_1); (try rw [show ((0 : Int)).toNat = 0 from rfl] at hx197_2); (try rw [show 0 * 4 = 0 from rfl] at hx197_2); (try rw [Addr.add_zero'] at hx197_2); (try rw [show ((0 : Int)).toNat = 0 from rfl] at hx197_3); (try rw [show 0 * 4 = 0 from rfl] at hx197_3); (try rw [Addr.add_zero'] at hx197_3); have HR197_3 := Aside0.mk hi197_3; have HC197_3 := Aside0.mk hl197_3; clear hi197_3 hl197_3; replace p197 := eq_true p197; replace q197 := eq_true q197; have ea_ := Option.some.inj (hx188_3.symm.trans hx197_3); injection ea_ with ea_ en_ ec_; subst ea_; subst ec_; clear en_; have p198 : 0 ≤ (x3_2 : Int) := of_decide_eq_true (by first | (with_reducible assumption) | assumption); have q198 : x3_2 < (((rd_T51 l0 0).f3).length : Int) := of_decide_eq_true (by first | (with_reducible assumption) | assumption); obtain ⟨ad198, A198_3, c198_3, e198, hx198_0, hx198_1, hx198_2, hx198_3, hl198_3, hi198_3⟩ := at_T133 HR197_3.out x3_2 p198 q198; cases e198; have HR198_3 := Aside0.mk hi198_3; have HC198_3 := Aside0.mk hl198_3; clear hi198_3 hl198_3; replace p198 := eq_true p198; replace q198 := eq_true q198; have p199 : 0 ≤ (0 : Int) := (by omega); have q199 : 0 < (l0.length : Int) := of_decide_eq_true (by first | (with_reducible assumption) | assumption); obtain ⟨ad199, A199_3, c199_3, e199, hx199_0, hx199_1, hx199_2, hx199_3, hl199_3, hi199_3⟩ := at_T51 HR0.out 0 p199 q199; obtain rfl : ad181 = ad199 := (by injection e199); have qi199 : (0 < l0.length) = True := eq_true (by omega); (try rw [show ((0 : Int)).toNat = 0 from rfl] at hx199_0); (try rw [show 0 * 4 = 0 from rfl] at hx199_0); (try rw [Addr.add_zero'] at hx199_0); (try rw [show ((0 : Int)).toNat = 0 from rfl] at hx199_1); (try rw [show 0 * 4 = 0 from rfl] at hx199_1); (try rw [Addr.add_zero'] at hx199_1); (try rw [show ((0 : Int)).toNat = 0 from rfl] at hx199_2); (try rw [show 0 * 4 = 0 from rfl] at hx199_2); (try rw [Addr.add_zero'] at hx199_2); (try rw [show ((0 : Int)).toNat = 0 from rfl] at hx199_3); (try rw [show 0 * 4 = 0 from rfl] at hx199_3); (try rw [Addr.add_zero'] at hx199_3); have HR199_3 := Aside0.mk hi199_3; have HC199_3 := Aside0.mk hl199_3; clear hi199_3 hl199_3; replace p199 := eq_true p199; replace q199 := eq_true q199; have ea_ := Option.some.inj (hx188_3.symm.trans hx199_3); injection ea_ with ea_ en_ ec_; subst ea_; subst ec_; clear en_))
                                      repeat (go_quiet (first | (go_at_call 146; (with_reducible refine (spec_l7Message.calls k2 _ (((rd_T51 l0 0).f3).drop (x3_2 : Int).toNat).length (((rd_T51 l0 0).f3).drop (x3_2 : Int).toNat) t192 _ ?side1 ?side2 A15.out).mono ?_); (case side1 => repeat (first | exact HRa191.out | (with_reducible refine Kd.C_alloc ?_ _) | (with_reducible refine Kd.C_drewN ?_ _) | (with_reducible refine Kd.C_drew ?_))); (case side2 => exact Nat.le_refl _); rintro e w' ⟨rfl, ⟨nd, rfl⟩⟩; (try first | exact ⟨rfl, _, World.drewN_drewN _ _ _⟩ | exact ⟨rfl, _, Eq.trans (World.drewN_drewN _ _ _) (congrArg (World.drewN _) (Nat.add_assoc _ _ _))⟩); have p193 : 0 ≤ (0 : Int) := (by omega); have q193 : 0 < (l0.length : Int) := of_decide_eq_true (by first | (with_reducible assumption) | assumption); obtain ⟨ad193, A193_3, c193_3, e193, hx193_0, hx193_1, hx193_2, hx193_3, hl193_3, hi193_3⟩ := at_T51 HR0.out 0 p193 q193; obtain rfl : ad181 = ad193 := (by injection e193); have qi193 : (0 < l0.length) = True := eq_true (by omega); (try rw [show ((0 : Int)).toNat = 0 from rfl] at hx193_0); (try rw [show 0 * 4 = 0 from rfl] at hx193_0); (try rw [Addr.add_zero'] at hx193_0); (try rw [show ((0 : Int)).toNat = 0 from rfl] at hx193_1); (try rw [show 0 * 4 = 0 from rfl] at hx193_1); (try rw [Addr.add_zero'] at hx193_1); (try rw [show ((0 : Int)).toNat = 0 from rfl] at hx193_2); (try rw [show 0 * 4 = 0 from rfl] at hx193_2); (try rw [Addr.add_zero'] at hx193_2); (try rw [show ((0 : Int)).toNat = 0 from rfl] at hx193_3); (try rw [show 0 * 4 = 0 from rfl] at hx193_3); (try rw [Addr.add_zero'] at hx193_3); have HR193_3 := Aside0.mk hi193_3; have HC193_3 := Aside0.mk hl193_3; clear hi193_3 hl193_3; replace p193 := eq_true p193; replace q193 := eq_true q193; have ea_ := Option.some.inj (hx188_3.symm.trans hx193_3); injection ea_ with ea_ en_ ec_; subst ea_; subst ec_; clear en_; have p194 : 0 ≤ (x3_2 : Int) := of_decide_eq_true (by first | (with_reducible assumption) | assumption); have q194 : x3_2 < (((rd_T51 l0 0).f3).length : Int) := of_decide_eq_true (by first | (with_reducible assumption) | assumption); obtain ⟨ad194, A194_3, c194_3, e194, hx194_0, hx194_1, hx194_2, hx194_3, hl194_3, hi194_3⟩ := at_T133 HR193_3.out x3_2 p194 q194; cases e194; have HR194_3 := Aside0.mk hi194_3; have HC194_3 := Aside0.mk hl194_3; clear hi194_3 hl194_3; replace p194 := eq_true p194; replace q194 := eq_true q194; have p195 : 0 ≤ (0 : Int) := (by omega); have q195 : 0 < (l0.length : Int) := of_decide_eq_true (by first | (with_reducible assumption) | assumption); obtain ⟨ad195, A195_3, c195_3, e195, hx195_0, hx195_1, hx195_2, hx195_3, hl195_3, hi195_3⟩ := at_T51 HR0.out 0 p195 q195; obtain rfl : ad181 = ad195 := (by injection e195); have qi195 : (0 < l0.length) = True := eq_true (by omega); (try rw [show ((0 : Int)).toNat = 0 from rfl] at hx195_0); (try rw [show 0 * 4 = 0 from rfl] at hx195_0); (try rw [Addr.add_zero'] at hx195_0); (try rw [show ((0 : Int)).toNat = 0 from rfl] at hx195_1); (try rw [show 0 * 4 = 0 from rfl] at hx195_1); (try rw [Addr.add_zero'] at hx195_1); (try rw [show ((0 : Int)).toNat = 0 from rfl] at hx195_2); (try rw [show 0 * 4 = 0 from rfl] at hx195_2); (try rw [Addr.add_zero'] at hx195_2); (try rw [show ((0 : Int)).toNat = 0 from rfl] at hx195_3); (try rw [show 0 * 4 = 0 from rfl] at hx195_3); (try rw [Addr.add_zero'] at hx195_3); have HR195_3 := Aside0.mk hi195_3; have HC195_3 := Aside0.mk hl195_3; clear hi195_3 hl195_3; replace p195 := eq_true p195; replace q195 := eq_true q195; have ea_ := Option.some.inj (hx188_3.symm.trans hx195_3); injection ea_ with ea_ en_ ec_; subst ea_; subst ec_; clear en_; have p196 : 0 ≤ ((ji18) : Int) := of_decide_eq_true (by first | (with_reducible assumption) | assumption); have q196 : (ji18) < (((rd_T51 l0 0).f3).length : Int) := of_decide_eq_true (by first | (with_reducible assumption) | assumption); obtain ⟨ad196, A196_3, c196_3, e196, hx196_0, hx196_1, hx196_2, hx196_3, hl196_3, hi196_3⟩ := at_T133 HR195_3.out (ji18) p196 q196; cases e196; have HR196_3 := Aside0.mk hi196_3; have HC196_3 := Aside0.mk hl196_3; clear hi196_3 hl196_3; replace p196 := eq_true p196; replace q196 := eq_true q196; have p197 : 0 ≤ (0 : Int) := (by omega); have q197 : 0 < (l0.length : Int) := of_decide_eq_true (by first | (with_reducible assumption) | assumption); obtain ⟨ad197, A197_3, c197_3, e197, hx197_0, hx197_1, hx197_2, hx197_3, hl197_3, hi197_3⟩ := at_T51 HR0.out 0 p197 q197; obtain rfl : ad181 = ad197 := (by injection e197); have qi197 : (0 < l0.length) = True := eq_true (by omega); (try rw [show ((0 : Int)).toNat = 0 from rfl] at hx197_0); (try rw [show 0 * 4 = 0 from rfl] at hx197_0); (try rw [Addr.add_zero'] at hx197_0); (try rw [show ((0 : Int)).toNat = 0 from rfl] at hx197_1); (try rw [show 0 * 4 = 0 from rfl] at hx197_1); (try rw [Addr.add_zero'] at hx197_1); (try rw [show ((0 : Int)).toNat = 0 from rfl] at hx197_2); (try rw [show 0 * 4 = 0 from rfl] at hx197_2); (try rw [Addr.add_zero'] at hx197_2); (try rw [show ((0 : Int)).toNat = 0 from rfl] at hx197_3); (try rw [show 0 * 4 = 0 from rfl] at hx197_3); (try rw [Addr.add_zero'] at hx197_3); have HR197_3 := Aside0.mk hi197_3; have HC197_3 := Aside0.mk hl197_3; clear hi197_3 hl197_3; replace p197 := eq_true p197; replace q197 := eq_true q197; have ea_ := Option.some.inj (hx188_3.symm.trans hx197_3); injection ea_ with ea_ en_ ec_; subst ea_; subst ec_; clear en_; have p198 : 0 ≤ (x3_2 : Int) := of_decide_eq_true (by first | (with_reducible assumption) | assumption); have q198 : x3_2 < (((rd_T51 l0 0).f3).length : Int) := of_decide_eq_true (by first | (with_reducible assumption) | assumption); obtain ⟨ad198, A198_3, c198_3, e198, hx198_0, hx198_1, hx198_2, hx198_3, hl198_3, hi198_3⟩ := at_T133 HR197_3.out x3_2 p198 q198; cases e198; have HR198_3 := Aside0.mk hi198_3; have HC198_3 := Aside0.mk hl198_3; clear hi198_3 hl198_3; replace p198 := eq_true p198; replace q198 := eq_true q198; have p199 : 0 ≤ (0 : Int) := (by omega); have q199 : 0 < (l0.length : Int) := of_decide_eq_true (by first | (with_reducible assumption) | assumption); obtain ⟨ad199, A199_3, c199_3, e199, hx199_0, hx199_1, hx199_2, hx199_3, hl199_3, hi199_3⟩ := at_T51 HR0.out 0 p199 q199; obtain rfl : ad181 = ad199 := (by injection e199); have qi199 : (0 < l0.length) = True := eq_true (by omega); (try rw [show ((0 : Int)).toNat = 0 from rfl] at hx199_0); (try rw [show 0 * 4 = 0 from rfl] at hx199_0); (try rw [Addr.add_zero'] at hx199_0); (try rw [show ((0 : Int)).toNat = 0 from rfl] at hx199_1); (try rw [show 0 * 4 = 0 from rfl] at hx199_1); (try rw [Addr.add_zero'] at hx199_1); (try rw [show ((0 : Int)).toNat = 0 from rfl] at hx199_2); (try rw [show 0 * 4 = 0 from rfl] at hx199_2); (try rw [Addr.add_zero'] at hx199_2); (try rw [show ((0 : Int)).toNat = 0 from rfl] at hx199_3); (try rw [show 0 * 4 = 0 from rfl] at hx199_3); (try rw [Addr.add_zero'] at hx199_3); have HR199_3 := Aside0.mk hi199_3; have HC199_3 := Aside0.mk hl199_3; clear hi199_3 hl199_3; replace p199 := eq_true p199; replace q199 := eq_true q199; have ea_ := Option.some.inj (hx188_3.symm.trans hx199_3); injection ea_ with ea_ en_ ec_; subst ea_; subst ec_; clear en_)); try go_wp2_with (first | (go_at_call 146; (with_reducible refine (spec_l7Message.calls k2 _ (((rd_T51 l0 0).f3).drop (x3_2 : Int).toNat).length (((rd_T51 l0 0).f3).drop (x3_2 : Int).toNat) t192 _ ?side1 ?side2 A15.out).mono ?_); (case side1 => repeat (first | exact HRa191.out | (with_reducible refine Kd.C_alloc ?_ _) | (with_reducible refine Kd.C_drewN ?_ _) | (with_reducible refine Kd.C_drew ?_))); (case side2 => exact Nat.le_refl _); rintro e w' ⟨rfl, ⟨nd, rfl⟩⟩; (try first | exact ⟨rfl, _, World.drewN_drewN _ _ _⟩ | exact ⟨rfl, _, Eq.trans (World.drewN_drewN _ _ _) (congrArg (World.drewN _) (Nat.add_assoc _ _ _))⟩); have p193 : 0 ≤ (0 : Int) := (by omega); have q193 : 0 < (l0.length : Int) := of_decide_eq_true (by first | (with_reducible assumption) | assumption); obtain ⟨ad193, A193_3, c193_3, e193, hx193_0, hx193_1, hx193_2, hx193_3, hl193_3, hi193_3⟩ := at_T51 HR0.out 0 p193 q193; obtain rfl : ad181 = ad193 := (by injection e193); have qi193 : (0 < l0.length) = True := eq_true (by omega); (try rw [show ((0 : Int)).toNat = 0 from rfl] at hx193_0); (try rw [show 0 * 4 = 0 from rfl] at hx193_0); (try rw [Addr.add_zero'] at hx193_0); (try rw [show ((0 : Int)).toNat = 0 from rfl] at hx193_1); (try rw [show 0 * 4 = 0 from rfl] at hx193_1); (try rw [Addr.add_zero'] at hx193_1); (try rw [show ((0 : Int)).toNat = 0 from rfl] at hx193_2); (try rw [show 0 * 4 = 0 from rfl] at hx193_2); (try rw [Addr.add_zero'] at hx193_2); (try rw [show ((0 : Int)).toNat = 0 from rfl] at hx193_3); (try rw [show 0 * 4 = 0 from rfl] at hx193_3); (try rw [Addr.add_zero'] at hx193_3); have HR193_3 := Aside0.mk hi193_3; have HC193_3 := Aside0.mk hl193_3; clear hi193_3 hl193_3; replace p193 := eq_true p193; replace q193 := eq_true q193; have ea_ := Option.some.inj (hx188_3.symm.trans hx193_3); injection ea_ with ea_ en_ ec_; subst ea_; subst ec_; clear en_; have p194 : 0 ≤ (x3_2 : Int) := of_decide_eq_true (by first | (with_reducible assumption) | assumption); have q194 : x3_2 < (((rd_T51 l0 0).f3).length : Int) := of_decide_eq_true (by first | (with_reducible assumption) | assumption); obtain ⟨ad194, A194_3, c194_3, e194, hx194_0, hx194_1, hx194_2, hx194_3, hl194_3, hi194_3⟩ := at_T133 HR193_3.out x3_2 p194 q194; cases e194; have HR194_3 := Aside0.mk hi194_3; have HC194_3 := Aside0.mk hl194_3; clear hi194_3 hl194_3; replace p194 := eq_true p194; replace q194 := eq_true q194; have p195 : 0 ≤ (0 : Int) := (by omega); have q195 : 0 < (l0.length : Int) := of_decide_eq_true (by first | (with_reducible assumption) | assumption); obtain ⟨ad195, A195_3, c195_3, e195, hx195_0, hx195_1, hx195_2, hx195_3, hl195_3, hi195_3⟩ := at_T51 HR0.out 0 p195 q195; obtain rfl : ad181 = ad195 := (by injection e195); have qi195 : (0 < l0.length) = True := eq_true (by omega); (try rw [show ((0 : Int)).toNat = 0 from rfl] at hx195_0); (try rw [show 0 * 4 = 0 from rfl] at hx195_0); (try rw [Addr.add_zero'] at hx195_0); (try rw [show ((0 : Int)).toNat = 0 from rfl] at hx195_1); (try rw [show 0 * 4 = 0 from rfl] at hx195_1); (try rw [Addr.add_zero'] at hx195_1); (try rw [show ((0 : Int)).toNat = 0 from rfl] at hx195_2); (try rw [show 0 * 4 = 0 from rfl] at hx195_2); (try rw [Addr.add_zero'] at hx195_2); (try rw [show ((0 : Int)).toNat = 0 from rfl] at hx195_3); (try rw [show 0 * 4 = 0 from rfl] at hx195_3); (try rw [Addr.add_zero'] at hx195_3); have HR195_3 := Aside0.mk hi195_3; have HC195_3 := Aside0.mk hl195_3; clear hi195_3 hl195_3; replace p195 := eq_true p195; replace q195 := eq_true q195; have ea_ := Option.some.inj (hx188_3.symm.trans hx195_3); injection ea_ with ea_ en_ ec_; subst ea_; subst ec_; clear en_; have p196 : 0 ≤ ((ji18) : Int) := of_decide_eq_true (by first | (with_reducible assumption) | assumption); have q196 : (ji18) < (((rd_T51 l0 0).f3).length : Int) := of_decide_eq_true (by first | (with_reducible assumption) | assumption); obtain ⟨ad196, A196_3, c196_3, e196, hx196_0, hx196_1, hx196_2, hx196_3, hl196_3, hi196_3⟩ := at_T133 HR195_3.out (ji18) p196 q196; cases e196; have HR196_3 := Aside0.mk hi196_3; have HC196_3 := Aside0.mk hl196_3; clear hi196_3 hl196_3; replace p196 := eq_true p196; replace q196 := eq_true q196; have p197 : 0 ≤ (0 : Int) := (by omega); have q197 : 0 < (l0.length : Int) := of_decide_eq_true (by first | (with_reducible assumption) | assumption); obtain ⟨ad197, A197_3, c197_3, e197, hx197_0, hx197_1, hx197_2, hx197_3, hl197_3, hi197_3⟩ := at_T51 HR0.out 0 p197 q197; obtain rfl : ad181 = ad197 := (by injection e197); have qi197 : (0 < l0.length) = True := eq_true (by omega); (try rw [show ((0 : Int)).toNat = 0 from rfl] at hx197_0); (try rw [show 0 * 4 = 0 from rfl] at hx197_0); (try rw [Addr.add_zero'] at hx197_0); (try rw [show ((0 : Int)).toNat = 0 from rfl] at hx197_1); (try rw [show 0 * 4 = 0 from rfl] at hx197_1); (try rw [Addr.add_zero'] at hx197_1); (try rw [show ((0 : Int)).toNat = 0 from rfl] at hx197_2); (try rw [show 0 * 4 = 0 from rfl] at hx197_2); (try rw [Addr.add_zero'] at hx197_2); (try rw [show ((0 : Int)).toNat = 0 from rfl] at hx197_3); (try rw [show 0 * 4 = 0 from rfl] at hx197_3); (try rw [Addr.add_zero'] at hx197_3); have HR197_3 := Aside0.mk hi197_3; have HC197_3 := Aside0.mk hl197_3; clear hi197_3 hl197_3; replace p197 := eq_true p197; replace q197 := eq_true q197; have ea_ := Option.some.inj (hx188_3.symm.trans hx197_3); injection ea_ with ea_ en_ ec_; subst ea_; subst ec_; clear en_; have p198 : 0 ≤ (x3_2 : Int) := of_decide_eq_true (by first | (with_reducible assumption) | assumption); have q198 : x3_2 < (((rd_T51 l0 0).f3).length : Int) := of_decide_eq_true (by first | (with_reducible assumption) | assumption); obtain ⟨ad198, A198_3, c198_3, e198, hx198_0, hx198_1, hx198_2, hx198_3, hl198_3, hi198_3⟩ := at_T133 HR197_3.out x3_2 p198 q198; cases e198; have HR198_3 := Aside0.mk hi198_3; have HC198_3 := Aside0.mk hl198_3; clear hi198_3 hl198_3; replace p198 := eq_true p198; replace q198 := eq_true q198; have p199 : 0 ≤ (0 : Int) := (by omega); have q199 : 0 < (l0.length : Int) := of_decide_eq_true (by first | (with_reducible assumption) | assumption); obtain ⟨ad199, A199_3, c199_3, e199, hx199_0, hx199_1, hx199_2, hx199_3, hl199_3, hi199_3⟩ := at_T51 HR0.out 0 p199 q199; obtain rfl : ad181 = ad199 := (by injection e199); have qi199 : (0 < l0.length) = True := eq_true (by omega); (try rw [show ((0 : Int)).toNat = 0 from rfl] at hx199_0); (try rw [show 0 * 4 = 0 from rfl] at hx199_0); (try rw [Addr.add_zero'] at hx199_0); (try rw [show ((0 : Int)).toNat = 0 from rfl] at hx199_1); (try rw [show 0 * 4 = 0 from rfl] at hx199_1); (try rw [Addr.add_zero'] at hx199_1); (try rw [show ((0 : Int)).toNat = 0 from rfl] at hx199_2); (try rw [show 0 * 4 = 0 from rfl] at hx199_2); (try rw [Addr.add_zero'] at hx199_2); (try rw [show ((0 : Int)).toNat = 0 from rfl] at hx199_3); (try rw [show 0 * 4 = 0 from rfl] at hx199_3); (try rw [Addr.add_zero'] at hx199_3); have HR199_3 := Aside0.mk hi199_3; have HC199_3 := Aside0.mk hl199_3; clear hi199_3 hl199_3; replace p199 := eq_true p199; replace q199 := eq_true q199; have ea_ := Option.some.inj (hx188_3.symm.trans hx199_3); injection ea_ with ea_ en_ ec_; subst ea_; subst ec_; clear en_)))
                                      go_ret
                                      exact ⟨by first | rfl | (simp; done) | (simp only [← hji18] <;> (first | rfl | simp)) | (simp [*]; done), by repeat (first | exact Drawn0.refl _ | apply Drawn0.step)⟩
                                    · rw [if_neg c22] at H
                                      have c22b0 : decide (((rd_T51 l0 0).f2) ≤ ((rd_T133 ((rd_T51 l0 0).f3) x3_2).f0)) = false := decide_eq_false c22
                                      clear c22
                                      have H' := Aside0.mk H
                                      clear H
                                      have p188 : 0 ≤ (0 : Int) := (by omega)
                                      have q188 : 0 < (l0.length : Int) := of_decide_eq_true (by first | (with_reducible assumption) | assumption)
                                      obtain ⟨ad188, A188_3, c188_3, e188, hx188_0, hx188_1, hx188_2, hx188_3, hl188_3, hi188_3⟩ := at_T51 HR0.out 0 p188 q188
                                      obtain rfl : ad181 = ad188 := (by injection e188)
                                      have qi188 : (0 < l0.length) = True := eq_true (by omega)
                                      (try rw [show ((0 : Int)).toNat = 0 from rfl] at hx188_0)
                                      (try rw [show 0 * 4 = 0 from rfl] at hx188_0)
                                      (try rw [Addr.add_zero'] at hx188_0)
                                      (try rw [show ((0 : Int)).toNat = 0 from rfl] at hx188_1)
                                      (try rw [show 0 * 4 = 0 from rfl] at hx188_1)
                                      (try rw [Addr.add_zero'] at hx188_1)
                                      (try rw [show ((0 : Int)).toNat = 0 from rfl] at hx188_2)
                                      (try rw [show 0 * 4 = 0 from rfl] at hx188_2)
                                      (try rw [Addr.add_zero'] at hx188_2)
                                      (try rw [show ((0 : Int)).toNat = 0 from rfl] at hx188_3)
                                      (try rw [show 0 * 4 = 0 from rfl] at hx188_3)
                                      (try rw [Addr.add_zero'] at hx188_3)
                                      have HR188_3 := Aside0.mk hi188_3
                                      have HC188_3 := Aside0.mk hl188_3
                                      clear hi188_3 hl188_3
                                      replace p188 := eq_true p188
                                      replace q188 := eq_true q188
                                      have p189 : 0 ≤ (0 : Int) := (by omega)
                                      have q189 : 0 < (l0.length : Int) := of_decide_eq_true (by first | (with_reducible assumption) | assumption)
                                      obtain ⟨ad189, A189_3, c189_3, e189, hx189_0, hx189_1, hx189_2, hx189_3, hl189_3, hi189_3⟩ := at_T51 HR0.out 0 p189 q189
                                      obtain rfl : ad181 = ad189 := (by injection e189)
                                      have qi189 : (0 < l0.length) = True := eq_true (by omega)
                                      (try rw [show ((0 : Int)).toNat = 0 from rfl] at hx189_0)
                                      (try rw [show 0 * 4 = 0 from rfl] at hx189_0)
                                      (try rw [Addr.add_zero'] at hx189_0)
                                      (try rw [show ((0 : Int)).toNat = 0 from rfl] at hx189_1)
                                      (try rw [show 0 * 4 = 0 from rfl] at hx189_1)
                                      (try rw [Addr.add_zero'] at hx189_1)
                                      (try rw [show ((0 : Int)).toNat = 0 from rfl] at hx189_2)
                                      (try rw [show 0 * 4 = 0 from rfl] at hx189_2)
                                      (try rw [Addr.add_zero'] at hx189_2)
                                      (try rw [show ((0 : Int)).toNat = 0 from rfl] at hx189_3)
                                      (try rw [show 0 * 4 = 0 from rfl] at hx189_3)
                                      (try rw [Addr.add_zero'] at hx189_3)
                                      have HR189_3 := Aside0.mk hi189_3
                                      have HC189_3 := Aside0.mk hl189_3
                                      clear hi189_3 hl189_3
                                      replace p189 := eq_true p189
                                      replace q189 := eq_true q189
                                      have ea_ := Option.some.inj (hx188_3.symm.trans hx189_3)
                                      injection ea_ with ea_ en_ ec_
                                      subst ea_
                                      subst ec_
                                      clear en_
                                      have p190 : 0 ≤ (x3_2 : Int) := of_decide_eq_true (by first | (with_reducible assumption) | assumption)
                                      have q190 : x3_2 < (((rd_T51 l0 0).f3).length : Int) := of_decide_eq_true (by first | (with_reducible assumption) | assumption)
                                      obtain ⟨ad190, A190_3, c190_3, e190, hx190_0, hx190_1, hx190_2, hx190_3, hl190_3, hi190_3⟩ := at_T133 HR189_3.out x3_2 p190 q190
                                      cases e190
                                      have HR190_3 := Aside0.mk hi190_3
                                      have HC190_3 := Aside0.mk hl190_3
                                      clear hi190_3 hl190_3
                                      replace p190 := eq_true p190
                                      replace q190 := eq_true q190
                                      have HRa191 := Aside0.mk (Kd.C_elem HR189_3.out (x3_2 : Int) (of_decide_eq_true (by first | (with_reducible assumption) | assumption)) (of_decide_eq_true (by first | (with_reducible assumption) | assumption)))
                                      go_wp2_with (first | (go_at_call 146; (with_reducible refine (spec_l7Message.calls k2 _ (((rd_T51 l0 0).f3).drop (x3_2 : Int).toNat).length (((rd_T51 l0 0).f3).drop (x3_2 : Int).toNat) t192 _ ?side1 ?side2 A15.out).mono ?_); (case side1 => repeat (first | exact HRa191.out | (with_reducible refine Kd.C_alloc ?_ _) | (with_reducible refine Kd.C_drewN ?_ _) | (with_reducible refine Kd.C_drew ?_))); (case side2 => exact Nat.le_refl _); rintro e w' ⟨rfl, ⟨nd, rfl⟩⟩; (try first | exact ⟨rfl, _, World.drewN_drewN _ _ _⟩ | exact ⟨rfl, _, Eq.trans (World.drewN_drewN _ _ _) (congrArg (World.drewN _) (Nat.add_assoc _ _ _))⟩); have p193 : 0 ≤ (0 : Int) := (by omega); have q193 : 0 < (l0.length : Int) := of_decide_eq_true (by first | (with_reducible assumption) | assumption); obtain ⟨ad193, A193_3, c193_3, e193, hx193_0, hx193_1, hx193_2, hx193_3, hl193_3, hi193_3⟩ := at_T51 HR0.out 0 p193 q193; obtain rfl : ad181 = ad193 := (by injection e193); have qi193 : (0 < l0.length) = True := eq_true (by omega); (try rw [show ((0 : Int)).toNat = 0 from rfl] at hx193_0); (try rw [show 0 * 4 = 0 from rfl] at hx193_0); (try rw [Addr.add_zero'] at hx193_0); (try rw [show ((0 : Int)).toNat = 0 from rfl] at hx193_1); (try rw [show 0 * 4 = 0 from rfl] at hx193_1); (try rw [Addr.add_zero'] at hx193_1); (try rw [show ((0 : Int)).toNat = 0 from rfl] at hx193_2); (try rw [show 0 * 4 = 0 from rfl] at hx193_2); (try rw [Addr.add_zero'] at hx193_2); (try rw [show ((0 : Int)).toNat = 0 from rfl] at hx193_3); (try rw [show 0 * 4 = 0 from rfl] at hx193_3); (try rw [Addr.add_zero'] at hx193_3); have HR193_3 := Aside0.mk hi193_3; have HC193_3 := Aside0.mk hl193_3; clear hi193_3 hl193_3; replace p193 := eq_true p193; replace q193 := eq_true q193; have ea_ := Option.some.inj (hx188_3.symm.trans hx193_3); injection ea_ with ea_ en_ ec_; subst ea_; subst ec_; clear en_; have p194 : 0 ≤ (x3_2 : Int) := of_decide_eq_true (by first | (with_reducible assumption) | assumption); have q194 : x3_2 < (((rd_T51 l0 0).f3).length : Int) := of_decide_eq_true (by first | (with_reducible assumption) | assumption); obtain ⟨ad194, A194_3, c194_3, e194, hx194_0, hx194_1, hx194_2, hx194_3, hl194_3, hi194_3⟩ := at_T133 HR193_3.out x3_2 p194 q194; cases e194; have HR194_3 := Aside0.mk hi194_3; have HC194_3 := Aside0.mk hl194_3; clear hi194_3 hl194_3; replace p194 := eq_true p194; replace q194 := eq_true q194; have p195 : 0 ≤ (0 : Int) := (by omega); have q195 : 0 < (l0.length : Int) := of_decide_eq_true (by first | (with_reducible assumption) | assumption); obtain ⟨ad195, A195_3, c195_3, e195, hx195_0, hx195_1, hx195_2, hx195_3, hl195_3, hi195_3⟩ := at_T51 HR0.out 0 p195 q195; obtain rfl : ad181 = ad195 := (by injection e195); have qi195 : (0 < l0.length) = True := eq_true (by omega); (try rw [show ((0 : Int)).toNat = 0 from rfl] at hx195_0); (try rw [show 0 * 4 = 0 from rfl] at hx195_0); (try rw [Addr.add_zero'] at hx195_0); (try rw [show ((0 : Int)).toNat = 0 from rfl] at hx195_1); (try rw [show 0 * 4 = 0 from rfl] at hx195_1); (try rw [Addr.add_zero'] at hx195_1); (try rw [show ((0 : Int)).toNat = 0 from rfl] at hx195_2); (try rw [show 0 * 4 = 0 from rfl] at hx195_2); (try rw [Addr.add_zero'] at hx195_2); (try rw [show ((0 : Int)).toNat = 0 from rfl] at hx195_3); (try rw [show 0 * 4 = 0 from rfl] at hx195_3); (try rw [Addr.add_zero'] at hx195_3); have HR195_3 := Aside0.mk hi195_3; have HC195_3 := Aside0.mk hl195_3; clear hi195_3 hl195_3; replace p195 := eq_true p195; replace q195 := eq_true q195; have ea_ := Option.some.inj (hx188_3.symm.trans hx195_3); injection ea_ with ea_ en_ ec_; subst ea_; subst ec_; clear en_; have p196 : 0 ≤ ((ji18) : Int) := of_decide_eq_true (by first | (with_reducible assumption) | assumption); have q196 : (ji18) < (((rd_T51 l0 0).f3).length : Int) := of_decide_eq_true (by first | (with_reducible assumption) | assumption); obtain ⟨ad196, A196_3, c196_3, e196, hx196_0, hx196_1, hx196_2, hx196_3, hl196_3, hi196_3⟩ := at_T133 HR195_3.out (ji18) p196 q196; cases e196; have HR196_3 := Aside0.mk hi196_3; have HC196_3 := Aside0.mk hl196_3; clear hi196_3 hl196_3; replace p196 := eq_true p196; replace q196 := eq_true q196; have p197 : 0 ≤ (0 : Int) := (by omega); have q197 : 0 < (l0.length : Int) := of_decide_eq_true (by first | (with_reducible assumption) | assumption); obtain ⟨ad197, A197_3, c197_3, e197, hx197_0, hx197_1, hx197_2, hx197_3, hl197_3, hi197_3⟩ := at_T51 HR0.out 0 p197 q197; obtain rfl : ad181 = ad197 := (by injection e197); have qi197 : (0 < l0.length) = True := eq_true (by omega); (try rw [show ((0 : Int)).toNat = 0 from rfl] at hx197_0); (try rw [show 0 * 4 = 0 from rfl] at hx197_0); (try rw [Addr.add_zero'] at hx197_0); (try rw [show ((0 : Int)).toNat = 0 from rfl] at hx197_1); (try rw [show 0 * 4 = 0 from rfl] at hx197_1); (try rw [Addr.add_zero'] at hx197_1); (try rw [show ((0 : Int)).toNat = 0 from rfl] at hx197_2); (try rw [show 0 * 4 = 0 from rfl] at hx197_2); (try rw [Addr.add_zero'] at hx197_2); (try rw [show ((0 : Int)).toNat = 0 from rfl] at hx197_3); (try rw [show 0 * 4 = 0 from rfl] at hx197_3); (try rw [Addr.add_zero'] at hx197_3); have HR197_3 := Aside0.mk hi197_3; have HC197_3 := Aside0.mk hl197_3; clear hi197_3 hl197_3; replace p197 := eq_true p197; replace q197 := eq_true q197; have ea_ := Option.some.inj (hx188_3.symm.trans hx197_3); injection ea_ with ea_ en_ ec_; subst ea_; subst ec_; clear en_; have p198 : 0 ≤ (x3_2 : Int) := of_decide_eq_true (by first | (with_reducible assumption) | assumption); have q198 : x3_2 < (((rd_T51 l0 0).f3).length : Int) := of_decide_eq_true (by first | (with_reducible assumption) | assumption); obtain ⟨ad198, A198_3, c198_3, e198, hx198_0, hx198_1, hx198_2, hx198_3, hl198_3, hi198_3⟩ := at_T133 HR197_3.out x3_2 p198 q198; cases e198; have HR198_3 := Aside0.mk hi198_3; have HC198_3 := Aside0.mk hl198_3; clear hi198_3 hl198_3; replace p198 := eq_true p198; replace q198 := eq_true q198; have p199 : 0 ≤ (0 : Int) := (by omega); have q199 : 0 < (l0.length : Int) := of_decide_eq_true (by first | (with_reducible assumption) | assumption); obtain ⟨ad199, A199_3, c199_3, e199, hx199_0, hx199_1, hx199_2, hx199_3, hl199_3, hi199_3⟩ := at_T51 HR0.out 0 p199 q199; obtain rfl : ad181 = ad199 := (by injection e199); have qi199 : (0 < l0.length) = True := eq_true (by omega); (try rw [show ((0 : Int)).toNat = 0 from rfl] at hx199_0); (try rw [show 0 * 4 = 0 from rfl] at hx199_0); (try rw [Addr.add_zero'] at hx199_0); (try rw [show ((0 : Int)).toNat = 0 from rfl] at hx199_1); (try rw [show 0 * 4 = 0 from rfl] at hx199_1); (try rw [Addr.add_zero'] at hx199_1); (try rw [show ((0 : Int)).toNat = 0 from rfl] at hx199_2); (try rw [show 0 * 4 = 0 from rfl] at hx199_2); (try rw [Addr.add_zero'] at hx199_2); (try rw [show ((0 : Int)).toNat = 0 from rfl] at hx199_3); (try rw [show 0 * 4 = 0 from rfl] at hx199_3); (try rw [Addr.add_zero'] at hx199_3); have HR199_3 := Aside0.mk hi199_3; have HC199_3 := Aside0.mk hl199_3; clear hi199_3 hl199_3; replace p199 := eq_true p199; replace q199 := eq_true q199; have ea_ := Option.some.inj (hx188_3.symm.trans hx199_3); injection ea_ with ea_ en_ ec_; subst ea_; subst ec_; clear en_))
                                      repeat (go_quiet (first | (go_at_call 146; (with_reducible refine (spec_l7Message.calls k2 _ (((rd_T51 l0 0).f3).drop (x3_2 : Int).toNat).length (((rd_T51 l0 0).f3).drop (x3_2 : Int).toNat) t192 _ ?side1 ?side2 A15.out).mono ?_); (case side1 => repeat (first | exact HRa191.out | (with_reducible refine Kd.C_alloc ?_ _) | (with_reducible refine Kd.C_drewN ?_ _) | (with_reducible refine Kd.C_drew ?_))); (case side2 => exact Nat.le_refl _); rintro e w' ⟨rfl, ⟨nd, rfl⟩⟩; (try first | exact ⟨rfl, _, World.drewN_drewN _ _ _⟩ | exact ⟨rfl, _, Eq.trans (World.drewN_drewN _ _ _) (congrArg (World.drewN _) (Nat.add_assoc _ _ _))⟩); have p193 : 0 ≤ (0 : Int) := (by omega); have q193 : 0 < (l0.length : Int) := of_decide_eq_true (by first | (with_reducible assumption) | assumption); obtain ⟨ad193, A193_3, c193_3, e193, hx193_0, hx193_1, hx193_2, hx193_3, hl193_3, hi193_3⟩ := at_T51 HR0.out 0 p193 q193; obtain rfl : ad181 = ad193 := (by injection e193); have qi193 : (0 < l0.length) = True := eq_true (by omega); (try rw [show ((0 : Int)).toNat = 0 from rfl] at hx193_0); (try rw [show 0 * 4 = 0 from rfl] at hx193_0); (try rw [Addr.add_zero'] at hx193_0); (try rw [show ((0 : Int)).toNat = 0 from rfl] at hx193_1); (try rw [show 0 * 4 = 0 from rfl] at hx193_1); (try rw [Addr.add_zero'] at hx193_1); (try rw [show ((0 : Int)).toNat = 0 from rfl] at hx193_2); (try rw [show 0 * 4 = 0 from rfl] at hx193_2); (try rw [Addr.add_zero'] at hx193_2); (try rw [show ((0 : Int)).toNat = 0 from rfl] at hx193_3); (try rw [show 0 * 4 = 0 from rfl] at hx193_3); (try rw [Addr.add_zero'] at hx193_3); have HR193_3 := Aside0.mk hi193_3; have HC193_3 := Aside0.mk hl193_3; clear hi193_3 hl193_3; replace p193 := eq_true p193; replace q193 := eq_true q193; have ea_ := Option.some.inj (hx188_3.symm.trans hx193_3); injection ea_ with ea_ en_ ec_; subst ea_; subst ec_; clear en_; have p194 : 0 ≤ (x3_2 : Int) := of_decide_eq_true (by first | (with_reducible assumption) | assumption); have q194 : x3_2 < (((rd_T51 l0 0).f3).length : Int) := of_decide_eq_true (by first | (with_reducible assumption) | assumption); obtain ⟨ad194, A194_3, c194_3, e194, hx194_0, hx194_1, hx194_2, hx194_3, hl194_3, hi194_3⟩ := at_T133 HR193_3.out x3_2 p194 q194; cases e194; have HR194_3 := Aside0.mk hi194_3; have HC194_3 := Aside0.mk hl194_3; clear hi194_3 hl194_3; replace p194 := eq_true p194; replace q194 := eq_true q194; have p195 : 0 ≤ (0 : Int) := (by omega); have q195 : 0 < (l0.length : Int) := of_decide_eq_true (by first | (with_reducible assumption) | assumption); obtain ⟨ad195, A195_3, c195_3, e195, hx195_0, hx195_1, hx195_2, hx195_3, hl195_3, hi195_3⟩ := at_T51 HR0.out 0 p195 q195; obtain rfl : ad181 = ad195 := (by injection e195); have qi195 : (0 < l0.length) = True := eq_true (by omega); (try rw [show ((0 : Int)).toNat = 0 from rfl] at hx195_0); (try rw [show 0 * 4 = 0 from rfl] at hx195_0); (try rw [Addr.add_zero'] at hx195_0); (try rw [show ((0 : Int)).toNat = 0 from rfl] at hx195_1); (try rw [show 0 * 4 = 0 from rfl] at hx195_1); (try rw [Addr.add_zero'] at hx195_1); (try rw [show ((0 : Int)).toNat = 0 from rfl] at hx195_2); (try rw [show 0 * 4 = 0 from rfl] at hx195_2); (try rw [Addr.add_zero'] at hx195_2); (try rw [show ((0 : Int)).toNat = 0 from rfl] at hx195_3); (try rw [show 0 * 4 = 0 from rfl] at hx195_3); (try rw [Addr.add_zero'] at hx195_3); have HR195_3 := Aside0.mk hi195_3; have HC195_3 := Aside0.mk hl195_3; clear hi195_3 hl195_3; replace p195 := eq_true p195; replace q195 := eq_true q195; have ea_ := Option.some.inj (hx188_3.symm.trans hx195_3); injection ea_ with ea_ en_ ec_; subst ea_; subst ec_; clear en_; have p196 : 0 ≤ ((ji18) : Int) := of_decide_eq_true (by first | (with_reducible assumption) | assumption); have q196 : (ji18) < (((rd_T51 l0 0).f3).length : Int) := of_decide_eq_true (by first | (with_reducible assumption) | assumption); obtain ⟨ad196, A196_3, c196_3, e196, hx196_0, hx196_1, hx196_2, hx196_3, hl196_3, hi196_3⟩ := at_T133 HR195_3.out (ji18) p196 q196; cases e196; have HR196_3 := Aside0.mk hi196_3; have HC196_3 := Aside0.mk hl196_3; clear hi196_3 hl196_3; replace p196 := eq_true p196; replace q196 := eq_true q196; have p197 : 0 ≤ (0 : Int) := (by omega); have q197 : 0 < (l0.length : Int) := of_decide_eq_true (by first | (with_reducible assumption) | assumption); obtain ⟨ad197, A197_3, c197_3, e197, hx197_0, hx197_1, hx197_2, hx197_3, hl197_3, hi197_3⟩ := at_T51 HR0.out 0 p197 q197; obtain rfl : ad181 = ad197 := (by injection e197); have qi197 : (0 < l0.length) = True := eq_true (by omega); (try rw [show ((0 : Int)).toNat = 0 from rfl] at hx197_0); (try rw [show 0 * 4 = 0 from rfl] at hx197_0); (try rw [Addr.add_zero'] at hx197_0); (try rw [show ((0 : Int)).toNat = 0 from rfl] at hx197_1); (try rw [show 0 * 4 = 0 from rfl] at hx197_1); (try rw [Addr.add_zero'] at hx197_1); (try rw [show ((0 : Int)).toNat = 0 from rfl] at hx197_2); (try rw [show 0 * 4 = 0 from rfl] at hx197_2); (try rw [Addr.add_zero'] at hx197_2); (try rw [show ((0 : Int)).toNat = 0 from rfl] at hx197_3); (try rw [show 0 * 4 = 0 from rfl] at hx197_3); (try rw [Addr.add_zero'] at hx197_3); have HR197_3 := Aside0.mk hi197_3; have HC197_3 := Aside0.mk hl197_3; clear hi197_3 hl197_3; replace p197 := eq_true p197; replace q197 := eq_true q197; have ea_ := Option.some.inj (hx188_3.symm.trans hx197_3); injection ea_ with ea_ en_ ec_; subst ea_; subst ec_; clear en_; have p198 : 0 ≤ (x3_2 : Int) := of_decide_eq_true (by first | (with_reducible assumption) | assumption); have q198 : x3_2 < (((rd_T51 l0 0).f3).length : Int) := of_decide_eq_true (by first | (with_reducible assumption) | assumption); obtain ⟨ad198, A198_3, c198_3, e198, hx198_0, hx198_1, hx198_2, hx198_3, hl198_3, hi198_3⟩ := at_T133 HR197_3.out x3_2 p198 q198; cases e198; have HR198_3 := Aside0.mk hi198_3; have HC198_3 := Aside0.mk hl198_3; clear hi198_3 hl198_3; replace p198 := eq_true p198; replace q198 := eq_true q198; have p199 : 0 ≤ (0 : Int) := (by omega); have q199 : 0 < (l0.length : Int) := of_decide_eq_true (by first | (with_reducible assumption) | assumption); obtain ⟨ad199, A199_3, c199_3, e199, hx199_0, hx199_1, hx199_2, hx199_3, hl199_3, hi199_3⟩ := at_T51 HR0.out 0 p199 q199; obtain rfl : ad181 = ad199 := (by injection e199); have qi199 : (0 < l0.length) = True := eq_true (by omega); (try rw [show ((0 : Int)).toNat = 0 from rfl] at hx199_0); (try rw [show 0 * 4 = 0 from rfl] at hx199_0); (try rw [Addr.add_zero'] at hx199_0); (try rw [show ((0 : Int)).toNat = 0 from rfl] at hx199_1); (try rw [show 0 * 4 = 0 from rfl] at hx199_1); (try rw [Addr.add_zero'] at hx199_1); (try rw [show ((0 : Int)).toNat = 0 from rfl] at hx199_2); (try rw [show 0 * 4 = 0 from rfl] at hx199_2); (try rw [Addr.add_zero'] at hx199_2); (try rw [show ((0 : Int)).toNat = 0 from rfl] at hx199_3); (try rw [show 0 * 4 = 0 from rfl] at hx199_3); (try rw [Addr.add_zero'] at hx199_3); have HR199_3 := Aside0.mk hi199_3; have HC199_3 := Aside0.mk hl199_3; clear hi199_3 hl199_3; replace p199 := eq_true p199; replace q199 := eq_true q199; have ea_ := Option.some.inj (hx188_3.symm.trans hx199_3); injection ea_ with ea_ en_ ec_; subst ea_; subst ec_; clear en_)); try go_wp2_with (first | (go_at_call 146; (with_reducible refine (spec_l7Message.calls k2 _ (((rd_T51 l0 0).f3).drop (x3_2 : Int).toNat).length (((rd_T51 l0 0).f3).drop (x3_2 : Int).toNat) t192 _ ?side1 ?side2 A15.out).mono ?_); (case side1 => repeat (first | exact HRa191.out | (with_reducible refine Kd.C_alloc ?_ _) | (with_reducible refine Kd.C_drewN ?_ _) | (with_reducible refine Kd.C_drew ?_))); (case side2 => exact Nat.le_refl _); rintro e w' ⟨rfl, ⟨nd, rfl⟩⟩; (try first | exact ⟨rfl, _, World.drewN_drewN _ _ _⟩ | exact ⟨rfl, _, Eq.trans (World.drewN_drewN _ _ _) (congrArg (World.drewN _) (Nat.add_assoc _ _ _))⟩); have p193 : 0 ≤ (0 : Int) := (by omega); have q193 : 0 < (l0.length : Int) := of_decide_eq_true (by first | (with_reducible assumption) | assumption); obtain ⟨ad193, A193_3, c193_3, e193, hx193_0, hx193_1, hx193_2, hx193_3, hl193_3, hi193_3⟩ := at_T51 HR0.out 0 p193 q193; obtain rfl : ad181 = ad193 := (by injection e193); have qi193 : (0 < l0.length) = True := eq_true (by omega); (try rw [show ((0 : Int)).toNat = 0 from rfl] at hx193_0); (try rw [show 0 * 4 = 0 from rfl] at hx193_0); (try rw [Addr.add_zero'] at hx193_0); (try rw [show ((0 : Int)).toNat = 0 from rfl] at hx193_1); (try rw [show 0 * 4 = 0 from rfl] at hx193_1); (try rw [Addr.add_zero'] at hx193_1); (try rw [show ((0 : Int)).toNat = 0 from rfl] at hx193_2); (try rw [show 0 * 4 = 0 from rfl] at hx193_2); (try rw [Addr.add_zero'] at hx193_2); (try rw [show ((0 : Int)).toNat = 0 from rfl] at hx193_3); (try rw [show 0 * 4 = 0 from rfl] at hx193_3); (try rw [Addr.add_zero'] at hx193_3); have HR193_3 := Aside0.mk hi193_3; have HC193_3 := Aside0.mk hl193_3; clear hi193_3 hl193_3; replace p193 := eq_true p193; replace q193 := eq_true q193; have ea_ := Option.some.inj (hx188_3.symm.trans hx193_3); injection ea_ with ea_ en_ ec_; subst ea_; subst ec_; clear en_; have p194 : 0 ≤ (x3_2 : Int) := of_decide_eq_true (by first | (with_reducible assumption) | assumption); have q194 : x3_2 < (((rd_T51 l0 0).f3).length : Int) := of_decide_eq_true (by first | (with_reducible assumption) | assumption); obtain ⟨ad194, A194_3, c194_3, e194, hx194_0, hx194_1, hx194_2, hx194_3, hl194_3, hi194_3⟩ := at_T133 HR193_3.out x3_2 p194 q194; cases e194; have HR194_3 := Aside0.mk hi194_3; have HC194_3 := Aside0.mk hl194_3; clear hi194_3 hl194_3; replace p194 := eq_true p194; replace q194 := eq_true q194; have p195 : 0 ≤ (0 : Int) := (by omega); have q195 : 0 < (l0.length : Int) := of_decide_eq_true (by first | (with_reducible assumption) | assumption); obtain ⟨ad195, A195_3, c195_3, e195, hx195_0, hx195_1, hx195_2, hx195_3, hl195_3, hi195_3⟩ := at_T51 HR0.out 0 p195 q195; obtain rfl : ad181 = ad195 := (by injection e195); have qi195 : (0 < l0.length) = True := eq_true (by omega); (try rw [show ((0 : Int)).toNat = 0 from rfl] at hx195_0); (try rw [show 0 * 4 = 0 from rfl] at hx195_0); (try rw [Addr.add_zero'] at hx195_0); (try rw [show ((0 : Int)).toNat = 0 from rfl] at hx195_1); (try rw [show 0 * 4 = 0 from rfl] at hx195_1); (try rw [Addr.add_zero'] at hx195_1); (try rw [show ((0 : Int)).toNat = 0 from rfl] at hx195_2); (try rw [show 0 * 4 = 0 from rfl] at hx195_2); (try rw [Addr.add_zero'] at hx195_2); (try rw [show ((0 : Int)).toNat = 0 from rfl] at hx195_3); (try rw [show 0 * 4 = 0 from rfl] at hx195_3); (try rw [Addr.add_zero'] at hx195_3); have HR195_3 := Aside0.mk hi195_3; have HC195_3 := Aside0.mk hl195_3; clear hi195_3 hl195_3; replace p195 := eq_true p195; replace q195 := eq_true q195; have ea_ := Option.some.inj (hx188_3.symm.trans hx195_3); injection ea_ with ea_ en_ ec_; subst ea_; subst ec_; clear en_; have p196 : 0 ≤ ((ji18) : Int) := of_decide_eq_true (by first | (with_reducible assumption) | assumption); have q196 : (ji18) < (((rd_T51 l0 0).f3).length : Int) := of_decide_eq_true (by first | (with_reducible assumption) | assumption); obtain ⟨ad196, A196_3, c196_3, e196, hx196_0, hx196_1, hx196_2, hx196_3, hl196_3, hi196_3⟩ := at_T133 HR195_3.out (ji18) p196 q196; cases e196; have HR196_3 := Aside0.mk hi196_3; have HC196_3 := Aside0.mk hl196_3; clear hi196_3 hl196_3; replace p196 := eq_true p196; replace q196 := eq_true q196; have p197 : 0 ≤ (0 : Int) := (by omega); have q197 : 0 < (l0.length : Int) := of_decide_eq_true (by first | (with_reducible assumption) | assumption); obtain ⟨ad197, A197_3, c197_3, e197, hx197_0, hx197_1, hx197_2, hx197_3, hl197_3, hi197_3⟩ := at_T51 HR0.out 0 p197 q197; obtain rfl : ad181 = ad197 := (by injection e197); have qi197 : (0 < l0.length) = True := eq_true (by omega); (try rw [show ((0 : Int)).toNat = 0 from rfl] at hx197_0); (try rw [show 0 * 4 = 0 from rfl] at hx197_0); (try rw [Addr.add_zero'] at hx197_0); (try rw [show ((0 : Int)).toNat = 0 from rfl] at hx197_1); (try rw [show 0 * 4 = 0 from rfl] at hx197_1); (try rw [Addr.add_zero'] at hx197_1); (try rw [show ((0 : Int)).toNat = 0 from rfl] at hx197_2); (try rw [show 0 * 4 = 0 from rfl] at hx197_2); (try rw [Addr.add_zero'] at hx197_2); (try rw [show ((0 : Int)).toNat = 0 from rfl] at hx197_3); (try rw [show 0 * 4 = 0 from rfl] at hx197_3); (try rw [Addr.add_zero'] at hx197_3); have HR197_3 := Aside0.mk hi197_3; have HC197_3 := Aside0.mk hl197_3; clear hi197_3 hl197_3; replace p197 := eq_true p197; replace q197 := eq_true q197; have ea_ := Option.some.inj (hx188_3.symm.trans hx197_3); injection ea_ with ea_ en_ ec_; subst ea_; subst ec_; clear en_; have p198 : 0 ≤ (x3_2 : Int) := of_decide_eq_true (by first | (with_reducible assumption) | assumption); have q198 : x3_2 < (((rd_T51 l0 0).f3).length : Int) := of_decide_eq_true (by first | (with_reducible assumption) | assumption); obtain ⟨ad198, A198_3, c198_3, e198, hx198_0, hx198_1, hx198_2, hx198_3, hl198_3, hi198_3⟩ := at_T133 HR197_3.out x3_2 p198 q198; cases e198; have HR198_3 := Aside0.mk hi198_3; have HC198_3 := Aside0.mk hl198_3; clear hi198_3 hl198_3; replace p198 := eq_true p198; replace q198 := eq_true q198; have p199 : 0 ≤ (0 : Int) := (by omega); have q199 : 0 < (l0.length : Int) := of_decide_eq_true (by first | (with_reducible assumption) | assumption); obtain ⟨ad199, A199_3, c199_3, e199, hx199_0, hx199_1, hx199_2, hx199_3, hl199_3, hi199_3⟩ := at_T51 HR0.out 0 p199 q199; obtain rfl : ad181 = ad199 := (by injection e199); have qi199 : (0 < l0.length) = True := eq_true (by omega); (try rw [show ((0 : Int)).toNat = 0 from rfl] at hx199_0); (try rw [show 0 * 4 = 0 from rfl] at hx199_0); (try rw [Addr.add_zero'] at hx199_0); (try rw [show ((0 : Int)).toNat = 0 from rfl] at hx199_1); (try rw [show 0 * 4 = 0 from rfl] at hx199_1); (try rw [Addr.add_zero'] at hx199_1); (try rw [show ((0 : Int)).toNat = 0 from rfl] at hx199_2); (try rw [show 0 * 4 = 0 from rfl] at hx199_2); (try rw [Addr.add_zero'] at hx199_2); (try rw [show ((0 : Int)).toNat = 0 from rfl] at hx199_3); (try rw [show 0 * 4 = 0 from rfl] at hx199_3); (try rw [Addr.add_zero'] at hx199_3); have HR199_3 := Aside0.mk hi199_3; have HC199_3 := Aside0.mk hl199_3; clear hi199_3 hl199_3; replace p199 := eq_true p199; replace q199 := eq_true q199; have ea_ := Option.some.inj (hx188_3.symm.trans hx199_3); injection ea_ with ea_ en_ ec_; subst ea_; subst ec_; clear en_)))
                                      go_roundg k2
                                      case measure => have := HJ4.out; have := HK2.out; omega
                                      case rel => exact ⟨(wrap64 (x3_2 + 1)), (by first | rfl | (simp; done) | (simp [*]; done)), H', ⟨by have := HJ4.out; have := HK2.out; omega⟩, by repeat (first | exact Drawn0.refl _ | apply Drawn0.step)⟩
                                · rw [if_neg c20] at H
                                  exact absurd H (by simp)
                              · rw [if_neg c19] at H
                                exact absurd H (by simp)
                            · rw [if_neg c17] at H
                              have c17b0 : decide (0 < x3_2) = false := decide_eq_false c17
                              clear c17
                              by_cases c23 : ((rd_T133 ((rd_T51 l0 0).f3) x3_2).f0) ≥ ((rd_T51 l0 0).f2)
                              · rw [if_pos c23] at H
                                have c23b0 : decide (((rd_T51 l0 0).f2) ≤ ((rd_T133 ((rd_T51 l0 0).f3) x3_2).f0)) = true := decide_eq_true c23
                                clear c23
                                obtain rfl := Option.some.inj H
                                have p188 : 0 ≤ (0 : Int) := (by omega)
                                have q188 : 0 < (l0.length : Int) := of_decide_eq_true (by first | (with_reducible assumption) | assumption)
                                obtain ⟨ad188, A188_3, c188_3, e188, hx188_0, hx188_1, hx188_2, hx188_3, hl188_3, hi188_3⟩ := at_T51 HR0.out 0 p188 q188
                                obtain rfl : ad181 = ad188 := (by injection e188)
                                have qi188 : (0 < l0.length) = True := eq_true (by omega)
                                (try rw [show ((0 : Int)).toNat = 0 from rfl] at hx188_0)
                                (try rw [show 0 * 4 = 0 from rfl] at hx188_0)
                                (try rw [Addr.add_zero'] at hx188_0)
                                (try rw [show ((0 : Int)).toNat = 0 from rfl] at hx188_1)
                                (try rw [show 0 * 4 = 0 from rfl] at hx188_1)
                                (try rw [Addr.add_zero'] at hx188_1)
                                (try rw [show ((0 : Int)).toNat = 0 from rfl] at hx188_2)
                                (try rw [show 0 * 4 = 0 from rfl] at hx188_2)
                                (try rw [Addr.add_zero'] at hx188_2)
                                (try rw [show ((0 : Int)).toNat = 0 from rfl] at hx188_3)
                                (try rw [show 0 * 4 = 0 from rfl] at hx188_3)
                                (try rw [Addr.add_zero'] at hx188_3)
                                have HR188_3 := Aside0.mk hi188_3
                                have HC188_3 := Aside0.mk hl188_3
                                clear hi188_3 hl188_3
                                replace p188 := eq_true p188
                                replace q188 := eq_true q188
                                have p189 : 0 ≤ (0 : Int) := (by omega)
                                have q189 : 0 < (l0.length : Int) := of_decide_eq_true (by first | (with_reducible assumption) | assumption)
                                obtain ⟨ad189, A189_3, c189_3, e189, hx189_0, hx189_1, hx189_2, hx189_3, hl189_3, hi189_3⟩ := at_T51 HR0.out 0 p189 q189
                                obtain rfl : ad181 = ad189 := (by injection e189)
                                have qi189 : (0 < l0.length) = True := eq_true (by omega)
                                (try rw [show ((0 : Int)).toNat = 0 from rfl] at hx189_0)
                                (try rw [show 0 * 4 = 0 from rfl] at hx189_0)
                                (try rw [Addr.add_zero'] at hx189_0)
                                (try rw [show ((0 : Int)).toNat = 0 from rfl] at hx189_1)
                                (try rw [show 0 * 4 = 0 from rfl] at hx189_1)
                                (try rw [Addr.add_zero'] at hx189_1)
                                (try rw [show ((0 : Int)).toNat = 0 from rfl] at hx189_2)
                                (try rw [show 0 * 4 = 0 from rfl] at hx189_2)
                                (try rw [Addr.add_zero'] at hx189_2)
                                (try rw [show ((0 : Int)).toNat = 0 from rfl] at hx189_3)
                                (try rw [show 0 * 4 = 0 from rfl] at hx189_3)
                                (try rw [Addr.add_zero'] at hx189_3)
                                have HR189_3 := Aside0.mk hi189_3
                                have HC189_3 := Aside0.mk hl189_3
                                clear hi189_3 hl189_3
                                replace p189 := eq_true p189
                                replace q189 := eq_true q189
                                have ea_ := Option.some.inj (hx188_3.symm.trans hx189_3)
                                injection ea_ with ea_ en_ ec_
                                subst ea_
                                subst ec_
                                clear en_
                                have p190 : 0 ≤ (x3_2 : Int) := of_decide_eq_true (by first | (with_reducible assumption) | assumption)
                                have q190 : x3_2 < (((rd_T51 l0 0).f3).length : Int) := of_decide_eq_true (by first | (with_reducible assumption) | assumption)
                                obtain ⟨ad190, A190_3, c190_3, e190, hx190_0, hx190_1, hx190_2, hx190_3, hl190_3, hi190_3⟩ := at_T133 HR189_3.out x3_2 p190 q190
                                cases e190
                                have HR190_3 := Aside0.mk hi190_3
                                have HC190_3 := Aside0.mk hl190_3
                                clear hi190_3 hl190_3
                                replace p190 := eq_true p190
                                replace q190 := eq_true q190
                                have HRa191 := Aside0.mk (Kd.C_elem HR189_3.out (x3_2 : Int) (of_decide_eq_true (by first | (with_reducible assumption) | assumption)) (of_decide_eq_true (by first | (with_reducible assumption) | assumption)))
                                go_wp2_with (first | (go_at_call 146; (with_reducible refine (spec_l7Message.calls k2 _ (((rd_T51 l0 0).f3).drop (x3_2 : Int).toNat).length (((rd_T51 l0 0).f3).drop (x3_2 : Int).toNat) t192 _ ?side1 ?side2 A15.out).mono ?_); (case side1 => repeat (first | exact HRa191.out | (with_reducible refine Kd.C_alloc ?_ _) | (with_reducible refine Kd.C_drewN ?_ _) | (with_reducible refine Kd.C_drew ?_))); (case side2 => exact Nat.le_refl _); rintro e w' ⟨rfl, ⟨nd, rfl⟩⟩; (try first | exact ⟨rfl, _, World.drewN_drewN _ _ _⟩ | exact ⟨rfl, _, Eq.trans (World.drewN_drewN _ _ _) (congrArg (World.drewN _) (Nat.add_assoc _ _ _))⟩); have p200 : 0 ≤ (0 : Int) := (by omega); have q200 : 0 < (l0.length : Int) := of_decide_eq_true (by first | (with_reducible assumption) | assumption); obtain ⟨ad200, A200_3, c200_3, e200, hx200_0, hx200_1, hx200_2, hx200_3, hl200_3, hi200_3⟩ := at_T51 HR0.out 0 p200 q200; obtain rfl : ad181 = ad200 := (by injection e200); have qi200 : (0 < l0.length) = True := eq_true (by omega); (try rw [show ((0 : Int)).toNat = 0 from rfl] at hx200_0); (try rw [show 0 * 4 = 0 from rfl] at hx200_0); (try rw [Addr.add_zero'] at hx200_0); (try rw [show ((0 : Int)).toNat = 0 from rfl] at hx200_1); (try rw [show 0 * 4 = 0 from rfl] at hx200_1); (try rw [Addr.add_zero'] at hx200_1); (try rw [show ((0 : Int)).toNat = 0 from rfl] at hx200_2); (try rw [show 0 * 4 = 0 from rfl] at hx200_2); (try rw [Addr.add_zero'] at hx200_2); (try rw [show ((0 : Int)).toNat = 0 from rfl] at hx200_3); (try rw [show 0 * 4 = 0 from rfl] at hx200_3); (try rw [Addr.add_zero'] at hx200_3); have HR200_3 := Aside0.mk hi200_3; have HC200_3 := Aside0.mk hl200_3; clear hi200_3 hl200_3; replace p200 := eq_true p200; replace q200 := eq_true q200; have ea_ := Option.some.inj (hx188_3.symm.trans hx200_3); injection ea_ with ea_ en_ ec_; subst ea_; subst ec_; clear en_; have p201 : 0 ≤ (x3_2 : Int) := of_decide_eq_true (by first | (with_reducible assumption) | assumption); have q201 : x3_2 < (((rd_T51 l0 0).f3).length : Int) := of_decide_eq_true (by first | (with_reducible assumption) | assumption); obtain ⟨ad201, A201_3, c201_3, e201, hx201_0, hx201_1, hx201_2, hx201_3, hl201_3, hi201_3⟩ := at_T133 HR200_3.out x3_2 p201 q201; cases e201; have HR201_3 := Aside0.mk hi201_3; have HC201_3 := Aside0.mk hl201_3; clear hi201_3 hl201_3; replace p201 := eq_true p201; replace q201 := eq_true q201; have p202 : 0 ≤ (0 : Int) := (by omega); have q202 : 0 < (l0.length : Int) := of_decide_eq_true (by first | (with_reducible assumption) | assumption); obtain ⟨ad202, A202_3, c202_3, e202, hx202_0, hx202_1, hx202_2, hx202_3, hl202_3, hi202_3⟩ := at_T51 HR0.out 0 p202 q202; obtain rfl : ad181 = ad202 := (by injection e202); have qi202 : (0 < l0.length) = True := eq_true (by omega); (try rw [show ((0 : Int)).toNat = 0 from rfl] at hx202_0); (try rw [show 0 * 4 = 0 from rfl] at hx202_0); (try rw [Addr.add_zero'] at hx202_0); (try rw [show ((0 : Int)).toNat = 0 from rfl] at hx202_1); (try rw [show 0 * 4 = 0 from rfl] at hx202_1); (try rw [Addr.add_zero'] at hx202_1); (try rw [show ((0 : Int)).toNat = 0 from rfl] at hx202_2); (try rw [show 0 * 4 = 0 from rfl] at hx202_2); (try rw [Addr.add_zero'] at hx202_2); (try rw [show ((0 : Int)).toNat = 0 from rfl] at hx202_3); (try rw [show 0 * 4 = 0 from rfl] at hx202_3); (try rw [Addr.add_zero'] at hx202_3); have HR202_3 := Aside0.mk hi202_3; have HC202_3 := Aside0.mk hl202_3; clear hi202_3 hl202_3; replace p202 := eq_true p202; replace q202 := eq_true q202; have ea_ := Option.some.inj (hx188_3.symm.trans hx202_3); injection ea_ with ea_ en_ ec_; subst ea_; subst ec_; clear en_))
                                repeat (go_quiet (first | (go_at_call 146; (with_reducible refine (spec_l7Message.calls k2 _ (((rd_T51 l0 0).f3).drop (x3_2 : Int).toNat).length (((rd_T51 l0 0).f3).drop (x3_2 : Int).toNat) t192 _ ?side1 ?side2 A15.out).mono ?_); (case side1 => repeat (first | exact HRa191.out | (with_reducible refine Kd.C_alloc ?_ _) | (with_reducible refine Kd.C_drewN ?_ _) | (with_reducible refine Kd.C_drew ?_))); (case side2 => exact Nat.le_refl _); rintro e w' ⟨rfl, ⟨nd, rfl⟩⟩; (try first | exact ⟨rfl, _, World.drewN_drewN _ _ _⟩ | exact ⟨rfl, _, Eq.trans (World.drewN_drewN _ _ _) (congrArg (World.drewN _) (Nat.add_assoc _ _ _))⟩); have p200 : 0 ≤ (0 : Int) := (by omega); have q200 : 0 < (l0.length : Int) := of_decide_eq_true (by first | (with_reducible assumption) | assumption); obtain ⟨ad200, A200_3, c200_3, e200, hx200_0, hx200_1, hx200_2, hx200_3, hl200_3, hi200_3⟩ := at_T51 HR0.out 0 p200 q200; obtain rfl : ad181 = ad200 := (by injection e200); have qi200 : (0 < l0.length) = True := eq_true (by omega); (try rw [show ((0 : Int)).toNat = 0 from rfl] at hx200_0); (try rw [show 0 * 4 = 0 from rfl] at hx200_0); (try rw [Addr.add_zero'] at hx200_0); (try rw [show ((0 : Int)).toNat = 0 from rfl] at hx200_1); (try rw [show 0 * 4 = 0 from rfl] at hx200_1); (try rw [Addr.add_zero'] at hx200_1); (try rw [show ((0 : Int)).toNat = 0 from rfl] at hx200_2); (try rw [show 0 * 4 = 0 from rfl] at hx200_2); (try rw [Addr.add_zero'] at hx200_2); (try rw [show ((0 : Int)).toNat = 0 from rfl] at hx200_3); (try rw [show 0 * 4 = 0 from rfl] at hx200_3); (try rw [Addr.add_zero'] at hx200_3); have HR200_3 := Aside0.mk hi200_3; have HC200_3 := Aside0.mk hl200_3; clear hi200_3 hl200_3; replace p200 := eq_true p200; replace q200 := eq_true q200; have ea_ := Option.some.inj (hx188_3.symm.trans hx200_3); injection ea_ with ea_ en_ ec_; subst ea_; subst ec_; clear en_; have p201 : 0 ≤ (x3_2 : Int) := of_decide_eq_true (by first | (with_reducible assumption) | assumption); have q201 : x3_2 < (((rd_T51 l0 0).f3).length : Int) := of_decide_eq_true (by first | (with_reducible assumption) | assumption); obtain ⟨ad201, A201_3, c201_3, e201, hx201_0, hx201_1, hx201_2, hx201_3, hl201_3, hi201_3⟩ := at_T133 HR200_3.out x3_2 p201 q201; cases e201; have HR201_3 := Aside0.mk hi201_3; have HC201_3 := Aside0.mk hl201_3; clear hi201_3 hl201_3; replace p201 := eq_true p201; replace q201 := eq_true q201; have p202 : 0 ≤ (0 : Int) := (by omega); have q202 : 0 < (l0.length : Int) := of_decide_eq_true (by first | (with_reducible assumption) | assumption); obtain ⟨ad202, A202_3, c202_3, e202, hx202_0, hx202_1, hx202_2, hx202_3, hl202_3, hi202_3⟩ := at_T51 HR0.out 0 p202 q202; obtain rfl : ad181 = ad202 := (by injection e202); have qi202 : (0 < l0.length) = True := eq_true (by omega); (try rw [show ((0 : Int)).toNat = 0 from rfl] at hx202_0); (try rw [show 0 * 4 = 0 from rfl] at hx202_0); (try rw [Addr.add_zero'] at hx202_0); (try rw [show ((0 : Int)).toNat = 0 from rfl] at hx202_1); (try rw [show 0 * 4 = 0 from rfl] at hx202_1); (try rw [Addr.add_zero'] at hx202_1); (try rw [show ((0 : Int)).toNat = 0 from rfl] at hx202_2); (try rw [show 0 * 4 = 0 from rfl] at hx202_2); (try rw [Addr.add_zero'] at hx202_2); (try rw [show ((0 : Int)).toNat = 0 from rfl] at hx202_3); (try rw [show 0 * 4 = 0 from rfl] at hx202_3); (try rw [Addr.add_zero'] at hx202_3); have HR202_3 := Aside0.mk hi202_3; have HC202_3 := Aside0.mk hl202_3; clear hi202_3 hl202_3; replace p202 := eq_true p202; replace q202 := eq_true q202; have ea_ := Option.some.inj (hx188_3.symm.trans hx202_3); injection ea_ with ea_ en_ ec_; subst ea_; subst ec_; clear en_)); try go_wp2_with (first | (go_at_call 146; (with_reducible refine (spec_l7Message.calls k2 _ (((rd_T51 l0 0).f3).drop (x3_2 : Int).toNat).length (((rd_T51 l0 0).f3).drop (x3_2 : Int).toNat) t192 _ ?side1 ?side2 A15.out).mono ?_); (case side1 => repeat (first | exact HRa191.out | (with_reducible refine Kd.C_alloc ?_ _) | (with_reducible refine Kd.C_drewN ?_ _) | (with_reducible refine Kd.C_drew ?_))); (case side2 => exact Nat.le_refl _); rintro e w' ⟨rfl, ⟨nd, rfl⟩⟩; (try first | exact ⟨rfl, _, World.drewN_drewN _ _ _⟩ | exact ⟨rfl, _, Eq.trans (World.drewN_drewN _ _ _) (congrArg (World.drewN _) (Nat.add_assoc _ _ _))⟩); have p200 : 0 ≤ (0 : Int) := (by omega); have q200 : 0 < (l0.length : Int) := of_decide_eq_true (by first | (with_reducible assumption) | assumption); obtain ⟨ad200, A200_3, c200_3, e200, hx200_0, hx200_1, hx200_2, hx200_3, hl200_3, hi200_3⟩ := at_T51 HR0.out 0 p200 q200; obtain rfl : ad181 = ad200 := (by injection e200); have qi200 : (0 < l0.length) = True := eq_true (by omega); (try rw [show ((0 : Int)).toNat = 0 from rfl] at hx200_0); (try rw [show 0 * 4 = 0 from rfl] at hx200_0); (try rw [Addr.add_zero'] at hx200_0); (try rw [show ((0 : Int)).toNat = 0 from rfl] at hx200_1); (try rw [show 0 * 4 = 0 from rfl] at hx200_1); (try rw [Addr.add_zero'] at hx200_1); (try rw [show ((0 : Int)).toNat = 0 from rfl] at hx200_2); (try rw [show 0 * 4 = 0 from rfl] at hx200_2); (try rw [Addr.add_zero'] at hx200_2); (try rw [show ((0 : Int)).toNat = 0 from rfl] at hx200_3); (try rw [show 0 * 4 = 0 from rfl] at hx200_3); (try rw [Addr.add_zero'] at hx200_3); have HR200_3 := Aside0.mk hi200_3; have HC200_3 := Aside0.mk hl200_3; clear hi200_3 hl200_3; replace p200 := eq_true p200; replace q200 := eq_true q200; have ea_ := Option.some.inj (hx188_3.symm.trans hx200_3); injection ea_ with ea_ en_ ec_; subst ea_; subst ec_; clear en_; have p201 : 0 ≤ (x3_2 : Int) := of_decide_eq_true (by first | (with_reducible assumption) | assumption); have q201 : x3_2 < (((rd_T51 l0 0).f3).length : Int) := of_decide_eq_true (by first | (with_reducible assumption) | assumption); obtain ⟨ad201, A201_3, c201_3, e201, hx201_0, hx201_1, hx201_2, hx201_3, hl201_3, hi201_3⟩ := at_T133 HR200_3.out x3_2 p201 q201; cases e201; have HR201_3 := Aside0.mk hi201_3; have HC201_3 := Aside0.mk hl201_3; clear hi201_3 hl201_3; replace p201 := eq_true p201; replace q201 := eq_true q201; have p202 : 0 ≤ (0 : Int) := (by omega); have q202 : 0 < (l0.length : Int) := of_decide_eq_true (by first | (with_reducible assumption) | assumption); obtain ⟨ad202, A202_3, c202_3, e202, hx202_0, hx202_1, hx202_2, hx202_3, hl202_3, hi202_3⟩ := at_T51 HR0.out 0 p202 q202; obtain rfl : ad181 = ad202 := (by injection e202); have qi202 : (0 < l0.length) = True := eq_true (by omega); (try rw [show ((0 : Int)).toNat = 0 from rfl] at hx202_0); (try rw [show 0 * 4 = 0 from rfl] at hx202_0); (try rw [Addr.add_zero'] at hx202_0); (try rw [show ((0 : Int)).toNat = 0 from rfl] at hx202_1); (try rw [show 0 * 4 = 0 from rfl] at hx202_1); (try rw [Addr.add_zero'] at hx202_1); (try rw [show ((0 : Int)).toNat = 0 from rfl] at hx202_2); (try rw [show 0 * 4 = 0 from rfl] at hx202_2); (try rw [Addr.add_zero'] at hx202_2); (try rw [show ((0 : Int)).toNat = 0 from rfl] at hx202_3); (try rw [show 0 * 4 = 0 from rfl] at hx202_3); (try rw [Addr.add_zero'] at hx202_3); have HR202_3 := Aside0.mk hi202_3; have HC202_3 := Aside0.mk hl202_3; clear hi202_3 hl202_3; replace p202 := eq_true p202; replace q202 := eq_true q202; have ea_ := Option.some.inj (hx188_3.symm.trans hx202_3); injection ea_ with ea_ en_ ec_; subst ea_; subst ec_; clear en_)))
                                go_ret
                                exact ⟨by first | rfl | (simp; done) | (simp [*]; done), by repeat (first | exact Drawn0.refl _ | apply Drawn0.step)⟩
                              · rw [if_neg c23] at H
                                have c23b0 : decide (((rd_T51 l0 0).f2) ≤ ((rd_T133 ((rd_T51 l0 0).f3) x3_2).f0)) = false := decide_eq_false c23
                                clear c23
                                have H' := Aside0.mk H
                                clear H
                                have p188 : 0 ≤ (0 : Int) := (by omega)
                                have q188 : 0 < (l0.length : Int) := of_decide_eq_true (by first | (with_reducible assumption) | assumption)
                                obtain ⟨ad188, A188_3, c188_3, e188, hx188_0, hx188_1, hx188_2, hx188_3, hl188_3, hi188_3⟩ := at_T51 HR0.out 0 p188 q188
                                obtain rfl : ad181 = ad188 := (by injection e188)
                                have qi188 : (0 < l0.length) = True := eq_true (by omega)
                                (try rw [show ((0 : Int)).toNat = 0 from rfl] at hx188_0)
                                (try rw [show 0 * 4 = 0 from rfl] at hx188_0)
                                (try rw [Addr.add_zero'] at hx188_0)
                                (try rw [show ((0 : Int)).toNat = 0 from rfl] at hx188_1)
                                (try rw [show 0 * 4 = 0 from rfl] at hx188_1)
                                (try rw [Addr.add_zero'] at hx188_1)
                                (try rw [show ((0 : Int)).toNat = 0 from rfl] at hx188_2)
                                (try rw [show 0 * 4 = 0 from rfl] at hx188_2)
                                (try rw [Addr.add_zero'] at hx188_2)
                                (try rw [show ((0 : Int)).toNat = 0 from rfl] at hx188_3)
                                (try rw [show 0 * 4 = 0 from rfl] at hx188_3)
                                (try rw [Addr.add_zero'] at hx188_3)
                                have HR188_3 := Aside0.mk hi188_3
                                have HC188_3 := Aside0.mk hl188_3
                                clear hi188_3 hl188_3
                                replace p188 := eq_true p188
                                replace q188 := eq_true q188
                                have p189 : 0 ≤ (0 : Int) := (by omega)
                                have q189 : 0 < (l0.length : Int) := of_decide_eq_true (by first | (with_reducible assumption) | assumption)
                                obtain ⟨ad189, A189_3, c189_3, e189, hx189_0, hx189_1, hx189_2, hx189_3, hl189_3, hi189_3⟩ := at_T51 HR0.out 0 p189 q189
                                obtain rfl : ad181 = ad189 := (by injection e189)
                                have qi189 : (0 < l0.length) = True := eq_true (by omega)
                                (try rw [show ((0 : Int)).toNat = 0 from rfl] at hx189_0)
                                (try rw [show 0 * 4 = 0 from rfl] at hx189_0)
                                (try rw [Addr.add_zero'] at hx189_0)
                                (try rw [show ((0 : Int)).toNat = 0 from rfl] at hx189_1)
                                (try rw [show 0 * 4 = 0 from rfl] at hx189_1)
                                (try rw [Addr.add_zero'] at hx189_1)
                                (try rw [show ((0 : Int)).toNat = 0 from rfl] at hx189_2)
                                (try rw [show 0 * 4 = 0 from rfl] at hx189_2)
                                (try rw [Addr.add_zero'] at hx189_2)
                                (try rw [show ((0 : Int)).toNat = 0 from rfl] at hx189_3)
                                (try rw [show 0 * 4 = 0 from rfl] at hx189_3)
                                (try rw [Addr.add_zero'] at hx189_3)
                                have HR189_3 := Aside0.mk hi189_3
                                have HC189_3 := Aside0.mk hl189_3
                                clear hi189_3 hl189_3
                                replace p189 := eq_true p189
                                replace q189 := eq_true q189
                                have ea_ := Option.some.inj (hx188_3.symm.trans hx189_3)
                                injection ea_ with ea_ en_ ec_
                                subst ea_
                                subst ec_
                                clear en_
                                have p190 : 0 ≤ (x3_2 : Int) := of_decide_eq_true (by first | (with_reducible assumption) | assumption)
                                have q190 : x3_2 < (((rd_T51 l0 0).f3).length : Int) := of_decide_eq_true (by first | (with_reducible assumption) | assumption)
                                obtain ⟨ad190, A190_3, c190_3, e190, hx190_0, hx190_1, hx190_2, hx190_3, hl190_3, hi190_3⟩ := at_T133 HR189_3.out x3_2 p190 q190
                                cases e190
                                have HR190_3 := Aside0.mk hi190_3
                                have HC190_3 := Aside0.mk hl190_3
                                clear hi190_3 hl190_3
                                replace p190 := eq_true p190
                                replace q190 := eq_true q190
                                have HRa191 := Aside0.mk (Kd.C_elem HR189_3.out (x3_2 : Int) (of_decide_eq_true (by first | (with_reducible assumption) | assumption)) (of_decide_eq_true (by first | (with_reducible assumption) | assumption)))
                                go_wp2_with (first | (go_at_call 146; (with_reducible refine (spec_l7Message.calls k2 _ (((rd_T51 l0 0).f3).drop (x3_2 : Int).toNat).length (((rd_T51 l0 0).f3).drop (x3_2 : Int).toNat) t192 _ ?side1 ?side2 A15.out).mono ?_); (case side1 => repeat (first | exact HRa191.out | (with_reducible refine Kd.C_alloc ?_ _) | (with_reducible refine Kd.C_drewN ?_ _) | (with_reducible refine Kd.C_drew ?_))); (case side2 => exact Nat.le_refl _); rintro e w' ⟨rfl, ⟨nd, rfl⟩⟩; (try first | exact ⟨rfl, _, World.drewN_drewN _ _ _⟩ | exact ⟨rfl, _, Eq.trans (World.drewN_drewN _ _ _) (congrArg (World.drewN _) (Nat.add_assoc _ _ _))⟩); have p200 : 0 ≤ (0 : Int) := (by omega); have q200 : 0 < (l0.length : Int) := of_decide_eq_true (by first | (with_reducible assumption) | assumption); obtain ⟨ad200, A200_3, c200_3, e200, hx200_0, hx200_1, hx200_2, hx200_3, hl200_3, hi200_3⟩ := at_T51 HR0.out 0 p200 q200; obtain rfl : ad181 = ad200 := (by injection e200); have qi200 : (0 < l0.length) = True := eq_true (by omega); (try rw [show ((0 : Int)).toNat = 0 from rfl] at hx200_0); (try rw [show 0 * 4 = 0 from rfl] at hx200_0); (try rw [Addr.add_zero'] at hx200_0); (try rw [show ((0 : Int)).toNat = 0 from rfl] at hx200_1); (try rw [show 0 * 4 = 0 from rfl] at hx200_1); (try rw [Addr.add_zero'] at hx200_1); (try rw [show ((0 : Int)).toNat = 0 from rfl] at hx200_2); (try rw [show 0 * 4 = 0 from rfl] at hx200_2); (try rw [Addr.add_zero'] at hx200_2); (try rw [show ((0 : Int)).toNat = 0 from rfl] at hx200_3); (try rw [show 0 * 4 = 0 from rfl] at hx200_3); (try rw [Addr.add_zero'] at hx200_3); have HR200_3 := Aside0.mk hi200_3; have HC200_3 := Aside0.mk hl200_3; clear hi200_3 hl200_3; replace p200 := eq_true p200; replace q200 := eq_true q200; have ea_ := Option.some.inj (hx188_3.symm.trans hx200_3); injection ea_ with ea_ en_ ec_; subst ea_; subst ec_; clear en_; have p201 : 0 ≤ (x3_2 : Int) := of_decide_eq_true (by first | (with_reducible assumption) | assumption); have q201 : x3_2 < (((rd_T51 l0 0).f3).length : Int) := of_decide_eq_true (by first | (with_reducible assumption) | assumption); obtain ⟨ad201, A201_3, c201_3, e201, hx201_0, hx201_1, hx201_2, hx201_3, hl201_3, hi201_3⟩ := at_T133 HR200_3.out x3_2 p201 q201; cases e201; have HR201_3 := Aside0.mk hi201_3; have HC201_3 := Aside0.mk hl201_3; clear hi201_3 hl201_3; replace p201 := eq_true p201; replace q201 := eq_true q201; have p202 : 0 ≤ (0 : Int) := (by omega); have q202 : 0 < (l0.length : Int) := of_decide_eq_true (by first | (with_reducible assumption) | assumption); obtain ⟨ad202, A202_3, c202_3, e202, hx202_0, hx202_1, hx202_2, hx202_3, hl202_3, hi202_3⟩ := at_T51 HR0.out 0 p202 q202; obtain rfl : ad181 = ad202 := (by injection e202); have qi202 : (0 < l0.length) = True := eq_true (by omega); (try rw [show ((0 : Int)).toNat = 0 from rfl] at hx202_0); (try rw [show 0 * 4 = 0 from rfl] at hx202_0); (try rw [Addr.add_zero'] at hx202_0); (try rw [show ((0 : Int)).toNat = 0 from rfl] at hx202_1); (try rw [show 0 * 4 = 0 from rfl] at hx202_1); (try rw [Addr.add_zero'] at hx202_1); (try rw [show ((0 : Int)).toNat = 0 from rfl] at hx202_2); (try rw [show 0 * 4 = 0 from rfl] at hx202_2); (try rw [Addr.add_zero'] at hx202_2); (try rw [show ((0 : Int)).toNat = 0 from rfl] at hx202_3); (try rw [show 0 * 4 = 0 from rfl] at hx202_3); (try rw [Addr.add_zero'] at hx202_3); have HR202_3 := Aside0.mk hi202_3; have HC202_3 := Aside0.mk hl202_3; clear hi202_3 hl202_3; replace p202 := eq_true p202; replace q202 := eq_true q202; have ea_ := Option.some.inj (hx188_3.symm.trans hx202_3); injection ea_ with ea_ en_ ec_; subst ea_; subst ec_; clear en_))
                                repeat (go_quiet (first | (go_at_call 146; (with_reducible refine (spec_l7Message.calls k2 _ (((rd_T51 l0 0).f3).drop (x3_2 : Int).toNat).length (((rd_T51 l0 0).f3).drop (x3_2 : Int).toNat) t192 _ ?side1 ?side2 A15.out).mono ?_); (case side1 => repeat (first | exact HRa191.out | (with_reducible refine Kd.C_alloc ?_ _) | (with_reducible refine Kd.C_drewN ?_ _) | (with_reducible refine Kd.C_drew ?_))); (case side2 => exact Nat.le_refl _); rintro e w' ⟨rfl, ⟨nd, rfl⟩⟩; (try first | exact ⟨rfl, _, World.drewN_drewN _ _ _⟩ | exact ⟨rfl, _, Eq.trans (World.drewN_drewN _ _ _) (congrArg (World.drewN _) (Nat.add_assoc _ _ _))⟩); have p200 : 0 ≤ (0 : Int) := (by omega); have q200 : 0 < (l0.length : Int) := of_decide_eq_true (by first | (with_reducible assumption) | assumption); obtain ⟨ad200, A200_3, c200_3, e200, hx200_0, hx200_1, hx200_2, hx200_3, hl200_3, hi200_3⟩ := at_T51 HR0.out 0 p200 q200; obtain rfl : ad181 = ad200 := (by injection e200); have qi200 : (0 < l0.length) = True := eq_true (by omega); (try rw [show ((0 : Int)).toNat = 0 from rfl] at hx200_0); (try rw [show 0 * 4 = 0 from rfl] at hx200_0); (try rw [Addr.add_zero'] at hx200_0); (try rw [show ((0 : Int)).toNat = 0 from rfl] at hx200_1); (try rw [show 0 * 4 = 0 from rfl] at hx200_1); (try rw [Addr.add_zero'] at hx200_1); (try rw [show ((0 : Int)).toNat = 0 from rfl] at hx200_2); (try rw [show 0 * 4 = 0 from rfl] at hx200_2); (try rw [Addr.add_zero'] at hx200_2); (try rw [show ((0 : Int)).toNat = 0 from rfl] at hx200_3); (try rw [show 0 * 4 = 0 from rfl] at hx200_3); (try rw [Addr.add_zero'] at hx200_3); have HR200_3 := Aside0.mk hi200_3; have HC200_3 := Aside0.mk hl200_3; clear hi200_3 hl200_3; replace p200 := eq_true p200; replace q200 := eq_true q200; have ea_ := Option.some.inj (hx188_3.symm.trans hx200_3); injection ea_ with ea_ en_ ec_; subst ea_; subst ec_; clear en_; have p201 : 0 ≤ (x3_2 : Int) := of_decide_eq_true (by first | (with_reducible assumption) | assumption); have q201 : x3_2 < (((rd_T51 l0 0).f3).length : Int) := of_decide_eq_true (by first | (with_reducible assumption) | assumption); obtain ⟨ad201, A201_3, c201_3, e201, hx201_0, hx201_1, hx201_2, hx201_3, hl201_3, hi201_3⟩ := at_T133 HR200_3.out x3_2 p201 q201; cases e201; have HR201_3 := Aside0.mk hi201_3; have HC201_3 := Aside0.mk hl201_3; clear hi201_3 hl201_3; replace p201 := eq_true p201; replace q201 := eq_true q201; have p202 : 0 ≤ (0 : Int) := (by omega); have q202 : 0 < (l0.length : Int) := of_decide_eq_true (by first | (with_reducible assumption) | assumption); obtain ⟨ad202, A202_3, c202_3, e202, hx202_0, hx202_1, hx202_2, hx202_3, hl202_3, hi202_3⟩ := at_T51 HR0.out 0 p202 q202; obtain rfl : ad181 = ad202 := (by injection e202); have qi202 : (0 < l0.length) = True := eq_true (by omega); (try rw [show ((0 : Int)).toNat = 0 from rfl] at hx202_0); (try rw [show 0 * 4 = 0 from rfl] at hx202_0); (try rw [Addr.add_zero'] at hx202_0); (try rw [show ((0 : Int)).toNat = 0 from rfl] at hx202_1); (try rw [show 0 * 4 = 0 from rfl] at hx202_1); (try rw [Addr.add_zero'] at hx202_1); (try rw [show ((0 : Int)).toNat = 0 from rfl] at hx202_2); (try rw [show 0 * 4 = 0 from rfl] at hx202_2); (try rw [Addr.add_zero'] at hx202_2); (try rw [show ((0 : Int)).toNat = 0 from rfl] at hx202_3); (try rw [show 0 * 4 = 0 from rfl] at hx202_3); (try rw [Addr.add_zero'] at hx202_3); have HR202_3 := Aside0.mk hi202_3; have HC202_3 := Aside0.mk hl202_3; clear hi202_3 hl202_3; replace p202 := eq_true p202; replace q202 := eq_true q202; have ea_ := Option.some.inj (hx188_3.symm.trans hx202_3); injection ea_ with ea_ en_ ec_; subst ea_; subst ec_; clear en_)); try go_wp2_with (first | (go_at_call 146; (with_reducible refine (spec_l7Message.calls k2 _ (((rd_T51 l0 0).f3).drop (x3_2 : Int).toNat).length (((rd_T51 l0 0).f3).drop (x3_2 : Int).toNat) t192 _ ?side1 ?side2 A15.out).mono ?_); (case side1 => repeat (first | exact HRa191.out | (with_reducible refine Kd.C_alloc ?_ _) | (with_reducible refine Kd.C_drewN ?_ _) | (with_reducible refine Kd.C_drew ?_))); (case side2 => exact Nat.le_refl _); rintro e w' ⟨rfl, ⟨nd, rfl⟩⟩; (try first | exact ⟨rfl, _, World.drewN_drewN _ _ _⟩ | exact ⟨rfl, _, Eq.trans (World.drewN_drewN _ _ _) (congrArg (World.drewN _) (Nat.add_assoc _ _ _))⟩); have p200 : 0 ≤ (0 : Int) := (by omega); have q200 : 0 < (l0.length : Int) := of_decide_eq_true (by first | (with_reducible assumption) | assumption); obtain ⟨ad200, A200_3, c200_3, e200, hx200_0, hx200_1, hx200_2, hx200_3, hl200_3, hi200_3⟩ := at_T51 HR0.out 0 p200 q200; obtain rfl : ad181 = ad200 := (by injection e200); have qi200 : (0 < l0.length) = True := eq_true (by omega); (try rw [show ((0 : Int)).toNat = 0 from rfl] at hx200_0); (try rw [show 0 * 4 = 0 from rfl] at hx200_0); (try rw [Addr.add_zero'] at hx200_0); (try rw [show ((0 : Int)).toNat = 0 from rfl] at hx200_1); (try rw [show 0 * 4 = 0 from rfl] at hx200_1); (try rw [Addr.add_zero'] at hx200_1); (try rw [show ((0 : Int)).toNat = 0 from rfl] at hx200_2); (try rw [show 0 * 4 = 0 from rfl] at hx200_2); (try rw [Addr.add_zero'] at hx200_2); (try rw [show ((0 : Int)).toNat = 0 from rfl] at hx200_3); (try rw [show 0 * 4 = 0 from rfl] at hx200_3); (try rw [Addr.add_zero'] at hx200_3); have HR200_3 := Aside0.mk hi200_3; have HC200_3 := Aside0.mk hl200_3; clear hi200_3 hl200_3; replace p200 := eq_true p200; replace q200 := eq_true q200; have ea_ := Option.some.inj (hx188_3.symm.trans hx200_3); injection ea_ with ea_ en_ ec_; subst ea_; subst ec_; clear en_; have p201 : 0 ≤ (x3_2 : Int) := of_decide_eq_true (by first | (with_reducible assumption) | assumption); have q201 : x3_2 < (((rd_T51 l0 0).f3).length : Int) := of_decide_eq_true (by first | (with_reducible assumption) | assumption); obtain ⟨ad201, A201_3, c201_3, e201, hx201_0, hx201_1, hx201_2, hx201_3, hl201_3, hi201_3⟩ := at_T133 HR200_3.out x3_2 p201 q201; cases e201; have HR201_3 := Aside0.mk hi201_3; have HC201_3 := Aside0.mk hl201_3; clear hi201_3 hl201_3; replace p201 := eq_true p201; replace q201 := eq_true q201; have p202 : 0 ≤ (0 : Int) := (by omega); have q202 : 0 < (l0.length : Int) := of_decide_eq_true (by first | (with_reducible assumption) | assumption); obtain ⟨ad202, A202_3, c202_3, e202, hx202_0, hx202_1, hx202_2, hx202_3, hl202_3, hi202_3⟩ := at_T51 HR0.out 0 p202 q202; obtain rfl : ad181 = ad202 := (by injection e202); have qi202 : (0 < l0.length) = True := eq_true (by omega); (try rw [show ((0 : Int)).toNat = 0 from rfl] at hx202_0); (try rw [show 0 * 4 = 0 from rfl] at hx202_0); (try rw [Addr.add_zero'] at hx202_0); (try rw [show ((0 : Int)).toNat = 0 from rfl] at hx202_1); (try rw [show 0 * 4 = 0 from rfl] at hx202_1); (try rw [Addr.add_zero'] at hx202_1); (try rw [show ((0 : Int)).toNat = 0 from rfl] at hx202_2); (try rw [show 0 * 4 = 0 from rfl] at hx202_2); (try rw [Addr.add_zero'] at hx202_2); (try rw [show ((0 : Int)).toNat = 0 from rfl] at hx202_3); (try rw [show 0 * 4 = 0 from rfl] at hx202_3); (try rw [Addr.add_zero'] at hx202_3); have HR202_3 := Aside0.mk hi202_3; have HC202_3 := Aside0.mk hl202_3; clear hi202_3 hl202_3; replace p202 := eq_true p202; replace q202 := eq_true q202; have ea_ := Option.some.inj (hx188_3.symm.trans hx202_3); injection ea_ with ea_ en_ ec_; subst ea_; subst ec_; clear en_)))
                                go_roundg k2
                                case measure => have := HJ4.out; have := HK2.out; omega
                                case rel => exact ⟨(wrap64 (x3_2 + 1)), (by first | rfl | (simp; done) | (simp [*]; done)), H', ⟨by have := HJ4.out; have := HK2.out; omega⟩, by repeat (first | exact Drawn0.refl _ | apply Drawn0.step)⟩
                          · rw [if_neg c16] at H
                            have c16b0 : (t192 == 0) = false := beq_eq_false_iff_ne.mpr c16
                            have c16b1 : (t192 != 0) = true := bne_iff_ne.mpr c16
                            obtain rfl := Option.some.inj H
                            have p188 : 0 ≤ (0 : Int) := (by omega)
                            have q188 : 0 < (l0.length : Int) := of_decide_eq_true (by first | (with_reducible assumption) | assumption)
                            obtain ⟨ad188, A188_3, c188_3, e188, hx188_0, hx188_1, hx188_2, hx188_3, hl188_3, hi188_3⟩ := at_T51 HR0.out 0 p188 q188
                            obtain rfl : ad181 = ad188 := (by injection e188)
                            have qi188 : (0 < l0.length) = True := eq_true (by omega)
                            (try rw [show ((0 : Int)).toNat = 0 from rfl] at hx188_0)
                            (try rw [show 0 * 4 = 0 from rfl] at hx188_0)
                            (try rw [Addr.add_zero'] at hx188_0)
                            (try rw [show ((0 : Int)).toNat = 0 from rfl] at hx188_1)
                            (try rw [show 0 * 4 = 0 from rfl] at hx188_1)
                            (try rw [Addr.add_zero'] at hx188_1)
                            (try rw [show ((0 : Int)).toNat = 0 from rfl] at hx188_2)
                            (try rw [show 0 * 4 = 0 from rfl] at hx188_2)
                            (try rw [Addr.add_zero'] at hx188_2)
                            (try rw [show ((0 : Int)).toNat = 0 from rfl] at hx188_3)
                            (try rw [show 0 * 4 = 0 from rfl] at hx188_3)
                            (try rw [Addr.add_zero'] at hx188_3)
                            have HR188_3 := Aside0.mk hi188_3
                            have HC188_3 := Aside0.mk hl188_3
                            clear hi188_3 hl188_3
                            replace p188 := eq_true p188
                            replace q188 := eq_true q188
                            have p189 : 0 ≤ (0 : Int) := (by omega)
                            have q189 : 0 < (l0.length : Int) := of_decide_eq_true (by first | (with_reducible assumption) | assumption)
                            obtain ⟨ad189, A189_3, c189_3, e189, hx189_0, hx189_1, hx189_2, hx189_3, hl189_3, hi189_3⟩ := at_T51 HR0.out 0 p189 q189
                            obtain rfl : ad181 = ad189 := (by injection e189)
                            have qi189 : (0 < l0.length) = True := eq_true (by omega)
                            (try rw [show ((0 : Int)).toNat = 0 from rfl] at hx189_0)
                            (try rw [show 0 * 4 = 0 from rfl] at hx189_0)
                            (try rw [Addr.add_zero'] at hx189_0)
                            (try rw [show ((0 : Int)).toNat = 0 from rfl] at hx189_1)
                            (try rw [show 0 * 4 = 0 from rfl] at hx189_1)
                            (try rw [Addr.add_zero'] at hx189_1)
                            (try rw [show ((0 : Int)).toNat = 0 from rfl] at hx189_2)
                            (try rw [show 0 * 4 = 0 from rfl] at hx189_2)
                            (try rw [Addr.add_zero'] at hx189_2)
                            (try rw [show ((0 : Int)).toNat = 0 from rfl] at hx189_3)
                            (try rw [show 0 * 4 = 0 from rfl] at hx189_3)
                            (try rw [Addr.add_zero'] at hx189_3)
                            have HR189_3 := Aside0.mk hi189_3
                            have HC189_3 := Aside0.mk hl189_3
                            clear hi189_3 hl189_3
                            replace p189 := eq_true p189
                            replace q189 := eq_true q189
                            have ea_ := Option.some.inj (hx188_3.symm.trans hx189_3)
                            injection ea_ with ea_ en_ ec_
                            subst ea_
                            subst ec_
                            clear en_
                            have p190 : 0 ≤ (x3_2 : Int) := of_decide_eq_true (by first | (with_reducible assumption) | assumption)
                            have q190 : x3_2 < (((rd_T51 l0 0).f3).length : Int) := of_decide_eq_true (by first | (with_reducible assumption) | assumption)
                            obtain ⟨ad190, A190_3, c190_3, e190, hx190_0, hx190_1, hx190_2, hx190_3, hl190_3, hi190_3⟩ := at_T133 HR189_3.out x3_2 p190 q190
                            cases e190
                            have HR190_3 := Aside0.mk hi190_3
                            have HC190_3 := Aside0.mk hl190_3
                            clear hi190_3 hl190_3
                            replace p190 := eq_true p190
                            replace q190 := eq_true q190
                            have HRa191 := Aside0.mk (Kd.C_elem HR189_3.out (x3_2 : Int) (of_decide_eq_true (by first | (with_reducible assumption) | assumption)) (of_decide_eq_true (by first | (with_reducible assumption) | assumption)))
                            go_wp2_with (first | (go_at_call 146; (with_reducible refine (spec_l7Message.calls k2 _ (((rd_T51 l0 0).f3).drop (x3_2 : Int).toNat).length (((rd_T51 l0 0).f3).drop (x3_2 : Int).toNat) t192 _ ?side1 ?side2 A15.out).mono ?_); (case side1 => repeat (first | exact HRa191.out | (with_reducible refine Kd.C_alloc ?_ _) | (with_reducible refine Kd.C_drewN ?_ _) | (with_reducible refine Kd.C_drew ?_))); (case side2 => exact Nat.le_refl _); rintro e w' ⟨rfl, ⟨nd, rfl⟩⟩; (try first | exact ⟨rfl, _, World.drewN_drewN _ _ _⟩ | exact ⟨rfl, _, Eq.trans (World.drewN_drewN _ _ _) (congrArg (World.drewN _) (Nat.add_assoc _ _ _))⟩)))
                            repeat (go_quiet (first | (go_at_call 146; (with_reducible refine (spec_l7Message.calls k2 _ (((rd_T51 l0 0).f3).drop (x3_2 : Int).toNat).length (((rd_T51 l0 0).f3).drop (x3_2 : Int).toNat) t192 _ ?side1 ?side2 A15.out).mono ?_); (case side1 => repeat (first | exact HRa191.out | (with_reducible refine Kd.C_alloc ?_ _) | (with_reducible refine Kd.C_drewN ?_ _) | (with_reducible refine Kd.C_drew ?_))); (case side2 => exact Nat.le_refl _); rintro e w' ⟨rfl, ⟨nd, rfl⟩⟩; (try first | exact ⟨rfl, _, World.drewN_drewN _ _ _⟩ | exact ⟨rfl, _, Eq.trans (World.drewN_drewN _ _ _) (congrArg (World.drewN _) (Nat.add_assoc _ _ _))⟩))); try go_wp2_with (first | (go_at_call 146; (with_reducible refine (spec_l7Message.calls k2 _ (((rd_T51 l0 0).f3).drop (x3_2 : Int).toNat).length (((rd_T51 l0 0).f3).drop (x3_2 : Int).toNat) t192 _ ?side1 ?side2 A15.out).mono ?_); (case side1 => repeat (first | exact HRa191.out | (with_reducible refine Kd.C_alloc ?_ _) | (with_reducible refine Kd.C_drewN ?_ _) | (with_reducible refine Kd.C_drew ?_))); (case side2 => exact Nat.le_refl _); rintro e w' ⟨rfl, ⟨nd, rfl⟩⟩; (try first | exact ⟨rfl, _, World.drewN_drewN _ _ _⟩ | exact ⟨rfl, _, Eq.trans (World.drewN_drewN _ _ _) (congrArg (World.drewN _) (Nat.add_assoc _ _ _))⟩))))
                            go_ret
                            exact ⟨by first | rfl | (simp; done) | (simp [*]; done), by repeat (first | exact Drawn0.refl _ | apply Drawn0.step)⟩
                        · rw [if_neg c14] at H
                          exact absurd H (by simp)
                      · rw [if_neg c13] at H
                        have c13b0 : decide (x3_2 < (((rd_T51 l0 0).f3).length : Int)) = false := decide_eq_false c13
                        clear c13
                        obtain rfl := Option.some.inj H
                        have p188 : 0 ≤ (0 : Int) := (by omega)
                        have q188 : 0 < (l0.length : Int) := of_decide_eq_true (by first | (with_reducible assumption) | assumption)
                        obtain ⟨ad188, A188_3, c188_3, e188, hx188_0, hx188_1, hx188_2, hx188_3, hl188_3, hi188_3⟩ := at_T51 HR0.out 0 p188 q188
                        obtain rfl : ad181 = ad188 := (by injection e188)
                        have qi188 : (0 < l0.length) = True := eq_true (by omega)
                        (try rw [show ((0 : Int)).toNat = 0 from rfl] at hx188_0)
                        (try rw [show 0 * 4 = 0 from rfl] at hx188_0)
                        (try rw [Addr.add_zero'] at hx188_0)
                        (try rw [show ((0 : Int)).toNat = 0 from rfl] at hx188_1)
                        (try rw [show 0 * 4 = 0 from rfl] at hx188_1)
                        (try rw [Addr.add_zero'] at hx188_1)
                        (try rw [show ((0 : Int)).toNat = 0 from rfl] at hx188_2)
                        (try rw [show 0 * 4 = 0 from rfl] at hx188_2)
                        (try rw [Addr.add_zero'] at hx188_2)
                        (try rw [show ((0 : Int)).toNat = 0 from rfl] at hx188_3)
                        (try rw [show 0 * 4 = 0 from rfl] at hx188_3)
                        (try rw [Addr.add_zero'] at hx188_3)
                        have HR188_3 := Aside0.mk hi188_3
                        have HC188_3 := Aside0.mk hl188_3
                        clear hi188_3 hl188_3
                        replace p188 := eq_true p188
                        replace q188 := eq_true q188
                        go_wp2
                        repeat (go_quiet (fail); try go_wp2)
                        go_ret
                        exact ⟨by first | rfl | (simp; done) | (simp [*]; done), by repeat (first | exact Drawn0.refl _ | apply Drawn0.step)⟩
                    · rw [if_neg c12] at H
                      exact absurd H (by simp)
            · rw [if_neg c10] at H
              exact absurd H (by simp)
    · replace c4 := Bool.eq_false_iff.mpr c4
      subst c4
      have H1 : (some 5) = some r := by rw [if_neg (show ¬ (false = true) by decide)] at H; exact H
      clear H
      have H := H1
      clear H1
      obtain rfl := Option.some.inj H
      have p181 : 0 ≤ (0 : Int) := (by omega)
      have q181 : 0 < (l0.length : Int) := of_decide_eq_true (by first | (with_reducible assumption) | assumption)
      obtain ⟨ad181, A181_3, c181_3, e181, hx181_0, hx181_1, hx181_2, hx181_3, hl181_3, hi181_3⟩ := at_T51 HR0.out 0 p181 q181
      cases e181
      have qi181 : (0 < l0.length) = True := eq_true (by omega)
      (try rw [show ((0 : Int)).toNat = 0 from rfl] at hx181_0)
      (try rw [show 0 * 4 = 0 from rfl] at hx181_0)
      (try rw [Addr.add_zero'] at hx181_0)
      (try rw [show ((0 : Int)).toNat = 0 from rfl] at hx181_1)
      (try rw [show 0 * 4 = 0 from rfl] at hx181_1)
      (try rw [Addr.add_zero'] at hx181_1)
      (try rw [show ((0 : Int)).toNat = 0 from rfl] at hx181_2)
      (try rw [show 0 * 4 = 0 from rfl] at hx181_2)
      (try rw [Addr.add_zero'] at hx181_2)
      (try rw [show ((0 : Int)).toNat = 0 from rfl] at hx181_3)
      (try rw [show 0 * 4 = 0 from rfl] at hx181_3)
      (try rw [Addr.add_zero'] at hx181_3)
      have HR181_3 := Aside0.mk hi181_3
      have HC181_3 := Aside0.mk hl181_3
      clear hi181_3 hl181_3
      replace p181 := eq_true p181
      replace q181 := eq_true q181
      go_enter Try.func93, Try.ntmps93
      go_wp2_with (first | (go_at_call 138; (with_reducible refine (spec_l7Name.calls k ((rd_T51 l0 0).f0) false _ A3.out).mono ?_); rintro e w' ⟨rfl, ⟨nd, rfl⟩⟩; (try first | exact ⟨rfl, _, World.drewN_drewN _ _ _⟩ | exact ⟨rfl, _, Eq.trans (World.drewN_drewN _ _ _) (congrArg (World.drewN _) (Nat.add_assoc _ _ _))⟩)))
      repeat (go_quiet (first | (go_at_call 138; (with_reducible refine (spec_l7Name.calls k ((rd_T51 l0 0).f0) false _ A3.out).mono ?_); rintro e w' ⟨rfl, ⟨nd, rfl⟩⟩; (try first | exact ⟨rfl, _, World.drewN_drewN _ _ _⟩ | exact ⟨rfl, _, Eq.trans (World.drewN_drewN _ _ _) (congrArg (World.drewN _) (Nat.add_assoc _ _ _))⟩))); try go_wp2_with (first | (go_at_call 138; (with_reducible refine (spec_l7Name.calls k ((rd_T51 l0 0).f0) false _ A3.out).mono ?_); rintro e w' ⟨rfl, ⟨nd, rfl⟩⟩; (try first | exact ⟨rfl, _, World.drewN_drewN _ _ _⟩ | exact ⟨rfl, _, Eq.trans (World.drewN_drewN _ _ _) (congrArg (World.drewN _) (Nat.add_assoc _ _ _))⟩))))
      go_ret
      exact ⟨by first | rfl | (simp; done) | (simp [*]; done), by repeat (first | exact Drawn0.refl _ | apply Drawn0.step)⟩
  · rw [if_neg c2] at H
    exact absurd H (by simp)

end Go.Proofs.Ytfbgfakdflifdaa.PFnExactStoreFault

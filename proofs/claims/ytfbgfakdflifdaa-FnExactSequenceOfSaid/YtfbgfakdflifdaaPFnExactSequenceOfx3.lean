/- Functions of the program as Lean functions, each with the proof that its call comes to what that function says (texts written by a program of this session). Conditions: those that stand in each theorem. -/
import Derived.Test.YtfbgfakdflifdaaPFnExactSequenceOfx0
import Derived.Test.YtfbgfakdflifdaaPFnExactSequenceOfx2
namespace Go.Proofs.Ytfbgfakdflifdaa.PFnExactSequenceOf
open Go.RowKit Go.Proofs.YtfbgfakdflifdaaW.PrintWords Go.Proofs.YtfbgfakdflifdaaW.PrintLast Go.Proofs.YtfbgfakdflifdaaW.PrintMore
attribute [local go_sem] max2_int min2_int max_two min_two max_three min_three max_four min_four   -- for this text's walks alone
set_option linter.unusedVariables false
set_option linter.unusedSimpArgs false

/-! ### spec_l7Box: function 93 -/
mutual
def spec_l7Box.j0 : Nat → List (S51) → Bool → Option (Int)
  | 0, _, _ => none
  | k + 1, x0, x24 => if x24 = true then (some 3) else (if 0 < (x0.length : Int) then (if (((rd_T51 x0 0).f3).length : Int) > 6 then (some 2) else (spec_l7Box.l0 k x0 0)) else (none))
def spec_l7Box.l0 : Nat → List (S51) → Int → Option (Int)
  | 0, _, _ => none
  | k + 1, x0, x3 => if 0 < (x0.length : Int) then (if x3 < (((rd_T51 x0 0).f3).length : Int) then (if 0 ≤ x3 then ((spec_l7Message.f k (((rd_T51 x0 0).f3).drop (x3 : Int).toNat)).bind fun t165 => (if t165 = 0 then (if x3 > 0 then (if 0 ≤ (wrap64 (x3 - 1)) then (if (wrap64 (x3 - 1)) < (((rd_T51 x0 0).f3).length : Int) then (if ((rd_T133 ((rd_T51 x0 0).f3) x3).f0) ≤ ((rd_T133 ((rd_T51 x0 0).f3) (wrap64 (x3 - 1))).f0) then (some 1) else (if ((rd_T133 ((rd_T51 x0 0).f3) x3).f0) ≥ ((rd_T51 x0 0).f2) then (some 1) else (spec_l7Box.l0 k x0 (wrap64 (x3 + 1))))) else (none)) else (none)) else (if ((rd_T133 ((rd_T51 x0 0).f3) x3).f0) ≥ ((rd_T51 x0 0).f2) then (some 1) else (spec_l7Box.l0 k x0 (wrap64 (x3 + 1))))) else (some t165))) else (none)) else (some 0)) else (none)
end
def spec_l7Box.f (k : Nat) (l0 : List (S51)) : Option (Int) := if 0 < (l0.length : Int) then ((spec_l7Name.f k ((rd_T51 l0 0).f0)).bind fun t155 => (if t155 = true then ((spec_l1In.f ((rd_T51 l0 0).f1) 1 999).bind fun t157 => (if t157 = true then ((spec_l1In.f ((rd_T51 l0 0).f2) 1 1000).bind fun t159 => (spec_l7Box.j0 k l0 (!t159))) else (spec_l7Box.j0 k l0 true))) else (some 5))) else (none)
theorem spec_l7Box.mono_l : ∀ k, (∀ y0 y1, LeO (spec_l7Box.j0 k y0 y1) (spec_l7Box.j0 (k + 1) y0 y1)) ∧ (∀ y0 y1, LeO (spec_l7Box.l0 k y0 y1) (spec_l7Box.l0 (k + 1) y0 y1))
  | 0 => ⟨fun _ _ r h => by simp [spec_l7Box.j0] at h, fun _ _ r h => by simp [spec_l7Box.l0] at h⟩
  | k + 1 => by
    obtain ⟨ih0, ih1⟩ := spec_l7Box.mono_l k
    refine ⟨?_, ?_⟩
    · intro y0 y1
      unfold spec_l7Box.j0
      repeat' first
      | (with_reducible exact ih0 _ _)
      | (with_reducible exact ih1 _ _)
      | (with_reducible exact spec_l7Message.mono _ _)
      | (with_reducible exact spec_l7Name.mono _ _)
      | (with_reducible exact LeO.refl _)
      | (with_reducible exact LeO.none _)
      | (with_reducible refine LeO.ite ?_ ?_)
      | (with_reducible refine LeO.bind ?_ (fun _ => ?_))
      | exact ih0 _ _
      | exact ih1 _ _
      | exact spec_l7Message.mono _ _
      | exact spec_l7Name.mono _ _
      | exact LeO.none _
      | refine LeO.ite ?_ ?_
      | refine LeO.bind ?_ (fun _ => ?_)
    · intro y0 y1
      unfold spec_l7Box.l0
      repeat' first
      | (with_reducible exact ih0 _ _)
      | (with_reducible exact ih1 _ _)
      | (with_reducible exact spec_l7Message.mono _ _)
      | (with_reducible exact spec_l7Name.mono _ _)
      | (with_reducible exact LeO.refl _)
      | (with_reducible exact LeO.none _)
      | (with_reducible refine LeO.ite ?_ ?_)
      | (with_reducible refine LeO.bind ?_ (fun _ => ?_))
      | exact ih0 _ _
      | exact ih1 _ _
      | exact spec_l7Message.mono _ _
      | exact spec_l7Name.mono _ _
      | exact LeO.none _
      | refine LeO.ite ?_ ?_
      | refine LeO.bind ?_ (fun _ => ?_)
theorem spec_l7Box.mono : ∀ a0 k, LeO (spec_l7Box.f k a0) (spec_l7Box.f (k + 1) a0) := by
  intro a0 k
  obtain ⟨ih0, ih1⟩ := spec_l7Box.mono_l k
  unfold spec_l7Box.f
  repeat' first
      | (with_reducible exact ih0 _ _)
      | (with_reducible exact ih1 _ _)
      | (with_reducible exact spec_l7Message.mono _ _)
      | (with_reducible exact spec_l7Name.mono _ _)
      | (with_reducible exact LeO.refl _)
      | (with_reducible exact LeO.none _)
      | (with_reducible refine LeO.ite ?_ ?_)
      | (with_reducible refine LeO.bind ?_ (fun _ => ?_))
      | exact ih0 _ _
      | exact ih1 _ _
      | exact spec_l7Message.mono _ _
      | exact spec_l7Name.mono _ _
      | exact LeO.none _
      | refine LeO.ite ?_ ?_
      | refine LeO.bind ?_ (fun _ => ?_)
set_option maxHeartbeats 8000000 in
set_option maxRecDepth 100000 in
theorem spec_l7Box.calls (k : Nat) (A0 : Option Addr) (c0 : Nat) (l0 : List (S51)) (r : Int) (w : World) (hr0 : Kd.C k51 w A0 l0.length l0) (hc0 : l0.length ≤ c0) (h : spec_l7Box.f k l0 = some r) :
    Calls Try.prog 93 #[.pointer A0] w fun e w' => e = .returned (.int .i64 r) ∧ Drawn0 w w' := by
  have HR0 := Aside0.mk hr0
  have HC0 := Aside0.mk hc0
  clear hr0 hc0
  have H : (if 0 < (l0.length : Int) then ((spec_l7Name.f k ((rd_T51 l0 0).f0)).bind fun t155 => (if t155 = true then ((spec_l1In.f ((rd_T51 l0 0).f1) 1 999).bind fun t157 => (if t157 = true then ((spec_l1In.f ((rd_T51 l0 0).f2) 1 1000).bind fun t159 => (spec_l7Box.j0 k l0 (!t159))) else (spec_l7Box.j0 k l0 true))) else (some 5))) else (none)) = some r := h
  clear h
  by_cases c2 : 0 < (l0.length : Int)
  · rw [if_pos c2] at H
    have c2b0 : decide (0 < (l0.length : Int)) = true := decide_eq_true c2
    have c2b1 : decide (0 < l0.length) = true := decide_eq_true (by omega)
    clear c2
    replace H := Option.bind_eq_some_iff.mp H
    obtain ⟨t155, A30, H⟩ := H
    replace H : (if t155 = true then ((spec_l1In.f ((rd_T51 l0 0).f1) 1 999).bind fun t157 => (if t157 = true then ((spec_l1In.f ((rd_T51 l0 0).f2) 1 1000).bind fun t159 => (spec_l7Box.j0 k l0 (!t159))) else (spec_l7Box.j0 k l0 true))) else (some 5)) = some r := H
    have A3 := Aside0.mk A30
    clear A30
    by_cases c4 : t155 = true
    · subst c4
      have H1 : ((spec_l1In.f ((rd_T51 l0 0).f1) 1 999).bind fun t157 => (if t157 = true then ((spec_l1In.f ((rd_T51 l0 0).f2) 1 1000).bind fun t159 => (spec_l7Box.j0 k l0 (!t159))) else (spec_l7Box.j0 k l0 true))) = some r := by rw [if_pos rfl] at H; exact H
      clear H
      have H := H1
      clear H1
      have HC5 := Aside0.mk H
      clear H
      have p154 : 0 ≤ (0 : Int) := (by omega)
      have q154 : 0 < (l0.length : Int) := of_decide_eq_true (by first | (with_reducible assumption) | assumption)
      obtain ⟨ad154, A154_3, c154_3, e154, hx154_0, hx154_1, hx154_2, hx154_3, hl154_3, hi154_3⟩ := at_T51 HR0.out 0 p154 q154
      cases e154
      have qi154 : (0 < l0.length) = True := eq_true (by omega)
      (try rw [show ((0 : Int)).toNat = 0 from rfl] at hx154_0)
      (try rw [show 0 * 4 = 0 from rfl] at hx154_0)
      (try rw [Addr.add_zero'] at hx154_0)
      (try rw [show ((0 : Int)).toNat = 0 from rfl] at hx154_1)
      (try rw [show 0 * 4 = 0 from rfl] at hx154_1)
      (try rw [Addr.add_zero'] at hx154_1)
      (try rw [show ((0 : Int)).toNat = 0 from rfl] at hx154_2)
      (try rw [show 0 * 4 = 0 from rfl] at hx154_2)
      (try rw [Addr.add_zero'] at hx154_2)
      (try rw [show ((0 : Int)).toNat = 0 from rfl] at hx154_3)
      (try rw [show 0 * 4 = 0 from rfl] at hx154_3)
      (try rw [Addr.add_zero'] at hx154_3)
      have HR154_3 := Aside0.mk hi154_3
      have HC154_3 := Aside0.mk hl154_3
      clear hi154_3 hl154_3
      replace p154 := eq_true p154
      replace q154 := eq_true q154
      go_enter Try.func93, Try.ntmps93
      go_upto_region 3 with (first | (go_at_call 138; (with_reducible refine (spec_l7Name.calls k ((rd_T51 l0 0).f0) true _ A3.out).mono ?_); rintro e w' ⟨rfl, ⟨nd, rfl⟩⟩; (try first | exact ⟨rfl, _, World.drewN_drewN _ _ _⟩ | exact ⟨rfl, _, Eq.trans (World.drewN_drewN _ _ _) (congrArg (World.drewN _) (Nat.add_assoc _ _ _))⟩)))
      repeat (go_quiet (first | (go_at_call 138; (with_reducible refine (spec_l7Name.calls k ((rd_T51 l0 0).f0) true _ A3.out).mono ?_); rintro e w' ⟨rfl, ⟨nd, rfl⟩⟩; (try first | exact ⟨rfl, _, World.drewN_drewN _ _ _⟩ | exact ⟨rfl, _, Eq.trans (World.drewN_drewN _ _ _) (congrArg (World.drewN _) (Nat.add_assoc _ _ _))⟩))); go_upto_region 3 with (first | (go_at_call 138; (with_reducible refine (spec_l7Name.calls k ((rd_T51 l0 0).f0) true _ A3.out).mono ?_); rintro e w' ⟨rfl, ⟨nd, rfl⟩⟩; (try first | exact ⟨rfl, _, World.drewN_drewN _ _ _⟩ | exact ⟨rfl, _, Eq.trans (World.drewN_drewN _ _ _) (congrArg (World.drewN _) (Nat.add_assoc _ _ _))⟩))))
      (try simp only [Act.put, List.setIfInBounds_toArray, List.set_cons_zero, List.set_cons_succ])
      go_cut [24] (fun v24 wc => ∃ (kq : Nat) (x24_4 : Bool), v24 = .bool x24_4 ∧ Aside0 (spec_l7Box.j0 kq l0 x24_4 = some r) ∧ Aside0 (kq ≤ k) ∧ Drawn0 w wc)
      case first =>
        have H := HC5.out
        clear HC5
        replace H := Option.bind_eq_some_iff.mp H
        obtain ⟨t157, A60, H⟩ := H
        replace H : (if t157 = true then ((spec_l1In.f ((rd_T51 l0 0).f2) 1 1000).bind fun t159 => (spec_l7Box.j0 k l0 (!t159))) else (spec_l7Box.j0 k l0 true)) = some r := H
        have A6 := Aside0.mk A60
        clear A60
        by_cases c7 : t157 = true
        · subst c7
          have H1 : ((spec_l1In.f ((rd_T51 l0 0).f2) 1 1000).bind fun t159 => (spec_l7Box.j0 k l0 (!t159))) = some r := by rw [if_pos rfl] at H; exact H
          clear H
          have H := H1
          clear H1
          replace H := Option.bind_eq_some_iff.mp H
          obtain ⟨t159, A80, H⟩ := H
          replace H : (spec_l7Box.j0 k l0 (!t159)) = some r := H
          have A8 := Aside0.mk A80
          clear A80
          have H' := Aside0.mk H
          clear H
          have p156 : 0 ≤ (0 : Int) := (by omega)
          have q156 : 0 < (l0.length : Int) := of_decide_eq_true (by first | (with_reducible assumption) | assumption)
          obtain ⟨ad156, A156_3, c156_3, e156, hx156_0, hx156_1, hx156_2, hx156_3, hl156_3, hi156_3⟩ := at_T51 HR0.out 0 p156 q156
          obtain rfl : ad154 = ad156 := (by injection e156)
          have qi156 : (0 < l0.length) = True := eq_true (by omega)
          (try rw [show ((0 : Int)).toNat = 0 from rfl] at hx156_0)
          (try rw [show 0 * 4 = 0 from rfl] at hx156_0)
          (try rw [Addr.add_zero'] at hx156_0)
          (try rw [show ((0 : Int)).toNat = 0 from rfl] at hx156_1)
          (try rw [show 0 * 4 = 0 from rfl] at hx156_1)
          (try rw [Addr.add_zero'] at hx156_1)
          (try rw [show ((0 : Int)).toNat = 0 from rfl] at hx156_2)
          (try rw [show 0 * 4 = 0 from rfl] at hx156_2)
          (try rw [Addr.add_zero'] at hx156_2)
          (try rw [show ((0 : Int)).toNat = 0 from rfl] at hx156_3)
          (try rw [show 0 * 4 = 0 from rfl] at hx156_3)
          (try rw [Addr.add_zero'] at hx156_3)
          have HR156_3 := Aside0.mk hi156_3
          have HC156_3 := Aside0.mk hl156_3
          clear hi156_3 hl156_3
          replace p156 := eq_true p156
          replace q156 := eq_true q156
          go_wp2_with (first | (go_at_call 141; (with_reducible refine (spec_l1In.calls ((rd_T51 l0 0).f1) 1 999 true _ A6.out).mono ?_); rintro e w' ⟨rfl, ⟨nd, rfl⟩⟩; (try first | exact ⟨rfl, _, World.drewN_drewN _ _ _⟩ | exact ⟨rfl, _, Eq.trans (World.drewN_drewN _ _ _) (congrArg (World.drewN _) (Nat.add_assoc _ _ _))⟩); have p158 : 0 ≤ (0 : Int) := (by omega); have q158 : 0 < (l0.length : Int) := of_decide_eq_true (by first | (with_reducible assumption) | assumption); obtain ⟨ad158, A158_3, c158_3, e158, hx158_0, hx158_1, hx158_2, hx158_3, hl158_3, hi158_3⟩ := at_T51 HR0.out 0 p158 q158; obtain rfl : ad154 = ad158 := (by injection e158); have qi158 : (0 < l0.length) = True := eq_true (by omega); (try rw [show ((0 : Int)).toNat = 0 from rfl] at hx158_0); (try rw [show 0 * 4 = 0 from rfl] at hx158_0); (try rw [Addr.add_zero'] at hx158_0); (try rw [show ((0 : Int)).toNat = 0 from rfl] at hx158_1); (try rw [show 0 * 4 = 0 from rfl] at hx158_1); (try rw [Addr.add_zero'] at hx158_1); (try rw [show ((0 : Int)).toNat = 0 from rfl] at hx158_2); (try rw [show 0 * 4 = 0 from rfl] at hx158_2); (try rw [Addr.add_zero'] at hx158_2); (try rw [show ((0 : Int)).toNat = 0 from rfl] at hx158_3); (try rw [show 0 * 4 = 0 from rfl] at hx158_3); (try rw [Addr.add_zero'] at hx158_3); have HR158_3 := Aside0.mk hi158_3; have HC158_3 := Aside0.mk hl158_3; clear hi158_3 hl158_3; replace p158 := eq_true p158; replace q158 := eq_true q158; have ea_ := Option.some.inj (hx156_3.symm.trans hx158_3); injection ea_ with ea_ en_ ec_; subst ea_; subst ec_; clear en_) | (go_at_call 141; (with_reducible refine (spec_l1In.calls ((rd_T51 l0 0).f2) 1 1000 t159 _ A8.out).mono ?_); rintro e w' ⟨rfl, ⟨nd, rfl⟩⟩; (try first | exact ⟨rfl, _, World.drewN_drewN _ _ _⟩ | exact ⟨rfl, _, Eq.trans (World.drewN_drewN _ _ _) (congrArg (World.drewN _) (Nat.add_assoc _ _ _))⟩)))
          repeat (go_quiet (first | (go_at_call 141; (with_reducible refine (spec_l1In.calls ((rd_T51 l0 0).f1) 1 999 true _ A6.out).mono ?_); rintro e w' ⟨rfl, ⟨nd, rfl⟩⟩; (try first | exact ⟨rfl, _, World.drewN_drewN _ _ _⟩ | exact ⟨rfl, _, Eq.trans (World.drewN_drewN _ _ _) (congrArg (World.drewN _) (Nat.add_assoc _ _ _))⟩); have p158 : 0 ≤ (0 : Int) := (by omega); have q158 : 0 < (l0.length : Int) := of_decide_eq_true (by first | (with_reducible assumption) | assumption); obtain ⟨ad158, A158_3, c158_3, e158, hx158_0, hx158_1, hx158_2, hx158_3, hl158_3, hi158_3⟩ := at_T51 HR0.out 0 p158 q158; obtain rfl : ad154 = ad158 := (by injection e158); have qi158 : (0 < l0.length) = True := eq_true (by omega); (try rw [show ((0 : Int)).toNat = 0 from rfl] at hx158_0); (try rw [show 0 * 4 = 0 from rfl] at hx158_0); (try rw [Addr.add_zero'] at hx158_0); (try rw [show ((0 : Int)).toNat = 0 from rfl] at hx158_1); (try rw [show 0 * 4 = 0 from rfl] at hx158_1); (try rw [Addr.add_zero'] at hx158_1); (try rw [show ((0 : Int)).toNat = 0 from rfl] at hx158_2); (try rw [show 0 * 4 = 0 from rfl] at hx158_2); (try rw [Addr.add_zero'] at hx158_2); (try rw [show ((0 : Int)).toNat = 0 from rfl] at hx158_3); (try rw [show 0 * 4 = 0 from rfl] at hx158_3); (try rw [Addr.add_zero'] at hx158_3); have HR158_3 := Aside0.mk hi158_3; have HC158_3 := Aside0.mk hl158_3; clear hi158_3 hl158_3; replace p158 := eq_true p158; replace q158 := eq_true q158; have ea_ := Option.some.inj (hx156_3.symm.trans hx158_3); injection ea_ with ea_ en_ ec_; subst ea_; subst ec_; clear en_) | (go_at_call 141; (with_reducible refine (spec_l1In.calls ((rd_T51 l0 0).f2) 1 1000 t159 _ A8.out).mono ?_); rintro e w' ⟨rfl, ⟨nd, rfl⟩⟩; (try first | exact ⟨rfl, _, World.drewN_drewN _ _ _⟩ | exact ⟨rfl, _, Eq.trans (World.drewN_drewN _ _ _) (congrArg (World.drewN _) (Nat.add_assoc _ _ _))⟩))); try go_wp2_with (first | (go_at_call 141; (with_reducible refine (spec_l1In.calls ((rd_T51 l0 0).f1) 1 999 true _ A6.out).mono ?_); rintro e w' ⟨rfl, ⟨nd, rfl⟩⟩; (try first | exact ⟨rfl, _, World.drewN_drewN _ _ _⟩ | exact ⟨rfl, _, Eq.trans (World.drewN_drewN _ _ _) (congrArg (World.drewN _) (Nat.add_assoc _ _ _))⟩); have p158 : 0 ≤ (0 : Int) := (by omega); have q158 : 0 < (l0.length : Int) := of_decide_eq_true (by first | (with_reducible assumption) | assumption); obtain ⟨ad158, A158_3, c158_3, e158, hx158_0, hx158_1, hx158_2, hx158_3, hl158_3, hi158_3⟩ := at_T51 HR0.out 0 p158 q158; obtain rfl : ad154 = ad158 := (by injection e158); have qi158 : (0 < l0.length) = True := eq_true (by omega); (try rw [show ((0 : Int)).toNat = 0 from rfl] at hx158_0); (try rw [show 0 * 4 = 0 from rfl] at hx158_0); (try rw [Addr.add_zero'] at hx158_0); (try rw [show ((0 : Int)).toNat = 0 from rfl] at hx158_1); (try rw [show 0 * 4 = 0 from rfl] at hx158_1); (try rw [Addr.add_zero'] at hx158_1); (try rw [show ((0 : Int)).toNat = 0 from rfl] at hx158_2); (try rw [show 0 * 4 = 0 from rfl] at hx158_2); (try rw [Addr.add_zero'] at hx158_2); (try rw [show ((0 : Int)).toNat = 0 from rfl] at hx158_3); (try rw [show 0 * 4 = 0 from rfl] at hx158_3); (try rw [Addr.add_zero'] at hx158_3); have HR158_3 := Aside0.mk hi158_3; have HC158_3 := Aside0.mk hl158_3; clear hi158_3 hl158_3; replace p158 := eq_true p158; replace q158 := eq_true q158; have ea_ := Option.some.inj (hx156_3.symm.trans hx158_3); injection ea_ with ea_ en_ ec_; subst ea_; subst ec_; clear en_) | (go_at_call 141; (with_reducible refine (spec_l1In.calls ((rd_T51 l0 0).f2) 1 1000 t159 _ A8.out).mono ?_); rintro e w' ⟨rfl, ⟨nd, rfl⟩⟩; (try first | exact ⟨rfl, _, World.drewN_drewN _ _ _⟩ | exact ⟨rfl, _, Eq.trans (World.drewN_drewN _ _ _) (congrArg (World.drewN _) (Nat.add_assoc _ _ _))⟩))))
          go_meet
          case rel => exact ⟨_, (!t159), (by first | rfl | (simp; done) | (simp [*]; done)), H', ⟨by first | omega | exact Nat.le_refl _⟩, by repeat (first | exact Drawn0.refl _ | apply Drawn0.step)⟩
        · replace c7 := Bool.eq_false_iff.mpr c7
          subst c7
          have H1 : (spec_l7Box.j0 k l0 true) = some r := by rw [if_neg (show ¬ (false = true) by decide)] at H; exact H
          clear H
          have H := H1
          clear H1
          have H' := Aside0.mk H
          clear H
          have p156 : 0 ≤ (0 : Int) := (by omega)
          have q156 : 0 < (l0.length : Int) := of_decide_eq_true (by first | (with_reducible assumption) | assumption)
          obtain ⟨ad156, A156_3, c156_3, e156, hx156_0, hx156_1, hx156_2, hx156_3, hl156_3, hi156_3⟩ := at_T51 HR0.out 0 p156 q156
          obtain rfl : ad154 = ad156 := (by injection e156)
          have qi156 : (0 < l0.length) = True := eq_true (by omega)
          (try rw [show ((0 : Int)).toNat = 0 from rfl] at hx156_0)
          (try rw [show 0 * 4 = 0 from rfl] at hx156_0)
          (try rw [Addr.add_zero'] at hx156_0)
          (try rw [show ((0 : Int)).toNat = 0 from rfl] at hx156_1)
          (try rw [show 0 * 4 = 0 from rfl] at hx156_1)
          (try rw [Addr.add_zero'] at hx156_1)
          (try rw [show ((0 : Int)).toNat = 0 from rfl] at hx156_2)
          (try rw [show 0 * 4 = 0 from rfl] at hx156_2)
          (try rw [Addr.add_zero'] at hx156_2)
          (try rw [show ((0 : Int)).toNat = 0 from rfl] at hx156_3)
          (try rw [show 0 * 4 = 0 from rfl] at hx156_3)
          (try rw [Addr.add_zero'] at hx156_3)
          have HR156_3 := Aside0.mk hi156_3
          have HC156_3 := Aside0.mk hl156_3
          clear hi156_3 hl156_3
          replace p156 := eq_true p156
          replace q156 := eq_true q156
          go_wp2_with (first | (go_at_call 141; (with_reducible refine (spec_l1In.calls ((rd_T51 l0 0).f1) 1 999 false _ A6.out).mono ?_); rintro e w' ⟨rfl, ⟨nd, rfl⟩⟩; (try first | exact ⟨rfl, _, World.drewN_drewN _ _ _⟩ | exact ⟨rfl, _, Eq.trans (World.drewN_drewN _ _ _) (congrArg (World.drewN _) (Nat.add_assoc _ _ _))⟩)))
          repeat (go_quiet (first | (go_at_call 141; (with_reducible refine (spec_l1In.calls ((rd_T51 l0 0).f1) 1 999 false _ A6.out).mono ?_); rintro e w' ⟨rfl, ⟨nd, rfl⟩⟩; (try first | exact ⟨rfl, _, World.drewN_drewN _ _ _⟩ | exact ⟨rfl, _, Eq.trans (World.drewN_drewN _ _ _) (congrArg (World.drewN _) (Nat.add_assoc _ _ _))⟩))); try go_wp2_with (first | (go_at_call 141; (with_reducible refine (spec_l1In.calls ((rd_T51 l0 0).f1) 1 999 false _ A6.out).mono ?_); rintro e w' ⟨rfl, ⟨nd, rfl⟩⟩; (try first | exact ⟨rfl, _, World.drewN_drewN _ _ _⟩ | exact ⟨rfl, _, Eq.trans (World.drewN_drewN _ _ _) (congrArg (World.drewN _) (Nat.add_assoc _ _ _))⟩))))
          go_meet
          case rel => exact ⟨_, (true), (by first | rfl | (simp; done) | (simp [*]; done)), H', ⟨by first | omega | exact Nat.le_refl _⟩, by repeat (first | exact Drawn0.refl _ | apply Drawn0.step)⟩
      case rest =>
        clear HC5
        try clear c1
        try clear p1
        try clear q1
        try clear hx1
        try clear qi1
        try clear c2
        try clear c2b0
        try clear c2b1
        try clear p2
        try clear c4
        try clear c7
        try clear hx154_0
        try clear hx154_1
        try clear hx154_2
        try clear hx154_3
        try clear hx156_0
        try clear hx156_1
        try clear hx156_2
        try clear hx156_3
        try clear hx158_0
        try clear hx158_1
        try clear hx158_2
        try clear hx158_3
        try clear p154
        try clear p156
        try clear p158
        try clear q154
        try clear q156
        try clear q158
        obtain ⟨kq, x24_4, rfl, HA, HJ4, ⟨mc4, rfl⟩⟩ := hcut
        cases kq with
        | zero => exact absurd HA.out (by simp [spec_l7Box.j0])
        | succ kj4 =>
          have H := HA.out
          clear HA
          simp only [spec_l7Box.j0] at H
          by_cases c9 : x24_4 = true
          · subst c9
            have H1 : (some 3) = some r := by rw [if_pos rfl] at H; exact H
            clear H
            have H := H1
            clear H1
            obtain rfl := Option.some.inj H
            go_wp2
            repeat (go_quiet (fail); try go_wp2)
            go_ret
            exact ⟨by first | rfl | (simp; done) | (simp [*]; done), by repeat (first | exact Drawn0.refl _ | apply Drawn0.step)⟩
          · replace c9 := Bool.eq_false_iff.mpr c9
            subst c9
            have H1 : (if 0 < (l0.length : Int) then (if (((rd_T51 l0 0).f3).length : Int) > 6 then (some 2) else (spec_l7Box.l0 kj4 l0 0)) else (none)) = some r := by rw [if_neg (show ¬ (false = true) by decide)] at H; exact H
            clear H
            have H := H1
            clear H1
            by_cases c10 : 0 < (l0.length : Int)
            · rw [if_pos c10] at H
              have c10b0 : decide (0 < (l0.length : Int)) = true := decide_eq_true c10
              have c10b1 : decide (0 < l0.length) = true := decide_eq_true (by omega)
              clear c10
              by_cases c11 : (((rd_T51 l0 0).f3).length : Int) > 6
              · rw [if_pos c11] at H
                have c11b0 : decide (6 < (((rd_T51 l0 0).f3).length : Int)) = true := decide_eq_true c11
                have c11b1 : decide (6 < ((rd_T51 l0 0).f3).length) = true := decide_eq_true (by omega)
                clear c11
                obtain rfl := Option.some.inj H
                have p160 : 0 ≤ (0 : Int) := (by omega)
                have q160 : 0 < (l0.length : Int) := of_decide_eq_true (by first | (with_reducible assumption) | assumption)
                obtain ⟨ad160, A160_3, c160_3, e160, hx160_0, hx160_1, hx160_2, hx160_3, hl160_3, hi160_3⟩ := at_T51 HR0.out 0 p160 q160
                obtain rfl : ad154 = ad160 := (by injection e160)
                have qi160 : (0 < l0.length) = True := eq_true (by omega)
                (try rw [show ((0 : Int)).toNat = 0 from rfl] at hx160_0)
                (try rw [show 0 * 4 = 0 from rfl] at hx160_0)
                (try rw [Addr.add_zero'] at hx160_0)
                (try rw [show ((0 : Int)).toNat = 0 from rfl] at hx160_1)
                (try rw [show 0 * 4 = 0 from rfl] at hx160_1)
                (try rw [Addr.add_zero'] at hx160_1)
                (try rw [show ((0 : Int)).toNat = 0 from rfl] at hx160_2)
                (try rw [show 0 * 4 = 0 from rfl] at hx160_2)
                (try rw [Addr.add_zero'] at hx160_2)
                (try rw [show ((0 : Int)).toNat = 0 from rfl] at hx160_3)
                (try rw [show 0 * 4 = 0 from rfl] at hx160_3)
                (try rw [Addr.add_zero'] at hx160_3)
                have HR160_3 := Aside0.mk hi160_3
                have HC160_3 := Aside0.mk hl160_3
                clear hi160_3 hl160_3
                replace p160 := eq_true p160
                replace q160 := eq_true q160
                go_wp2
                repeat (go_quiet (fail); try go_wp2)
                go_ret
                exact ⟨by first | rfl | (simp; done) | (simp [*]; done), by repeat (first | exact Drawn0.refl _ | apply Drawn0.step)⟩
              · rw [if_neg c11] at H
                have c11b0 : decide (6 < (((rd_T51 l0 0).f3).length : Int)) = false := decide_eq_false c11
                have c11b1 : decide (6 < ((rd_T51 l0 0).f3).length) = false := decide_eq_false (by omega)
                clear c11
                have H' := Aside0.mk H
                clear H
                have p160 : 0 ≤ (0 : Int) := (by omega)
                have q160 : 0 < (l0.length : Int) := of_decide_eq_true (by first | (with_reducible assumption) | assumption)
                obtain ⟨ad160, A160_3, c160_3, e160, hx160_0, hx160_1, hx160_2, hx160_3, hl160_3, hi160_3⟩ := at_T51 HR0.out 0 p160 q160
                obtain rfl : ad154 = ad160 := (by injection e160)
                have qi160 : (0 < l0.length) = True := eq_true (by omega)
                (try rw [show ((0 : Int)).toNat = 0 from rfl] at hx160_0)
                (try rw [show 0 * 4 = 0 from rfl] at hx160_0)
                (try rw [Addr.add_zero'] at hx160_0)
                (try rw [show ((0 : Int)).toNat = 0 from rfl] at hx160_1)
                (try rw [show 0 * 4 = 0 from rfl] at hx160_1)
                (try rw [Addr.add_zero'] at hx160_1)
                (try rw [show ((0 : Int)).toNat = 0 from rfl] at hx160_2)
                (try rw [show 0 * 4 = 0 from rfl] at hx160_2)
                (try rw [Addr.add_zero'] at hx160_2)
                (try rw [show ((0 : Int)).toNat = 0 from rfl] at hx160_3)
                (try rw [show 0 * 4 = 0 from rfl] at hx160_3)
                (try rw [Addr.add_zero'] at hx160_3)
                have HR160_3 := Aside0.mk hi160_3
                have HC160_3 := Aside0.mk hl160_3
                clear hi160_3 hl160_3
                replace p160 := eq_true p160
                replace q160 := eq_true q160
                go_wp2
                repeat (go_quiet (fail); try go_wp2)
                go_loopg [3] kj4 (fun kq v3 w' => ∃ (x3_2 : Int), v3 = .int .i64 x3_2 ∧ Aside0 (spec_l7Box.l0 kq l0 x3_2 = some r) ∧ Aside0 (kq ≤ kj4) ∧ Drawn0 w w')
                case atStart => exact ⟨(0), (by first | rfl | (simp; done) | (simp [*]; done)), H', ⟨Nat.le_refl _⟩, by repeat (first | exact Drawn0.refl _ | apply Drawn0.step)⟩
                case round =>
                  clear H'
                  try clear c1
                  try clear p1
                  try clear q1
                  try clear hx1
                  try clear qi1
                  try clear c2
                  try clear c2b0
                  try clear c2b1
                  try clear p2
                  try clear c4
                  try clear c7
                  try clear c9
                  try clear c10
                  try clear c10b0
                  try clear c10b1
                  try clear c11
                  try clear c11b0
                  try clear c11b1
                  try clear hx154_0
                  try clear hx154_1
                  try clear hx154_2
                  try clear hx154_3
                  try clear hx156_0
                  try clear hx156_1
                  try clear hx156_2
                  try clear hx156_3
                  try clear hx158_0
                  try clear hx158_1
                  try clear hx158_2
                  try clear hx158_3
                  try clear hx160_0
                  try clear hx160_1
                  try clear hx160_2
                  try clear hx160_3
                  try clear p1
                  try clear p154
                  try clear p156
                  try clear p158
                  try clear p160
                  try clear p2
                  try clear q1
                  try clear q154
                  try clear q156
                  try clear q158
                  try clear q160
                  obtain ⟨x3_2, rfl, HA, HK2, ⟨m2, rfl⟩⟩ := hrel
                  cases gk with
                  | zero => exact absurd HA.out (by simp [spec_l7Box.l0])
                  | succ k2 =>
                    have H := HA.out
                    clear HA
                    simp only [spec_l7Box.l0] at H
                    by_cases c12 : 0 < (l0.length : Int)
                    · rw [if_pos c12] at H
                      have c12b0 : decide (0 < (l0.length : Int)) = true := decide_eq_true c12
                      have c12b1 : decide (0 < l0.length) = true := decide_eq_true (by omega)
                      clear c12
                      by_cases c13 : x3_2 < (((rd_T51 l0 0).f3).length : Int)
                      · rw [if_pos c13] at H
                        have c13b0 : decide (x3_2 < (((rd_T51 l0 0).f3).length : Int)) = true := decide_eq_true c13
                        clear c13
                        by_cases c14 : 0 ≤ x3_2
                        · rw [if_pos c14] at H
                          have c14b0 : decide (0 ≤ x3_2) = true := decide_eq_true c14
                          clear c14
                          replace H := Option.bind_eq_some_iff.mp H
                          obtain ⟨t165, A150, H⟩ := H
                          replace H : (if t165 = 0 then (if x3_2 > 0 then (if 0 ≤ (wrap64 (x3_2 - 1)) then (if (wrap64 (x3_2 - 1)) < (((rd_T51 l0 0).f3).length : Int) then (if ((rd_T133 ((rd_T51 l0 0).f3) x3_2).f0) ≤ ((rd_T133 ((rd_T51 l0 0).f3) (wrap64 (x3_2 - 1))).f0) then (some 1) else (if ((rd_T133 ((rd_T51 l0 0).f3) x3_2).f0) ≥ ((rd_T51 l0 0).f2) then (some 1) else (spec_l7Box.l0 k2 l0 (wrap64 (x3_2 + 1))))) else (none)) else (none)) else (if ((rd_T133 ((rd_T51 l0 0).f3) x3_2).f0) ≥ ((rd_T51 l0 0).f2) then (some 1) else (spec_l7Box.l0 k2 l0 (wrap64 (x3_2 + 1))))) else (some t165)) = some r := H
                          have A15 := Aside0.mk A150
                          clear A150
                          by_cases c16 : t165 = 0
                          · rw [if_pos c16] at H
                            have c16b0 : (t165 == 0) = true := beq_iff_eq.mpr c16
                            have c16b1 : (t165 != 0) = false := bne_eq_false_iff_eq.mpr c16
                            clear c16
                            by_cases c17 : x3_2 > 0
                            · rw [if_pos c17] at H
                              have c17b0 : decide (0 < x3_2) = true := decide_eq_true c17
                              clear c17
                              obtain ⟨ji18, hji18⟩ : ∃ j_ : Int, (wrap64 (x3_2 - 1)) = j_ := ⟨_, rfl⟩
                              replace H : (if 0 ≤ (ji18) then (if (ji18) < (((rd_T51 l0 0).f3).length : Int) then (if ((rd_T133 ((rd_T51 l0 0).f3) x3_2).f0) ≤ ((rd_T133 ((rd_T51 l0 0).f3) (ji18)).f0) then (some 1) else (if ((rd_T133 ((rd_T51 l0 0).f3) x3_2).f0) ≥ ((rd_T51 l0 0).f2) then (some 1) else (spec_l7Box.l0 k2 l0 (wrap64 (x3_2 + 1))))) else (none)) else (none)) = some r := by first | (rw [hji18] at H; exact H) | (simp only [hji18] at H ⊢; exact H)
                              (try rw [hji18] at A15)
                              have hji18w : (IntKind.i64.wrap (x3_2 - 1)) = ji18 := (i64_w _).trans hji18
                              by_cases c19 : 0 ≤ (ji18)
                              · rw [if_pos c19] at H
                                have c19b0 : decide (0 ≤ (ji18)) = true := decide_eq_true c19
                                clear c19
                                by_cases c20 : (ji18) < (((rd_T51 l0 0).f3).length : Int)
                                · rw [if_pos c20] at H
                                  have c20b0 : decide ((ji18) < (((rd_T51 l0 0).f3).length : Int)) = true := decide_eq_true c20
                                  clear c20
                                  by_cases c21 : ((rd_T133 ((rd_T51 l0 0).f3) x3_2).f0) ≤ ((rd_T133 ((rd_T51 l0 0).f3) (ji18)).f0)
                                  · rw [if_pos c21] at H
                                    have c21b0 : decide (((rd_T133 ((rd_T51 l0 0).f3) x3_2).f0) ≤ ((rd_T133 ((rd_T51 l0 0).f3) (ji18)).f0)) = true := decide_eq_true c21
                                    clear c21
                                    obtain rfl := Option.some.inj H
                                    have p161 : 0 ≤ (0 : Int) := (by omega)
                                    have q161 : 0 < (l0.length : Int) := of_decide_eq_true (by first | (with_reducible assumption) | assumption)
                                    obtain ⟨ad161, A161_3, c161_3, e161, hx161_0, hx161_1, hx161_2, hx161_3, hl161_3, hi161_3⟩ := at_T51 HR0.out 0 p161 q161
                                    obtain rfl : ad154 = ad161 := (by injection e161)
                                    have qi161 : (0 < l0.length) = True := eq_true (by omega)
                                    (try rw [show ((0 : Int)).toNat = 0 from rfl] at hx161_0)
                                    (try rw [show 0 * 4 = 0 from rfl] at hx161_0)
                                    (try rw [Addr.add_zero'] at hx161_0)
                                    (try rw [show ((0 : Int)).toNat = 0 from rfl] at hx161_1)
                                    (try rw [show 0 * 4 = 0 from rfl] at hx161_1)
                                    (try rw [Addr.add_zero'] at hx161_1)
                                    (try rw [show ((0 : Int)).toNat = 0 from rfl] at hx161_2)
                                    (try rw [show 0 * 4 = 0 from rfl] at hx161_2)
                                    (try rw [Addr.add_zero'] at hx161_2)
                                    (try rw [show ((0 : Int)).toNat = 0 from rfl] at hx161_3)
                                    (try rw [show 0 * 4 = 0 from rfl] at hx161_3)
                                    (try rw [Addr.add_zero'] at hx161_3)
                                    have HR161_3 := Aside0.mk hi161_3
                                    have HC161_3 := Aside0.mk hl161_3
                                    clear hi161_3 hl161_3
                                    replace p161 := eq_true p161
                                    replace q161 := eq_true q161
                                    have p162 : 0 ≤ (0 : Int) := (by omega)
                                    have q162 : 0 < (l0.length : Int) := of_decide_eq_true (by first | (with_reducible assumption) | assumption)
                                    obtain ⟨ad162, A162_3, c162_3, e162, hx162_0, hx162_1, hx162_2, hx162_3, hl162_3, hi162_3⟩ := at_T51 HR0.out 0 p162 q162
                                    obtain rfl : ad154 = ad162 := (by injection e162)
                                    have qi162 : (0 < l0.length) = True := eq_true (by omega)
                                    (try rw [show ((0 : Int)).toNat = 0 from rfl] at hx162_0)
                                    (try rw [show 0 * 4 = 0 from rfl] at hx162_0)
                                    (try rw [Addr.add_zero'] at hx162_0)
                                    (try rw [show ((0 : Int)).toNat = 0 from rfl] at hx162_1)
                                    (try rw [show 0 * 4 = 0 from rfl] at hx162_1)
                                    (try rw [Addr.add_zero'] at hx162_1)
                                    (try rw [show ((0 : Int)).toNat = 0 from rfl] at hx162_2)
                                    (try rw [show 0 * 4 = 0 from rfl] at hx162_2)
                                    (try rw [Addr.add_zero'] at hx162_2)
                                    (try rw [show ((0 : Int)).toNat = 0 from rfl] at hx162_3)
                                    (try rw [show 0 * 4 = 0 from rfl] at hx162_3)
                                    (try rw [Addr.add_zero'] at hx162_3)
                                    have HR162_3 := Aside0.mk hi162_3
                                    have HC162_3 := Aside0.mk hl162_3
                                    clear hi162_3 hl162_3
                                    replace p162 := eq_true p162
                                    replace q162 := eq_true q162
                                    have ea_ := Option.some.inj (hx161_3.symm.trans hx162_3)
                                    injection ea_ with ea_ en_ ec_
                                    subst ea_
                                    subst ec_
                                    clear en_
                                    have p163 : 0 ≤ (x3_2 : Int) := of_decide_eq_true (by first | (with_reducible assumption) | assumption)
                                    have q163 : x3_2 < (((rd_T51 l0 0).f3).length : Int) := of_decide_eq_true (by first | (with_reducible assumption) | assumption)
                                    obtain ⟨ad163, A163_3, c163_3, e163, hx163_0, hx163_1, hx163_2, hx163_3, hl163_3, hi163_3⟩ := at_T133 HR162_3.out x3_2 p163 q163
                                    cases e163
                                    have HR163_3 := Aside0.mk hi163_3
                                    have HC163_3 := Aside0.mk hl163_3
                                    clear hi163_3 hl163_3
                                    replace p163 := eq_true p163
                                    replace q163 := eq_true q163
                                    have HRa164 := Aside0.mk (Kd.C_elem HR162_3.out (x3_2 : Int) (of_decide_eq_true (by first | (with_reducible assumption) | assumption)) (of_decide_eq_true (by first | (with_reducible assumption) | assumption)))
                                    go_wp2_with (first | (go_at_call 146; (with_reducible refine (spec_l7Message.calls k2 _ (((rd_T51 l0 0).f3).drop (x3_2 : Int).toNat).length (((rd_T51 l0 0).f3).drop (x3_2 : Int).toNat) t165 _ ?side1 ?side2 A15.out).mono ?_); (case side1 => repeat (first | exact HRa164.out | (with_reducible refine Kd.C_alloc ?_ _) | (with_reducible refine Kd.C_drewN ?_ _) | (with_reducible refine Kd.C_drew ?_))); (case side2 => exact Nat.le_refl _); rintro e w' ⟨rfl, ⟨nd, rfl⟩⟩; (try first | exact ⟨rfl, _, World.drewN_drewN _ _ _⟩ | exact ⟨rfl, _, Eq.trans (World.drewN_drewN _ _ _) (congrArg (World.drewN _) (Nat.add_assoc _ _ _))⟩); have p166 : 0 ≤ (0 : Int) := (by omega); have q166 : 0 < (l0.length : Int) := of_decide_eq_true (by first | (with_reducible assumption) | assumption); obtain ⟨ad166, A166_3, c166_3, e166, hx166_0, hx166_1, hx166_2, hx166_3, hl166_3, hi166_3⟩ := at_T51 HR0.out 0 p166 q166; obtain rfl : ad154 = ad166 := (by injection e166); have qi166 : (0 < l0.length) = True := eq_true (by omega); (try rw [show ((0 : Int)).toNat = 0 from rfl] at hx166_0); (try rw [show 0 * 4 = 0 from rfl] at hx166_0); (try rw [Addr.add_zero'] at hx166_0); (try rw [show ((0 : Int)).toNat = 0 from rfl] at hx166_1); (try rw [show 0 * 4 = 0 from rfl] at hx166_1); (try rw [Addr.add_zero'] at hx166_1); (try rw [show ((0 : Int)).toNat = 0 from rfl] at hx166_2); (try rw [show 0 * 4 = 0 from rfl] at hx166_2); (try rw [Addr.add_zero'] at hx166_2); (try rw [show ((0 : Int)).toNat = 0 from rfl] at hx166_3); (try rw [show 0 * 4 = 0 from rfl] at hx166_3); (try rw [Addr.add_zero'] at hx166_3); have HR166_3 := Aside0.mk hi166_3; have HC166_3 := Aside0.mk hl166_3; clear hi166_3 hl166_3; replace p166 := eq_true p166; replace q166 := eq_true q166; have ea_ := Option.some.inj (hx161_3.symm.trans hx166_3); injection ea_ with ea_ en_ ec_; subst ea_; subst ec_; clear en_; have p167 : 0 ≤ (x3_2 : Int) := of_decide_eq_true (by first | (with_reducible assumption) | assumption); have q167 : x3_2 < (((rd_T51 l0 0).f3).length : Int) := of_decide_eq_true (by first | (with_reducible assumption) | assumption); obtain ⟨ad167, A167_3, c167_3, e167, hx167_0, hx167_1, hx167_2, hx167_3, hl167_3, hi167_3⟩ := at_T133 HR166_3.out x3_2 p167 q167; cases e167; have HR167_3 := Aside0.mk hi167_3; have HC167_3 := Aside0.mk hl167_3; clear hi167_3 hl167_3; replace p167 := eq_true p167; replace q167 := eq_true q167; have p168 : 0 ≤ (0 : Int) := (by omega); have q168 : 0 < (l0.length : Int) := of_decide_eq_true (by first | (with_reducible assumption) | assumption); obtain ⟨ad168, A168_3, c168_3, e168, hx168_0, hx168_1, hx168_2, hx168_3, hl168_3, hi168_3⟩ := at_T51 HR0.out 0 p168 q168; obtain rfl : ad154 = ad168 := (by injection e168); have qi168 : (0 < l0.length) = True := eq_true (by omega); (try rw [show ((0 : Int)).toNat = 0 from rfl] at hx168_0); (try rw [show 0 * 4 = 0 from rfl] at hx168_0); (try rw [Addr.add_zero'] at hx168_0); (try rw [show ((0 : Int)).toNat = 0 from rfl] at hx168_1); (try rw [show 0 * 4 = 0 from rfl] at hx168_1); (try rw [Addr.add_zero'] at hx168_1); (try rw [show ((0 : Int)).toNat = 0 from rfl] at hx168_2); (try rw [show 0 * 4 = 0 from rfl] at hx168_2); (try rw [Addr.add_zero'] at hx168_2); (try rw [show ((0 : Int)).toNat = 0 from rfl] at hx168_3); (try rw [show 0 * 4 = 0 from rfl] at hx168_3); (try rw [Addr.add_zero'] at hx168_3); have HR168_3 := Aside0.mk hi168_3; have HC168_3 := Aside0.mk hl168_3; clear hi168_3 hl168_3; replace p168 := eq_true p168; replace q168 := eq_true q168; have ea_ := Option.some.inj (hx161_3.symm.trans hx168_3); injection ea_ with ea_ en_ ec_; subst ea_; subst ec_; clear en_; have p169 : 0 ≤ ((ji18) : Int) := of_decide_eq_true (by first | (with_reducible assumption) | assumption); have q169 : (ji18) < (((rd_T51 l0 0).f3).length : Int) := of_decide_eq_true (by first | (with_reducible assumption) | assumption); obtain ⟨ad169, A169_3, c169_3, e169, hx169_0, hx169_1, hx169_2, hx169_3, hl169_3, hi169_3⟩ := at_T133 HR168_3.out (ji18) p169 q169; cases e169; have HR169_3 := Aside0.mk hi169_3; have HC169_3 := Aside0.mk hl169_3; clear hi169_3 hl169_3; replace p169 := eq_true p169; replace q169 := eq_true q169))
                                    repeat (go_quiet (first | (go_at_call 146; (with_reducible refine (spec_l7Message.calls k2 _ (((rd_T51 l0 0).f3).drop (x3_2 : Int).toNat).length (((rd_T51 l0 0).f3).drop (x3_2 : Int).toNat) t165 _ ?side1 ?side2 A15.out).mono ?_); (case side1 => repeat (first | exact HRa164.out | (with_reducible refine Kd.C_alloc ?_ _) | (with_reducible refine Kd.C_drewN ?_ _) | (with_reducible refine Kd.C_drew ?_))); (case side2 => exact Nat.le_refl _); rintro e w' ⟨rfl, ⟨nd, rfl⟩⟩; (try first | exact ⟨rfl, _, World.drewN_drewN _ _ _⟩ | exact ⟨rfl, _, Eq.trans (World.drewN_drewN _ _ _) (congrArg (World.drewN _) (Nat.add_assoc _ _ _))⟩); have p166 : 0 ≤ (0 : Int) := (by omega); have q166 : 0 < (l0.length : Int) := of_decide_eq_true (by first | (with_reducible assumption) | assumption); obtain ⟨ad166, A166_3, c166_3, e166, hx166_0, hx166_1, hx166_2, hx166_3, hl166_3, hi166_3⟩ := at_T51 HR0.out 0 p166 q166; obtain rfl : ad154 = ad166 := (by injection e166); have qi166 : (0 < l0.length) = True := eq_true (by omega); (try rw [show ((0 : Int)).toNat = 0 from rfl] at hx166_0); (try rw [show 0 * 4 = 0 from rfl] at hx166_0); (try rw [Addr.add_zero'] at hx166_0); (try rw [show ((0 : Int)).toNat = 0 from rfl] at hx166_1); (try rw [show 0 * 4 = 0 from rfl] at hx166_1); (try rw [Addr.add_zero'] at hx166_1); (try rw [show ((0 : Int)).toNat = 0 from rfl] at hx166_2); (try rw [show 0 * 4 = 0 from rfl] at hx166_2); (try rw [Addr.add_zero'] at hx166_2); (try rw [show ((0 : Int)).toNat = 0 from rfl] at hx166_3); (try rw [show 0 * 4 = 0 from rfl] at hx166_3); (try rw [Addr.add_zero'] at hx166_3); have HR166_3 := Aside0.mk hi166_3; have HC166_3 := Aside0.mk hl166_3; clear hi166_3 hl166_3; replace p166 := eq_true p166; replace q166 := eq_true q166; have ea_ := Option.some.inj (hx161_3.symm.trans hx166_3); injection ea_ with ea_ en_ ec_; subst ea_; subst ec_; clear en_; have p167 : 0 ≤ (x3_2 : Int) := of_decide_eq_true (by first | (with_reducible assumption) | assumption); have q167 : x3_2 < (((rd_T51 l0 0).f3).length : Int) := of_decide_eq_true (by first | (with_reducible assumption) | assumption); obtain ⟨ad167, A167_3, c167_3, e167, hx167_0, hx167_1, hx167_2, hx167_3, hl167_3, hi167_3⟩ := at_T133 HR166_3.out x3_2 p167 q167; cases e167; have HR167_3 := Aside0.mk hi167_3; have HC167_3 := Aside0.mk hl167_3; clear hi167_3 hl167_3; replace p167 := eq_true p167; replace q167 := eq_true q167; have p168 : 0 ≤ (0 : Int) := (by omega); have q168 : 0 < (l0.length : Int) := of_decide_eq_true (by first | (with_reducible assumption) | assumption); obtain ⟨ad168, A168_3, c168_3, e168, hx168_0, hx168_1, hx168_2, hx168_3, hl168_3, hi168_3⟩ := at_T51 HR0.out 0 p168 q168; obtain rfl : ad154 = ad168 := (by injection e168); have qi168 : (0 < l0.length) = True := eq_true (by omega); (try rw [show ((0 : Int)).toNat = 0 from rfl] at hx168_0); (try rw [show 0 * 4 = 0 from rfl] at hx168_0); (try rw [Addr.add_zero'] at hx168_0); (try rw [show ((0 : Int)).toNat = 0 from rfl] at hx168_1); (try rw [show 0 * 4 = 0 from rfl] at hx168_1); (try rw [Addr.add_zero'] at hx168_1); (try rw [show ((0 : Int)).toNat = 0 from rfl] at hx168_2); (try rw [show 0 * 4 = 0 from rfl] at hx168_2); (try rw [Addr.add_zero'] at hx168_2); (try rw [show ((0 : Int)).toNat = 0 from rfl] at hx168_3); (try rw [show 0 * 4 = 0 from rfl] at hx168_3); (try rw [Addr.add_zero'] at hx168_3); have HR168_3 := Aside0.mk hi168_3; have HC168_3 := Aside0.mk hl168_3; clear hi168_3 hl168_3; replace p168 := eq_true p168; replace q168 := eq_true q168; have ea_ := Option.some.inj (hx161_3.symm.trans hx168_3); injection ea_ with ea_ en_ ec_; subst ea_; subst ec_; clear en_; have p169 : 0 ≤ ((ji18) : Int) := of_decide_eq_true (by first | (with_reducible assumption) | assumption); have q169 : (ji18) < (((rd_T51 l0 0).f3).length : Int) := of_decide_eq_true (by first | (with_reducible assumption) | assumption); obtain ⟨ad169, A169_3, c169_3, e169, hx169_0, hx169_1, hx169_2, hx169_3, hl169_3, hi169_3⟩ := at_T133 HR168_3.out (ji18) p169 q169; cases e169; have HR169_3 := Aside0.mk hi169_3; have HC169_3 := Aside0.mk hl169_3; clear hi169_3 hl169_3; replace p169 := eq_true p169; replace q169 := eq_true q169)); try go_wp2_with (first | (go_at_call 146; (with_reducible refine (spec_l7Message.calls k2 _ (((rd_T51 l0 0).f3).drop (x3_2 : Int).toNat).length (((rd_T51 l0 0).f3).drop (x3_2 : Int).toNat) t165 _ ?side1 ?side2 A15.out).mono ?_); (case side1 => repeat (first | exact HRa164.out | (with_reducible refine Kd.C_alloc ?_ _) | (with_reducible refine Kd.C_drewN ?_ _) | (with_reducible refine Kd.C_drew ?_))); (case side2 => exact Nat.le_refl _); rintro e w' ⟨rfl, ⟨nd, rfl⟩⟩; (try first | exact ⟨rfl, _, World.drewN_drewN _ _ _⟩ | exact ⟨rfl, _, Eq.trans (World.drewN_drewN _ _ _) (congrArg (World.drewN _) (Nat.add_assoc _ _ _))⟩); have p166 : 0 ≤ (0 : Int) := (by omega); have q166 : 0 < (l0.length : Int) := of_decide_eq_true (by first | (with_reducible assumption) | assumption); obtain ⟨ad166, A166_3, c166_3, e166, hx166_0, hx166_1, hx166_2, hx166_3, hl166_3, hi166_3⟩ := at_T51 HR0.out 0 p166 q166; obtain rfl : ad154 = ad166 := (by injection e166); have qi166 : (0 < l0.length) = True := eq_true (by omega); (try rw [show ((0 : Int)).toNat = 0 from rfl] at hx166_0); (try rw [show 0 * 4 = 0 from rfl] at hx166_0); (try rw [Addr.add_zero'] at hx166_0); (try rw [show ((0 : Int)).toNat = 0 from rfl] at hx166_1); (try rw [show 0 * 4 = 0 from rfl] at hx166_1); (try rw [Addr.add_zero'] at hx166_1); (try rw [show ((0 : Int)).toNat = 0 from rfl] at hx166_2); (try rw [show 0 * 4 = 0 from rfl] at hx166_2); (try rw [Addr.add_zero'] at hx166_2); (try rw [show ((0 : Int)).toNat = 0 from rfl] at hx166_3); (try rw [show 0 * 4 = 0 from rfl] at hx166_3); (try rw [Addr.add_zero'] at hx166_3); have HR166_3 := Aside0.mk hi166_3; have HC166_3 := Aside0.mk hl166_3; clear hi166_3 hl166_3; replace p166 := eq_true p166; replace q166 := eq_true q166; have ea_ := Option.some.inj (hx161_3.symm.trans hx166_3); injection ea_ with ea_ en_ ec_; subst ea_; subst ec_; clear en_; have p167 : 0 ≤ (x3_2 : Int) := of_decide_eq_true (by first | (with_reducible assumption) | assumption); have q167 : x3_2 < (((rd_T51 l0 0).f3).length : Int) := of_decide_eq_true (by first | (with_reducible assumption) | assumption); obtain ⟨ad167, A167_3, c167_3, e167, hx167_0, hx167_1, hx167_2, hx167_3, hl167_3, hi167_3⟩ := at_T133 HR166_3.out x3_2 p167 q167; cases e167; have HR167_3 := Aside0.mk hi167_3; have HC167_3 := Aside0.mk hl167_3; clear hi167_3 hl167_3; replace p167 := eq_true p167; replace q167 := eq_true q167; have p168 : 0 ≤ (0 : Int) := (by omega); have q168 : 0 < (l0.length : Int) := of_decide_eq_true (by first | (with_reducible assumption) | assumption); obtain ⟨ad168, A168_3, c168_3, e168, hx168_0, hx168_1, hx168_2, hx168_3, hl168_3, hi168_3⟩ := at_T51 HR0.out 0 p168 q168; obtain rfl : ad154 = ad168 := (by injection e168); have qi168 : (0 < l0.length) = True := eq_true (by omega); (try rw [show ((0 : Int)).toNat = 0 from rfl] at hx168_0); (try rw [show 0 * 4 = 0 from rfl] at hx168_0); (try rw [Addr.add_zero'] at hx168_0); (try rw [show ((0 : Int)).toNat = 0 from rfl] at hx168_1); (try rw [show 0 * 4 = 0 from rfl] at hx168_1); (try rw [Addr.add_zero'] at hx168_1); (try rw [show ((0 : Int)).toNat = 0 from rfl] at hx168_2); (try rw [show 0 * 4 = 0 from rfl] at hx168_2); (try rw [Addr.add_zero'] at hx168_2); (try rw [show ((0 : Int)).toNat = 0 from rfl] at hx168_3); (try rw [show 0 * 4 = 0 from rfl] at hx168_3); (try rw [Addr.add_zero'] at hx168_3); have HR168_3 := Aside0.mk hi168_3; have HC168_3 := Aside0.mk hl168_3; clear hi168_3 hl168_3; replace p168 := eq_true p168; replace q168 := eq_true q168; have ea_ := Option.some.inj (hx161_3.symm.trans hx168_3); injection ea_ with ea_ en_ ec_; subst ea_; subst ec_; clear en_; have p169 : 0 ≤ ((ji18) : Int) := of_decide_eq_true (by first | (with_reducible assumption) | assumption); have q169 : (ji18) < (((rd_T51 l0 0).f3).length : Int) := of_decide_eq_true (by first | (with_reducible assumption) | assumption); obtain ⟨ad169, A169_3, c169_3, e169, hx169_0, hx169_1, hx169_2, hx169_3, hl169_3, hi169_3⟩ := at_T133 HR168_3.out (ji18) p169 q169; cases e169; have HR169_3 := Aside0.mk hi169_3; have HC169_3 := Aside0.mk hl169_3; clear hi169_3 hl169_3; replace p169 := eq_true p169; replace q169 := eq_true q169)))
                                    go_ret
                                    exact ⟨by first | rfl | (simp; done) | (simp only [← hji18] <;> (first | rfl | simp)) | (simp [*]; done), by repeat (first | exact Drawn0.refl _ | apply Drawn0.step)⟩
                                  · rw [if_neg c21] at H
                                    have c21b0 : decide (((rd_T133 ((rd_T51 l0 0).f3) x3_2).f0) ≤ ((rd_T133 ((rd_T51 l0 0).f3) (ji18)).f0)) = false := decide_eq_false c21
                                    clear c21
                                    by_cases c22 : ((rd_T133 ((rd_T51 l0 0).f3) x3_2).f0) ≥ ((rd_T51 l0 0).f2)
                                    · rw [if_pos c22] at H
                                      have c22b0 : decide (((rd_T51 l0 0).f2) ≤ ((rd_T133 ((rd_T51 l0 0).f3) x3_2).f0)) = true := decide_eq_true c22
                                      clear c22
                                      obtain rfl := Option.some.inj H
                                      have p161 : 0 ≤ (0 : Int) := (by omega)
                                      have q161 : 0 < (l0.length : Int) := of_decide_eq_true (by first | (with_reducible assumption) | assumption)
                                      obtain ⟨ad161, A161_3, c161_3, e161, hx161_0, hx161_1, hx161_2, hx161_3, hl161_3, hi161_3⟩ := at_T51 HR0.out 0 p161 q161
                                      obtain rfl : ad154 = ad161 := (by injection e161)
                                      have qi161 : (0 < l0.length) = True := eq_true (by omega)
                                      (try rw [show ((0 : Int)).toNat = 0 from rfl] at hx161_0)
                                      (try rw [show 0 * 4 = 0 from rfl] at hx161_0)
                                      (try rw [Addr.add_zero'] at hx161_0)
                                      (try rw [show ((0 : Int)).toNat = 0 from rfl] at hx161_1)
                                      (try rw [show 0 * 4 = 0 from rfl] at hx161_1)
                                      (try rw [Addr.add_zero'] at hx161_1)
                                      (try rw [show ((0 : Int)).toNat = 0 from rfl] at hx161_2)
                                      (try rw [show 0 * 4 = 0 from rfl] at hx161_2)
                                      (try rw [Addr.add_zero'] at hx161_2)
                                      (try rw [show ((0 : Int)).toNat = 0 from rfl] at hx161_3)
                                      (try rw [show 0 * 4 = 0 from rfl] at hx161_3)
                                      (try rw [Addr.add_zero'] at hx161_3)
                                      have HR161_3 := Aside0.mk hi161_3
                                      have HC161_3 := Aside0.mk hl161_3
                                      clear hi161_3 hl161_3
                                      replace p161 := eq_true p161
                                      replace q161 := eq_true q161
                                      have p162 : 0 ≤ (0 : Int) := (by omega)
                                      have q162 : 0 < (l0.length : Int) := of_decide_eq_true (by first | (with_reducible assumption) | assumption)
                                      obtain ⟨ad162, A162_3, c162_3, e162, hx162_0, hx162_1, hx162_2, hx162_3, hl162_3, hi162_3⟩ := at_T51 HR0.out 0 p162 q162
                                      obtain rfl : ad154 = ad162 := (by injection e162)
                                      have qi162 : (0 < l0.length) = True := eq_true (by omega)
                                      (try rw [show ((0 : Int)).toNat = 0 from rfl] at hx162_0)
                                      (try rw [show 0 * 4 = 0 from rfl] at hx162_0)
                                      (try rw [Addr.add_zero'] at hx162_0)
                                      (try rw [show ((0 : Int)).toNat = 0 from rfl] at hx162_1)
                                      (try rw [show 0 * 4 = 0 from rfl] at hx162_1)
                                      (try rw [Addr.add_zero'] at hx162_1)
                                      (try rw [show ((0 : Int)).toNat = 0 from rfl] at hx162_2)
                                      (try rw [show 0 * 4 = 0 from rfl] at hx162_2)
                                      (try rw [Addr.add_zero'] at hx162_2)
                                      (try rw [show ((0 : Int)).toNat = 0 from rfl] at hx162_3)
                                      (try rw [show 0 * 4 = 0 from rfl] at hx162_3)
                                      (try rw [Addr.add_zero'] at hx162_3)
                                      have HR162_3 := Aside0.mk hi162_3
                                      have HC162_3 := Aside0.mk hl162_3
                                      clear hi162_3 hl162_3
                                      replace p162 := eq_true p162
                                      replace q162 := eq_true q162
                                      have ea_ := Option.some.inj (hx161_3.symm.trans hx162_3)
                                      injection ea_ with ea_ en_ ec_
                                      subst ea_
                                      subst ec_
                                      clear en_
                                      have p163 : 0 ≤ (x3_2 : Int) := of_decide_eq_true (by first | (with_reducible assumption) | assumption)
                                      have q163 : x3_2 < (((rd_T51 l0 0).f3).length : Int) := of_decide_eq_true (by first | (with_reducible assumption) | assumption)
                                      obtain ⟨ad163, A163_3, c163_3, e163, hx163_0, hx163_1, hx163_2, hx163_3, hl163_3, hi163_3⟩ := at_T133 HR162_3.out x3_2 p163 q163
                                      cases e163
                                      have HR163_3 := Aside0.mk hi163_3
                                      have HC163_3 := Aside0.mk hl163_3
                                      clear hi163_3 hl163_3
                                      replace p163 := eq_true p163
                                      replace q163 := eq_true q163
                                      have HRa164 := Aside0.mk (Kd.C_elem HR162_3.out (x3_2 : Int) (of_decide_eq_true (by first | (with_reducible assumption) | assumption)) (of_decide_eq_true (by first | (with_reducible assumption) | assumption)))
                                      go_wp2_with (first | (go_at_call 146; (with_reducible refine (spec_l7Message.calls k2 _ (((rd_T51 l0 0).f3).drop (x3_2 : Int).toNat).length (((rd_T51 l0 0).f3).drop (x3_2 : Int).toNat) t165 _ ?side1 ?side2 A15.out).mono ?_); (case side1 => repeat (first | exact HRa164.out | (with_reducible refine Kd.C_alloc ?_ _) | (with_reducible refine Kd.C_drewN ?_ _) | (with_reducible refine Kd.C_drew ?_))); (case side2 => exact Nat.le_refl _); rintro e w' ⟨rfl, ⟨nd, rfl⟩⟩; (try first | exact ⟨rfl, _, World.drewN_drewN _ _ _⟩ | exact ⟨rfl, _, Eq.trans (World.drewN_drewN _ _ _) (congrArg (World.drewN _) (Nat.add_assoc _ _ _))⟩); have p166 : 0 ≤ (0 : Int) := (by omega); have q166 : 0 < (l0.length : Int) := of_decide_eq_true (by first | (with_reducible assumption) | assumption); obtain ⟨ad166, A166_3, c166_3, e166, hx166_0, hx166_1, hx166_2, hx166_3, hl166_3, hi166_3⟩ := at_T51 HR0.out 0 p166 q166; obtain rfl : ad154 = ad166 := (by injection e166); have qi166 : (0 < l0.length) = True := eq_true (by omega); (try rw [show ((0 : Int)).toNat = 0 from rfl] at hx166_0); (try rw [show 0 * 4 = 0 from rfl] at hx166_0); (try rw [Addr.add_zero'] at hx166_0); (try rw [show ((0 : Int)).toNat = 0 from rfl] at hx166_1); (try rw [show 0 * 4 = 0 from rfl] at hx166_1); (try rw [Addr.add_zero'] at hx166_1); (try rw [show ((0 : Int)).toNat = 0 from rfl] at hx166_2); (try rw [show 0 * 4 = 0 from rfl] at hx166_2); (try rw [Addr.add_zero'] at hx166_2); (try rw [show ((0 : Int)).toNat = 0 from rfl] at hx166_3); (try rw [show 0 * 4 = 0 from rfl] at hx166_3); (try rw [Addr.add_zero'] at hx166_3); have HR166_3 := Aside0.mk hi166_3; have HC166_3 := Aside0.mk hl166_3; clear hi166_3 hl166_3; replace p166 := eq_true p166; replace q166 := eq_true q166; have ea_ := Option.some.inj (hx161_3.symm.trans hx166_3); injection ea_ with ea_ en_ ec_; subst ea_; subst ec_; clear en_; have p167 : 0 ≤ (x3_2 : Int) := of_decide_eq_true (by first | (with_reducible assumption) | assumption); have q167 : x3_2 < (((rd_T51 l0 0).f3).length : Int) := of_decide_eq_true (by first | (with_reducible assumption) | assumption); obtain ⟨ad167, A167_3, c167_3, e167, hx167_0, hx167_1, hx167_2, hx167_3, hl167_3, hi167_3⟩ := at_T133 HR166_3.out x3_2 p167 q167; cases e167; have HR167_3 := Aside0.mk hi167_3; have HC167_3 := Aside0.mk hl167_3; clear hi167_3 hl167_3; replace p167 := eq_true p167; replace q167 := eq_true q167; have p168 : 0 ≤ (0 : Int) := (by omega); have q168 : 0 < (l0.length : Int) := of_decide_eq_true (by first | (with_reducible assumption) | assumption); obtain ⟨ad168, A168_3, c168_3, e168, hx168_0, hx168_1, hx168_2, hx168_3, hl168_3, hi168_3⟩ := at_T51 HR0.out 0 p168 q168; obtain rfl : ad154 = ad168 := (by injection e168); have qi168 : (0 < l0.length) = True := eq_true (by omega); (try rw [show ((0 : Int)).toNat = 0 from rfl] at hx168_0); (try rw [show 0 * 4 = 0 from rfl] at hx168_0); (try rw [Addr.add_zero'] at hx168_0); (try rw [show ((0 : Int)).toNat = 0 from rfl] at hx168_1); (try rw [show 0 * 4 = 0 from rfl] at hx168_1); (try rw [Addr.add_zero'] at hx168_1); (try rw [show ((0 : Int)).toNat = 0 from rfl] at hx168_2); (try rw [show 0 * 4 = 0 from rfl] at hx168_2); (try rw [Addr.add_zero'] at hx168_2); (try rw [show ((0 : Int)).toNat = 0 from rfl] at hx168_3); (try rw [show 0 * 4 = 0 from rfl] at hx168_3); (try rw [Addr.add_zero'] at hx168_3); have HR168_3 := Aside0.mk hi168_3; have HC168_3 := Aside0.mk hl168_3; clear hi168_3 hl168_3; replace p168 := eq_true p168; replace q168 := eq_true q168; have ea_ := Option.some.inj (hx161_3.symm.trans hx168_3); injection ea_ with ea_ en_ ec_; subst ea_; subst ec_; clear en_; have p169 : 0 ≤ ((ji18) : Int) := of_decide_eq_true (by first | (with_reducible assumption) | assumption); have q169 : (ji18) < (((rd_T51 l0 0).f3).length : Int) := of_decide_eq_true (by first | (with_reducible assumption) | assumption); obtain ⟨ad169, A169_3, c169_3, e169, hx169_0, hx169_1, hx169_2, hx169_3, hl169_3, hi169_3⟩ := at_T133 HR168_3.out (ji18) p169 q169; cases e169; have HR169_3 := Aside0.mk hi169_3; have HC169_3 := Aside0.mk hl169_3; clear hi169_3 hl169_3; replace p169 := eq_true p169; replace q169 := eq_true q169; have p170 : 0 ≤ (0 : Int) := (by omega); have q170 : 0 < (l0.length : Int) := of_decide_eq_true (by first | (with_reducible assumption) | assumption); obtain ⟨ad170, A170_3, c170_3, e170, hx170_0, hx170_1, hx170_2, hx170_3, hl170_3, hi170_3⟩ := at_T51 HR0.out 0 p170 q170; obtain rfl : ad154 = ad170 := (by injection e170); have qi170 : (0 < l0.length) = True := eq_true (by omega); (try rw [show ((0 : Int)).toNat = 0 from rfl] at hx170_0); (try rw [show 0 * 4 = 0 from rfl] at hx170_0); (try rw [Addr.add_zero'] at hx170_0); (try rw [show ((0 : Int)).toNat = 0 from rfl] at hx170_1); (try rw [show 0 * 4 = 0 from rfl] at hx170_1); (try rw [Addr.add_zero'] at hx170_1); (try rw [show ((0 : Int)).toNat = 0 from rfl] at hx170_2); (try rw [show 0 * 4 = 0 from rfl] at hx170_2); (try rw [Addr.add_zero'] at hx170_2); (try rw [show ((0 : Int)).toNat = 0 from rfl] at hx170_3); (try rw [show 0 * 4 = 0 from rfl] at hx170_3); (try rw [Addr.add_zero'] at hx170_3); have HR170_3 := Aside0.mk hi170_3; have HC170_3 := Aside0.mk hl170_3; clear hi170_3 hl170_3; replace p170 := eq_true p170; replace q170 := eq_true q170; have ea_ := Option.some.inj (hx161_3.symm.trans hx170_3); injection ea_ with ea_ en_ ec_; subst ea_; subst ec_; clear en_; have p171 : 0 ≤ (x3_2 : Int) := of_decide_eq_true (by first | (with_reducible assumption) | assumption); have q171 : x3_2 < (((rd_T51 l0 0).f3).length : Int) := of_decide_eq_true (by first | (with_reducible assumption) | assumption); obtain ⟨ad171, A171_3, c171_3, e171, hx171_0, hx171_1, hx171_2, hx171_3, hl171_3, hi171_3⟩ := at_T133 HR170_3.out x3_2 p171 q171; cases e171; have HR171_3 := Aside0.mk hi171_3; have HC171_3 := Aside0.mk hl171_3; clear hi171_3 hl171_3; replace p171 := eq_true p171; replace q171 := eq_true q171; have p172 : 0 ≤ (0 : Int) := (by omega); have q172 : 0 < (l0.length : Int) := of_decide_eq_true (by first | (with_reducible assumption) | assumption); obtain ⟨ad172, A172_3, c172_3, e172, hx172_0, hx172_1, hx172_2, hx172_3, hl172_3, hi172_3⟩ := at_T51 HR0.out 0 p172 q172; obtain rfl : ad154 = ad172 := (by injection e172); have qi172 : (0 < l0.length) = True := eq_true (by omega); (try rw [show ((0 : Int)).toNat = 0 from rfl] at hx172_0); (try rw [show 0 * 4 = 0 from rfl] at hx172_0); (try rw [Addr.add_zero'] at hx172_0); (try rw [show ((0 : Int)).toNat = 0 from rfl] at hx172_1); (try rw [show 0 * 4 = 0 from rfl] at hx172_1); (try rw [Addr.add_zero'] at hx172_1); (try rw [show ((0 : Int)).toNat = 0 from rfl] at hx172_2); (try rw [show 0 * 4 = 0 from rfl] at hx172_2); (try rw [Addr.add_zero'] at hx172_2); (try rw [show ((0 : Int)).toNat = 0 from rfl] at hx172_3); (try rw [show 0 * 4 = 0 from rfl] at hx172_3); (try rw [Addr.add_zero'] at hx172_3); have HR172_3 := Aside0.mk hi172_3; have HC172_3 := Aside0.mk hl172_3; clear hi172_3 hl172_3; replace p172 := eq_true p172; replace q172 := eq_true q172; have ea_ := Option.some.inj (hx161_3.symm.trans hx172_3); injection ea_ with ea_ en_ ec_; subst ea_; subst ec_; clear en_))
                                      repeat (go_quiet (first | (go_at_call 146; (with_reducible refine (spec_l7Message.calls k2 _ (((rd_T51 l0 0).f3).drop (x3_2 : Int).toNat).length (((rd_T51 l0 0).f3).drop (x3_2 : Int).toNat) t165 _ ?side1 ?side2 A15.out).mono ?_); (case side1 => repeat (first | exact HRa164.out | (with_reducible refine Kd.C_alloc ?_ _) | (with_reducible refine Kd.C_drewN ?_ _) | (with_reducible refine Kd.C_drew ?_))); (case side2 => exact Nat.le_refl _); rintro e w' ⟨rfl, ⟨nd, rfl⟩⟩; (try first | exact ⟨rfl, _, World.drewN_drewN _ _ _⟩ | exact ⟨rfl, _, Eq.trans (World.drewN_drewN _ _ _) (congrArg (World.drewN _) (Nat.add_assoc _ _ _))⟩); have p166 : 0 ≤ (0 : Int) := (by omega); have q166 : 0 < (l0.length : Int) := of_decide_eq_true (by first | (with_reducible assumption) | assumption); obtain ⟨ad166, A166_3, c166_3, e166, hx166_0, hx166_1, hx166_2, hx166_3, hl166_3, hi166_3⟩ := at_T51 HR0.out 0 p166 q166; obtain rfl : ad154 = ad166 := (by injection e166); have qi166 : (0 < l0.length) = True := eq_true (by omega); (try rw [show ((0 : Int)).toNat = 0 from rfl] at hx166_0); (try rw [show 0 * 4 = 0 from rfl] at hx166_0); (try rw [Addr.add_zero'] at hx166_0); (try rw [show ((0 : Int)).toNat = 0 from rfl] at hx166_1); (try rw [show 0 * 4 = 0 from rfl] at hx166_1); (try rw [Addr.add_zero'] at hx166_1); (try rw [show ((0 : Int)).toNat = 0 from rfl] at hx166_2); (try rw [show 0 * 4 = 0 from rfl] at hx166_2); (try rw [Addr.add_zero'] at hx166_2); (try rw [show ((0 : Int)).toNat = 0 from rfl] at hx166_3); (try rw [show 0 * 4 = 0 from rfl] at hx166_3); (try rw [Addr.add_zero'] at hx166_3); have HR166_3 := Aside0.mk hi166_3; have HC166_3 := Aside0.mk hl166_3; clear hi166_3 hl166_3; replace p166 := eq_true p166; replace q166 := eq_true q166; have ea_ := Option.some.inj (hx161_3.symm.trans hx166_3); injection ea_ with ea_ en_ ec_; subst ea_; subst ec_; clear en_; have p167 : 0 ≤ (x3_2 : Int) := of_decide_eq_true (by first | (with_reducible assumption) | assumption); have q167 : x3_2 < (((rd_T51 l0 0).f3).length : Int) := of_decide_eq_true (by first | (with_reducible assumption) | assumption); obtain ⟨ad167, A167_3, c167_3, e167, hx167_0, hx167_1, hx167_2, hx167_3, hl167_3, hi167_3⟩ := at_T133 HR166_3.out x3_2 p167 q167; cases e167; have HR167_3 := Aside0.mk hi167_3; have HC167_3 := Aside0.mk hl167_3; clear hi167_3 hl167_3; replace p167 := eq_true p167; replace q167 := eq_true q167; have p168 : 0 ≤ (0 : Int) := (by omega); have q168 : 0 < (l0.length : Int) := of_decide_eq_true (by first | (with_reducible assumption) | assumption); obtain ⟨ad168, A168_3, c168_3, e168, hx168_0, hx168_1, hx168_2, hx168_3, hl168_3, hi168_3⟩ := at_T51 HR0.out 0 p168 q168; obtain rfl : ad154 = ad168 := (by injection e168); have qi168 : (0 < l0.length) = True := eq_true (by omega); (try rw [show ((0 : Int)).toNat = 0 from rfl] at hx168_0); (try rw [show 0 * 4 = 0 from rfl] at hx168_0); (try rw [Addr.add_zero'] at hx168_0); (try rw [show ((0 : Int)).toNat = 0 from rfl] at hx168_1); (try rw [show 0 * 4 = 0 from rfl] at hx168_1); (try rw [Addr.add_zero'] at hx168_1); (try rw [show ((0 : Int)).toNat = 0 from rfl] at hx168_2); (try rw [show 0 * 4 = 0 from rfl] at hx168_2); (try rw [Addr.add_zero'] at hx168_2); (try rw [show ((0 : Int)).toNat = 0 from rfl] at hx168_3); (try rw [show 0 * 4 = 0 from rfl] at hx168_3); (try rw [Addr.add_zero'] at hx168_3); have HR168_3 := Aside0.mk hi168_3; have HC168_3 := Aside0.mk hl168_3; clear hi168_3 hl168_3; replace p168 := eq_true p168; replace q168 := eq_true q168; have ea_ := Option.some.inj (hx161_3.symm.trans hx168_3); injection ea_ with ea_ en_ ec_; subst ea_; subst ec_; clear en_; have p169 : 0 ≤ ((ji18) : Int) := of_decide_eq_true (by first | (with_reducible assumption) | assumption); have q169 : (ji18) < (((rd_T51 l0 0).f3).length : Int) := of_decide_eq_true (by first | (with_reducible assumption) | assumption); obtain ⟨ad169, A169_3, c169_3, e169, hx169_0, hx169_1, hx169_2, hx169_3, hl169_3, hi169_3⟩ := at_T133 HR168_3.out (ji18) p169 q169; cases e169; have HR169_3 := Aside0.mk hi169_3; have HC169_3 := Aside0.mk hl169_3; clear hi169_3 hl169_3; replace p169 := eq_true p169; replace q169 := eq_true q169; have p170 : 0 ≤ (0 : Int) := (by omega); have q170 : 0 < (l0.length : Int) := of_decide_eq_true (by first | (with_reducible assumption) | assumption); obtain ⟨ad170, A170_3, c170_3, e170, hx170_0, hx170_1, hx170_2, hx170_3, hl170_3, hi170_3⟩ := at_T51 HR0.out 0 p170 q170; obtain rfl : ad154 = ad170 := (by injection e170); have qi170 : (0 < l0.length) = True := eq_true (by omega); (try rw [show ((0 : Int)).toNat = 0 from rfl] at hx170_0); (try rw [show 0 * 4 = 0 from rfl] at hx170_0); (try rw [Addr.add_zero'] at hx170_0); (try rw [show ((0 : Int)).toNat = 0 from rfl] at hx170_1); (try rw [show 0 * 4 = 0 from rfl] at hx170_1); (try rw [Addr.add_zero'] at hx170_1); (try rw [show ((0 : Int)).toNat = 0 from rfl] at hx170_2); (try rw [show 0 * 4 = 0 from rfl] at hx170_2); (try rw [Addr.add_zero'] at hx170_2); (try rw [show ((0 : Int)).toNat = 0 from rfl] at hx170_3); (try rw [show 0 * 4 = 0 from rfl] at hx170_3); (try rw [Addr.add_zero'] at hx170_3); have HR170_3 := Aside0.mk hi170_3; have HC170_3 := Aside0.mk hl170_3; clear hi170_3 hl170_3; replace p170 := eq_true p170; replace q170 := eq_true q170; have ea_ := Option.some.inj (hx161_3.symm.trans hx170_3); injection ea_ with ea_ en_ ec_; subst ea_; subst ec_; clear en_; have p171 : 0 ≤ (x3_2 : Int) := of_decide_eq_true (by first | (with_reducible assumption) | assumption); have q171 : x3_2 < (((rd_T51 l0 0).f3).length : Int) := of_decide_eq_true (by first | (with_reducible assumption) | assumption); obtain ⟨ad171, A171_3, c171_3, e171, hx171_0, hx171_1, hx171_2, hx171_3, hl171_3, hi171_3⟩ := at_T133 HR170_3.out x3_2 p171 q171; cases e171; have HR171_3 := Aside0.mk hi171_3; have HC171_3 := Aside0.mk hl171_3; clear hi171_3 hl171_3; replace p171 := eq_true p171; replace q171 := eq_true q171; have p172 : 0 ≤ (0 : Int) := (by omega); have q172 : 0 < (l0.length : Int) := of_decide_eq_true (by first | (with_reducible assumption) | assumption); obtain ⟨ad172, A172_3, c172_3, e172, hx172_0, hx172_1, hx172_2, hx172_3, hl172_3, hi172_3⟩ := at_T51 HR0.out 0 p172 q172; obtain rfl : ad154 = ad172 := (by injection e172); have qi172 : (0 < l0.length) = True := eq_true (by omega); (try rw [show ((0 : Int)).toNat = 0 from rfl] at hx172_0); (try rw [show 0 * 4 = 0 from rfl] at hx172_0); (try rw [Addr.add_zero'] at hx172_0); (try rw [show ((0 : Int)).toNat = 0 from rfl] at hx172_1); (try rw [show 0 * 4 = 0 from rfl] at hx172_1); (try rw [Addr.add_zero'] at hx172_1); (try rw [show ((0 : Int)).toNat = 0 from rfl] at hx172_2); (try rw [show 0 * 4 = 0 from rfl] at hx172_2); (try rw [Addr.add_zero'] at hx172_2); (try rw [show ((0 : Int)).toNat = 0 from rfl] at hx172_3); (try rw [show 0 * 4 = 0 from rfl] at hx172_3); (try rw [Addr.add_zero'] at hx172_3); have HR172_3 := Aside0.mk hi172_3; have HC172_3 := Aside0.mk hl172_3; clear hi172_3 hl172_3; replace p172 := eq_true p172; replace q172 := eq_true q172; have ea_ := Option.some.inj (hx161_3.symm.trans hx172_3); injection ea_ with ea_ en_ ec_; subst ea_; subst ec_; clear en_)); try go_wp2_with (first | (go_at_call 146; (with_reducible refine (spec_l7Message.calls k2 _ (((rd_T51 l0 0).f3).drop (x3_2 : Int).toNat).length (((rd_T51 l0 0).f3).drop (x3_2 : Int).toNat) t165 _ ?side1 ?side2 A15.out).mono ?_); (case side1 => repeat (first | exact HRa164.out | (with_reducible refine Kd.C_alloc ?_ _) | (with_reducible refine Kd.C_drewN ?_ _) | (with_reducible refine Kd.C_drew ?_))); (case side2 => exact Nat.le_refl _); rintro e w' ⟨rfl, ⟨nd, rfl⟩⟩; (try first | exact ⟨rfl, _, World.drewN_drewN _ _ _⟩ | exact ⟨rfl, _, Eq.trans (World.drewN_drewN _ _ _) (congrArg (World.drewN _) (Nat.add_assoc _ _ _))⟩); have p166 : 0 ≤ (0 : Int) := (by omega); have q166 : 0 < (l0.length : Int) := of_decide_eq_true (by first | (with_reducible assumption) | assumption); obtain ⟨ad166, A166_3, c166_3, e166, hx166_0, hx166_1, hx166_2, hx166_3, hl166_3, hi166_3⟩ := at_T51 HR0.out 0 p166 q166; obtain rfl : ad154 = ad166 := (by injection e166); have qi166 : (0 < l0.length) = True := eq_true (by omega); (try rw [show ((0 : Int)).toNat = 0 from rfl] at hx166_0); (try rw [show 0 * 4 = 0 from rfl] at hx166_0); (try rw [Addr.add_zero'] at hx166_0); (try rw [show ((0 : Int)).toNat = 0 from rfl] at hx166_1); (try rw [show 0 * 4 = 0 from rfl] at hx166_1); (try rw [Addr.add_zero'] at hx166_1); (try rw [show ((0 : Int)).toNat = 0 from rfl] at hx166_2); (try rw [show 0 * 4 = 0 from rfl] at hx166_2); (try rw [Addr.add_zero'] at hx166_2); (try rw [show ((0 : Int)).toNat = 0 from rfl] at hx166_3); (try rw [show 0 * 4 = 0 from rfl] at hx166_3); (try rw [Addr.add_zero'] at hx166_3); have HR166_3 := Aside0.mk hi166_3; have HC166_3 := Aside0.mk hl166_3; clear hi166_3 hl166_3; replace p166 := eq_true p166; replace q166 := eq_true q166; have ea_ := Option.some.inj (hx161_3.symm.trans hx166_3); injection ea_ with ea_ en_ ec_; subst ea_; subst ec_; clear en_; have p167 : 0 ≤ (x3_2 : Int) := of_decide_eq_true (by first | (with_reducible assumption) | assumption); have q167 : x3_2 < (((rd_T51 l0 0).f3).length : Int) := of_decide_eq_true (by first | (with_reducible assumption) | assumption); obtain ⟨ad167, A167_3, c167_3, e167, hx167_0, hx167_1, hx167_2, hx167_3, hl167_3, hi167_3⟩ := at_T133 HR166_3.out x3_2 p167 q167; cases e167; have HR167_3 := Aside0.mk hi167_3; have HC167_3 := Aside0.mk hl167_3; clear hi167_3 hl167_3; replace p167 := eq_true p167; replace q167 := eq_true q167; have p168 : 0 ≤ (0 : Int) := (by omega); have q168 : 0 < (l0.length : Int) := of_decide_eq_true (by first | (with_reducible assumption) | assumption); obtain ⟨ad168, A168_3, c168_3, e168, hx168_0, hx168_1, hx168_2, hx168_3, hl168_3, hi168_3⟩ := at_T51 HR0.out 0 p168 q168; obtain rfl : ad154 = ad168 := (by injection e168); have qi168 : (0 < l0.length) = True := eq_true (by omega); (try rw [show ((0 : Int)).toNat = 0 from rfl] at hx168_0); (try rw [show 0 * 4 = 0 from rfl] at hx168_0); (try rw [Addr.add_zero'] at hx168_0); (try rw [show ((0 : Int)).toNat = 0 from rfl] at hx168_1); (try rw [show 0 * 4 = 0 from rfl] at hx168_1); (try rw [Addr.add_zero'] at hx168_1); (try rw [show ((0 : Int)).toNat = 0 from rfl] at hx168_2); (try rw [show 0 * 4 = 0 from rfl] at hx168_2); (try rw [Addr.add_zero'] at hx168_2); (try rw [show ((0 : Int)).toNat = 0 from rfl] at hx168_3); (try rw [show 0 * 4 = 0 from rfl] at hx168_3); (try rw [Addr.add_zero'] at hx168_3); have HR168_3 := Aside0.mk hi168_3; have HC168_3 := Aside0.mk hl168_3; clear hi168_3 hl168_3; replace p168 := eq_true p168; replace q168 := eq_true q168; have ea_ := Option.some.inj (hx161_3.symm.trans hx168_3); injection ea_ with ea_ en_ ec_; subst ea_; subst ec_; clear en_; have p169 : 0 ≤ ((ji18) : Int) := of_decide_eq_true (by first | (with_reducible assumption) | assumption); have q169 : (ji18) < (((rd_T51 l0 0).f3).length : Int) := of_decide_eq_true (by first | (with_reducible assumption) | assumption); obtain ⟨ad169, A169_3, c169_3, e169, hx169_0, hx169_1, hx169_2, hx169_3, hl169_3, hi169_3⟩ := at_T133 HR168_3.out (ji18) p169 q169; cases e169; have HR169_3 := Aside0.mk hi169_3; have HC169_3 := Aside0.mk hl169_3; clear hi169_3 hl169_3; replace p169 := eq_true p169; replace q169 := eq_true q169; have p170 : 0 ≤ (0 : Int) := (by omega); have q170 : 0 < (l0.length : Int) := of_decide_eq_true (by first | (with_reducible assumption) | assumption); obtain ⟨ad170, A170_3, c170_3, e170, hx170_0, hx170_1, hx170_2, hx170_3, hl170_3, hi170_3⟩ := at_T51 HR0.out 0 p170 q170; obtain rfl : ad154 = ad170 := (by injection e170); have qi170 : (0 < l0.length) = True := eq_true (by omega); (try rw [show ((0 : Int)).toNat = 0 from rfl] at hx170_0); (try rw [show 0 * 4 = 0 from rfl] at hx170_0); (try rw [Addr.add_zero'] at hx170_0); (try rw [show ((0 : Int)).toNat = 0 from rfl] at hx170_1); (try rw [show 0 * 4 = 0 from rfl] at hx170_1); (try rw [Addr.add_zero'] at hx170_1); (try rw [show ((0 : Int)).toNat = 0 from rfl] at hx170_2); (try rw [show 0 * 4 = 0 from rfl] at hx170_2); (try rw [Addr.add_zero'] at hx170_2); (try rw [show ((0 : Int)).toNat = 0 from rfl] at hx170_3); (try rw [show 0 * 4 = 0 from rfl] at hx170_3); (try rw [Addr.add_zero'] at hx170_3); have HR170_3 := Aside0.mk hi170_3; have HC170_3 := Aside0.mk hl170_3; clear hi170_3 hl170_3; replace p170 := eq_true p170; replace q170 := eq_true q170; have ea_ := Option.some.inj (hx161_3.symm.trans hx170_3); injection ea_ with ea_ en_ ec_; subst ea_; subst ec_; clear en_; have p171 : 0 ≤ (x3_2 : Int) := of_decide_eq_true (by first | (with_reducible assumption) | assumption); have q171 : x3_2 < (((rd_T51 l0 0).f3).length : Int) := of_decide_eq_true (by first | (with_reducible assumption) | assumption); obtain ⟨ad171, A171_3, c171_3, e171, hx171_0, hx171_1, hx171_2, hx171_3, hl171_3, hi171_3⟩ := at_T133 HR170_3.out x3_2 p171 q171; cases e171; have HR171_3 := Aside0.mk hi171_3; have HC171_3 := Aside0.mk hl171_3; clear hi171_3 hl171_3; replace p171 := eq_true p171; replace q171 := eq_true q171; have p172 : 0 ≤ (0 : Int) := (by omega); have q172 : 0 < (l0.length : Int) := of_decide_eq_true (by first | (with_reducible assumption) | assumption); obtain ⟨ad172, A172_3, c172_3, e172, hx172_0, hx172_1, hx172_2, hx172_3, hl172_3, hi172_3⟩ := at_T51 HR0.out 0 p172 q172; obtain rfl : ad154 = ad172 := (by injection e172); have qi172 : (0 < l0.length) = True := eq_true (by omega); (try rw [show ((0 : Int)).toNat = 0 from rfl] at hx172_0); (try rw [show 0 * 4 = 0 from rfl] at hx172_0); (try rw [Addr.add_zero'] at hx172_0); (try rw [show ((0 : Int)).toNat = 0 from rfl] at hx172_1); (try rw [show 0 * 4 = 0 from rfl] at hx172_1); (try rw [Addr.add_zero'] at hx172_1); (try rw [show ((0 : Int)).toNat = 0 from rfl] at hx172_2); (try rw [show 0 * 4 = 0 from rfl] at hx172_2); (try rw [Addr.add_zero'] at hx172_2); (try rw [show ((0 : Int)).toNat = 0 from rfl] at hx172_3); (try rw [show 0 * 4 = 0 from rfl] at hx172_3); (try rw [Addr.add_zero'] at hx172_3); have HR172_3 := Aside0.mk hi172_3; have HC172_3 := Aside0.mk hl172_3; clear hi172_3 hl172_3; replace p172 := eq_true p172; replace q172 := eq_true q172; have ea_ := Option.some.inj (hx161_3.symm.trans hx172_3); injection ea_ with ea_ en_ ec_; subst ea_; subst ec_; clear en_)))
                                      go_ret
                                      exact ⟨by first | rfl | (simp; done) | (simp only [← hji18] <;> (first | rfl | simp)) | (simp [*]; done), by repeat (first | exact Drawn0.refl _ | apply Drawn0.step)⟩
                                    · rw [if_neg c22] at H
                                      have c22b0 : decide (((rd_T51 l0 0).f2) ≤ ((rd_T133 ((rd_T51 l0 0).f3) x3_2).f0)) = false := decide_eq_false c22
                                      clear c22
                                      have H' := Aside0.mk H
                                      clear H
                                      have p161 : 0 ≤ (0 : Int) := (by omega)
                                      have q161 : 0 < (l0.length : Int) := of_decide_eq_true (by first | (with_reducible assumption) | assumption)
                                      obtain ⟨ad161, A161_3, c161_3, e161, hx161_0, hx161_1, hx161_2, hx161_3, hl161_3, hi161_3⟩ := at_T51 HR0.out 0 p161 q161
                                      obtain rfl : ad154 = ad161 := (by injection e161)
                                      have qi161 : (0 < l0.length) = True := eq_true (by omega)
                                      (try rw [show ((0 : Int)).toNat = 0 from rfl] at hx161_0)
                                      (try rw [show 0 * 4 = 0 from rfl] at hx161_0)
                                      (try rw [Addr.add_zero'] at hx161_0)
                                      (try rw [show ((0 : Int)).toNat = 0 from rfl] at hx161_1)
                                      (try rw [show 0 * 4 = 0 from rfl] at hx161_1)
                                      (try rw [Addr.add_zero'] at hx161_1)
                                      (try rw [show ((0 : Int)).toNat = 0 from rfl] at hx161_2)
                                      (try rw [show 0 * 4 = 0 from rfl] at hx161_2)
                                      (try rw [Addr.add_zero'] at hx161_2)
                                      (try rw [show ((0 : Int)).toNat = 0 from rfl] at hx161_3)
                                      (try rw [show 0 * 4 = 0 from rfl] at hx161_3)
                                      (try rw [Addr.add_zero'] at hx161_3)
                                      have HR161_3 := Aside0.mk hi161_3
                                      have HC161_3 := Aside0.mk hl161_3
                                      clear hi161_3 hl161_3
                                      replace p161 := eq_true p161
                                      replace q161 := eq_true q161
                                      have p162 : 0 ≤ (0 : Int) := (by omega)
                                      have q162 : 0 < (l0.length : Int) := of_decide_eq_true (by first | (with_reducible assumption) | assumption)
                                      obtain ⟨ad162, A162_3, c162_3, e162, hx162_0, hx162_1, hx162_2, hx162_3, hl162_3, hi162_3⟩ := at_T51 HR0.out 0 p162 q162
                                      obtain rfl : ad154 = ad162 := (by injection e162)
                                      have qi162 : (0 < l0.length) = True := eq_true (by omega)
                                      (try rw [show ((0 : Int)).toNat = 0 from rfl] at hx162_0)
                                      (try rw [show 0 * 4 = 0 from rfl] at hx162_0)
                                      (try rw [Addr.add_zero'] at hx162_0)
                                      (try rw [show ((0 : Int)).toNat = 0 from rfl] at hx162_1)
                                      (try rw [show 0 * 4 = 0 from rfl] at hx162_1)
                                      (try rw [Addr.add_zero'] at hx162_1)
                                      (try rw [show ((0 : Int)).toNat = 0 from rfl] at hx162_2)
                                      (try rw [show 0 * 4 = 0 from rfl] at hx162_2)
                                      (try rw [Addr.add_zero'] at hx162_2)
                                      (try rw [show ((0 : Int)).toNat = 0 from rfl] at hx162_3)
                                      (try rw [show 0 * 4 = 0 from rfl] at hx162_3)
                                      (try rw [Addr.add_zero'] at hx162_3)
                                      have HR162_3 := Aside0.mk hi162_3
                                      have HC162_3 := Aside0.mk hl162_3
                                      clear hi162_3 hl162_3
                                      replace p162 := eq_true p162
                                      replace q162 := eq_true q162
                                      have ea_ := Option.some.inj (hx161_3.symm.trans hx162_3)
                                      injection ea_ with ea_ en_ ec_
                                      subst ea_
                                      subst ec_
                                      clear en_
                                      have p163 : 0 ≤ (x3_2 : Int) := of_decide_eq_true (by first | (with_reducible assumption) | assumption)
                                      have q163 : x3_2 < (((rd_T51 l0 0).f3).length : Int) := of_decide_eq_true (by first | (with_reducible assumption) | assumption)
                                      obtain ⟨ad163, A163_3, c163_3, e163, hx163_0, hx163_1, hx163_2, hx163_3, hl163_3, hi163_3⟩ := at_T133 HR162_3.out x3_2 p163 q163
                                      cases e163
                                      have HR163_3 := Aside0.mk hi163_3
                                      have HC163_3 := Aside0.mk hl163_3
                                      clear hi163_3 hl163_3
                                      replace p163 := eq_true p163
                                      replace q163 := eq_true q163
                                      have HRa164 := Aside0.mk (Kd.C_elem HR162_3.out (x3_2 : Int) (of_decide_eq_true (by first | (with_reducible assumption) | assumption)) (of_decide_eq_true (by first | (with_reducible assumption) | assumption)))
                                      go_wp2_with (first | (go_at_call 146; (with_reducible refine (spec_l7Message.calls k2 _ (((rd_T51 l0 0).f3).drop (x3_2 : Int).toNat).length (((rd_T51 l0 0).f3).drop (x3_2 : Int).toNat) t165 _ ?side1 ?side2 A15.out).mono ?_); (case side1 => repeat (first | exact HRa164.out | (with_reducible refine Kd.C_alloc ?_ _) | (with_reducible refine Kd.C_drewN ?_ _) | (with_reducible refine Kd.C_drew ?_))); (case side2 => exact Nat.le_refl _); rintro e w' ⟨rfl, ⟨nd, rfl⟩⟩; (try first | exact ⟨rfl, _, World.drewN_drewN _ _ _⟩ | exact ⟨rfl, _, Eq.trans (World.drewN_drewN _ _ _) (congrArg (World.drewN _) (Nat.add_assoc _ _ _))⟩); have p166 : 0 ≤ (0 : Int) := (by omega); have q166 : 0 < (l0.length : Int) := of_decide_eq_true (by first | (with_reducible assumption) | assumption); obtain ⟨ad166, A166_3, c166_3, e166, hx166_0, hx166_1, hx166_2, hx166_3, hl166_3, hi166_3⟩ := at_T51 HR0.out 0 p166 q166; obtain rfl : ad154 = ad166 := (by injection e166); have qi166 : (0 < l0.length) = True := eq_true (by omega); (try rw [show ((0 : Int)).toNat = 0 from rfl] at hx166_0); (try rw [show 0 * 4 = 0 from rfl] at hx166_0); (try rw [Addr.add_zero'] at hx166_0); (try rw [show ((0 : Int)).toNat = 0 from rfl] at hx166_1); (try rw [show 0 * 4 = 0 from rfl] at hx166_1); (try rw [Addr.add_zero'] at hx166_1); (try rw [show ((0 : Int)).toNat = 0 from rfl] at hx166_2); (try rw [show 0 * 4 = 0 from rfl] at hx166_2); (try rw [Addr.add_zero'] at hx166_2); (try rw [show ((0 : Int)).toNat = 0 from rfl] at hx166_3); (try rw [show 0 * 4 = 0 from rfl] at hx166_3); (try rw [Addr.add_zero'] at hx166_3); have HR166_3 := Aside0.mk hi166_3; have HC166_3 := Aside0.mk hl166_3; clear hi166_3 hl166_3; replace p166 := eq_true p166; replace q166 := eq_true q166; have ea_ := Option.some.inj (hx161_3.symm.trans hx166_3); injection ea_ with ea_ en_ ec_; subst ea_; subst ec_; clear en_; have p167 : 0 ≤ (x3_2 : Int) := of_decide_eq_true (by first | (with_reducible assumption) | assumption); have q167 : x3_2 < (((rd_T51 l0 0).f3).length : Int) := of_decide_eq_true (by first | (with_reducible assumption) | assumption); obtain ⟨ad167, A167_3, c167_3, e167, hx167_0, hx167_1, hx167_2, hx167_3, hl167_3, hi167_3⟩ := at_T133 HR166_3.out x3_2 p167 q167; cases e167; have HR167_3 := Aside0.mk hi167_3; have HC167_3 := Aside0.mk hl167_3; clear hi167_3 hl167_3; replace p167 := eq_true p167; replace q167 := eq_true q167; have p168 : 0 ≤ (0 : Int) := (by omega); have q168 : 0 < (l0.length : Int) := of_decide_eq_true (by first | (with_reducible assumption) | assumption); obtain ⟨ad168, A168_3, c168_3, e168, hx168_0, hx168_1, hx168_2, hx168_3, hl168_3, hi168_3⟩ := at_T51 HR0.out 0 p168 q168; obtain rfl : ad154 = ad168 := (by injection e168); have qi168 : (0 < l0.length) = True := eq_true (by omega); (try rw [show ((0 : Int)).toNat = 0 from rfl] at hx168_0); (try rw [show 0 * 4 = 0 from rfl] at hx168_0); (try rw [Addr.add_zero'] at hx168_0); (try rw [show ((0 : Int)).toNat = 0 from rfl] at hx168_1); (try rw [show 0 * 4 = 0 from rfl] at hx168_1); (try rw [Addr.add_zero'] at hx168_1); (try rw [show ((0 : Int)).toNat = 0 from rfl] at hx168_2); (try rw [show 0 * 4 = 0 from rfl] at hx168_2); (try rw [Addr.add_zero'] at hx168_2); (try rw [show ((0 : Int)).toNat = 0 from rfl] at hx168_3); (try rw [show 0 * 4 = 0 from rfl] at hx168_3); (try rw [Addr.add_zero'] at hx168_3); have HR168_3 := Aside0.mk hi168_3; have HC168_3 := Aside0.mk hl168_3; clear hi168_3 hl168_3; replace p168 := eq_true p168; replace q168 := eq_true q168; have ea_ := Option.some.inj (hx161_3.symm.trans hx168_3); injection ea_ with ea_ en_ ec_; subst ea_; subst ec_; clear en_; have p169 : 0 ≤ ((ji18) : Int) := of_decide_eq_true (by first | (with_reducible assumption) | assumption); have q169 : (ji18) < (((rd_T51 l0 0).f3).length : Int) := of_decide_eq_true (by first | (with_reducible assumption) | assumption); obtain ⟨ad169, A169_3, c169_3, e169, hx169_0, hx169_1, hx169_2, hx169_3, hl169_3, hi169_3⟩ := at_T133 HR168_3.out (ji18) p169 q169; cases e169; have HR169_3 := Aside0.mk hi169_3; have HC169_3 := Aside0.mk hl169_3; clear hi169_3 hl169_3; replace p169 := eq_true p169; replace q169 := eq_true q169; have p170 : 0 ≤ (0 : Int) := (by omega); have q170 : 0 < (l0.length : Int) := of_decide_eq_true (by first | (with_reducible assumption) | assumption); obtain ⟨ad170, A170_3, c170_3, e170, hx170_0, hx170_1, hx170_2, hx170_3, hl170_3, hi170_3⟩ := at_T51 HR0.out 0 p170 q170; obtain rfl : ad154 = ad170 := (by injection e170); have qi170 : (0 < l0.length) = True := eq_true (by omega); (try rw [show ((0 : Int)).toNat = 0 from rfl] at hx170_0); (try rw [show 0 * 4 = 0 from rfl] at hx170_0); (try rw [Addr.add_zero'] at hx170_0); (try rw [show ((0 : Int)).toNat = 0 from rfl] at hx170_1); (try rw [show 0 * 4 = 0 from rfl] at hx170_1); (try rw [Addr.add_zero'] at hx170_1); (try rw [show ((0 : Int)).toNat = 0 from rfl] at hx170_2); (try rw [show 0 * 4 = 0 from rfl] at hx170_2); (try rw [Addr.add_zero'] at hx170_2); (try rw [show ((0 : Int)).toNat = 0 from rfl] at hx170_3); (try rw [show 0 * 4 = 0 from rfl] at hx170_3); (try rw [Addr.add_zero'] at hx170_3); have HR170_3 := Aside0.mk hi170_3; have HC170_3 := Aside0.mk hl170_3; clear hi170_3 hl170_3; replace p170 := eq_true p170; replace q170 := eq_true q170; have ea_ := Option.some.inj (hx161_3.symm.trans hx170_3); injection ea_ with ea_ en_ ec_; subst ea_; subst ec_; clear en_; have p171 : 0 ≤ (x3_2 : Int) := of_decide_eq_true (by first | (with_reducible assumption) | assumption); have q171 : x3_2 < (((rd_T51 l0 0).f3).length : Int) := of_decide_eq_true (by first | (with_reducible assumption) | assumption); obtain ⟨ad171, A171_3, c171_3, e171, hx171_0, hx171_1, hx171_2, hx171_3, hl171_3, hi171_3⟩ := at_T133 HR170_3.out x3_2 p171 q171; cases e171; have HR171_3 := Aside0.mk hi171_3; have HC171_3 := Aside0.mk hl171_3; clear hi171_3 hl171_3; replace p171 := eq_true p171; replace q171 := eq_true q171; have p172 : 0 ≤ (0 : Int) := (by omega); have q172 : 0 < (l0.length : Int) := of_decide_eq_true (by first | (with_reducible assumption) | assumption); obtain ⟨ad172, A172_3, c172_3, e172, hx172_0, hx172_1, hx172_2, hx172_3, hl172_3, hi172_3⟩ := at_T51 HR0.out 0 p172 q172; obtain rfl : ad154 = ad172 := (by injection e172); have qi172 : (0 < l0.length) = True := eq_true (by omega); (try rw [show ((0 : Int)).toNat = 0 from rfl] at hx172_0); (try rw [show 0 * 4 = 0 from rfl] at hx172_0); (try rw [Addr.add_zero'] at hx172_0); (try rw [show ((0 : Int)).toNat = 0 from rfl] at hx172_1); (try rw [show 0 * 4 = 0 from rfl] at hx172_1); (try rw [Addr.add_zero'] at hx172_1); (try rw [show ((0 : Int)).toNat = 0 from rfl] at hx172_2); (try rw [show 0 * 4 = 0 from rfl] at hx172_2); (try rw [Addr.add_zero'] at hx172_2); (try rw [show ((0 : Int)).toNat = 0 from rfl] at hx172_3); (try rw [show 0 * 4 = 0 from rfl] at hx172_3); (try rw [Addr.add_zero'] at hx172_3); have HR172_3 := Aside0.mk hi172_3; have HC172_3 := Aside0.mk hl172_3; clear hi172_3 hl172_3; replace p172 := eq_true p172; replace q172 := eq_true q172; have ea_ := Option.some.inj (hx161_3.symm.trans hx172_3); injection ea_ with ea_ en_ ec_; subst ea_; subst ec_; clear en_))
                                      repeat (go_quiet (first | (go_at_call 146; (with_reducible refine (spec_l7Message.calls k2 _ (((rd_T51 l0 0).f3).drop (x3_2 : Int).toNat).length (((rd_T51 l0 0).f3).drop (x3_2 : Int).toNat) t165 _ ?side1 ?side2 A15.out).mono ?_); (case side1 => repeat (first | exact HRa164.out | (with_reducible refine Kd.C_alloc ?_ _) | (with_reducible refine Kd.C_drewN ?_ _) | (with_reducible refine Kd.C_drew ?_))); (case side2 => exact Nat.le_refl _); rintro e w' ⟨rfl, ⟨nd, rfl⟩⟩; (try first | exact ⟨rfl, _, World.drewN_drewN _ _ _⟩ | exact ⟨rfl, _, Eq.trans (World.drewN_drewN _ _ _) (congrArg (World.drewN _) (Nat.add_assoc _ _ _))⟩); have p166 : 0 ≤ (0 : Int) := (by omega); have q166 : 0 < (l0.length : Int) := of_decide_eq_true (by first | (with_reducible assumption) | assumption); obtain ⟨ad166, A166_3, c166_3, e166, hx166_0, hx166_1, hx166_2, hx166_3, hl166_3, hi166_3⟩ := at_T51 HR0.out 0 p166 q166; obtain rfl : ad154 = ad166 := (by injection e166); have qi166 : (0 < l0.length) = True := eq_true (by omega); (try rw [show ((0 : Int)).toNat = 0 from rfl] at hx166_0); (try rw [show 0 * 4 = 0 from rfl] at hx166_0); (try rw [Addr.add_zero'] at hx166_0); (try rw [show ((0 : Int)).toNat = 0 from rfl] at hx166_1); (try rw [show 0 * 4 = 0 from rfl] at hx166_1); (try rw [Addr.add_zero'] at hx166_1); (try rw [show ((0 : Int)).toNat = 0 from rfl] at hx166_2); (try rw [show 0 * 4 = 0 from rfl] at hx166_2); (try rw [Addr.add_zero'] at hx166_2); (try rw [show ((0 : Int)).toNat = 0 from rfl] at hx166_3); (try rw [show 0 * 4 = 0 from rfl] at hx166_3); (try rw [Addr.add_zero'] at hx166_3); have HR166_3 := Aside0.mk hi166_3; have HC166_3 := Aside0.mk hl166_3; clear hi166_3 hl166_3; replace p166 := eq_true p166; replace q166 := eq_true q166; have ea_ := Option.some.inj (hx161_3.symm.trans hx166_3); injection ea_ with ea_ en_ ec_; subst ea_; subst ec_; clear en_; have p167 : 0 ≤ (x3_2 : Int) := of_decide_eq_true (by first | (with_reducible assumption) | assumption); have q167 : x3_2 < (((rd_T51 l0 0).f3).length : Int) := of_decide_eq_true (by first | (with_reducible assumption) | assumption); obtain ⟨ad167, A167_3, c167_3, e167, hx167_0, hx167_1, hx167_2, hx167_3, hl167_3, hi167_3⟩ := at_T133 HR166_3.out x3_2 p167 q167; cases e167; have HR167_3 := Aside0.mk hi167_3; have HC167_3 := Aside0.mk hl167_3; clear hi167_3 hl167_3; replace p167 := eq_true p167; replace q167 := eq_true q167; have p168 : 0 ≤ (0 : Int) := (by omega); have q168 : 0 < (l0.length : Int) := of_decide_eq_true (by first | (with_reducible assumption) | assumption); obtain ⟨ad168, A168_3, c168_3, e168, hx168_0, hx168_1, hx168_2, hx168_3, hl168_3, hi168_3⟩ := at_T51 HR0.out 0 p168 q168; obtain rfl : ad154 = ad168 := (by injection e168); have qi168 : (0 < l0.length) = True := eq_true (by omega); (try rw [show ((0 : Int)).toNat = 0 from rfl] at hx168_0); (try rw [show 0 * 4 = 0 from rfl] at hx168_0); (try rw [Addr.add_zero'] at hx168_0); (try rw [show ((0 : Int)).toNat = 0 from rfl] at hx168_1); (try rw [show 0 * 4 = 0 from rfl] at hx168_1); (try rw [Addr.add_zero'] at hx168_1); (try rw [show ((0 : Int)).toNat = 0 from rfl] at hx168_2); (try rw [show 0 * 4 = 0 from rfl] at hx168_2); (try rw [Addr.add_zero'] at hx168_2); (try rw [show ((0 : Int)).toNat = 0 from rfl] at hx168_3); (try rw [show 0 * 4 = 0 from rfl] at hx168_3); (try rw [Addr.add_zero'] at hx168_3); have HR168_3 := Aside0.mk hi168_3; have HC168_3 := Aside0.mk hl168_3; clear hi168_3 hl168_3; replace p168 := eq_true p168; replace q168 := eq_true q168; have ea_ := Option.some.inj (hx161_3.symm.trans hx168_3); injection ea_ with ea_ en_ ec_; subst ea_; subst ec_; clear en_; have p169 : 0 ≤ ((ji18) : Int) := of_decide_eq_true (by first | (with_reducible assumption) | assumption); have q169 : (ji18) < (((rd_T51 l0 0).f3).length : Int) := of_decide_eq_true (by first | (with_reducible assumption) | assumption); obtain ⟨ad169, A169_3, c169_3, e169, hx169_0, hx169_1, hx169_2, hx169_3, hl169_3, hi169_3⟩ := at_T133 HR168_3.out (ji18) p169 q169; cases e169; have HR169_3 := Aside0.mk hi169_3; have HC169_3 := Aside0.mk hl169_3; clear hi169_3 hl169_3; replace p169 := eq_true p169; replace q169 := eq_true q169; have p170 : 0 ≤ (0 : Int) := (by omega); have q170 : 0 < (l0.length : Int) := of_decide_eq_true (by first | (with_reducible assumption) | assumption); obtain ⟨ad170, A170_3, c170_3, e170, hx170_0, hx170_1, hx170_2, hx170_3, hl170_3, hi170_3⟩ := at_T51 HR0.out 0 p170 q170; obtain rfl : ad154 = ad170 := (by injection e170); have qi170 : (0 < l0.length) = True := eq_true (by omega); (try rw [show ((0 : Int)).toNat = 0 from rfl] at hx170_0); (try rw [show 0 * 4 = 0 from rfl] at hx170_0); (try rw [Addr.add_zero'] at hx170_0); (try rw [show ((0 : Int)).toNat = 0 from rfl] at hx170_1); (try rw [show 0 * 4 = 0 from rfl] at hx170_1); (try rw [Addr.add_zero'] at hx170_1); (try rw [show ((0 : Int)).toNat = 0 from rfl] at hx170_2); (try rw [show 0 * 4 = 0 from rfl] at hx170_2); (try rw [Addr.add_zero'] at hx170_2); (try rw [show ((0 : Int)).toNat = 0 from rfl] at hx170_3); (try rw [show 0 * 4 = 0 from rfl] at hx170_3); (try rw [Addr.add_zero'] at hx170_3); have HR170_3 := Aside0.mk hi170_3; have HC170_3 := Aside0.mk hl170_3; clear hi170_3 hl170_3; replace p170 := eq_true p170; replace q170 := eq_true q170; have ea_ := Option.some.inj (hx161_3.symm.trans hx170_3); injection ea_ with ea_ en_ ec_; subst ea_; subst ec_; clear en_; have p171 : 0 ≤ (x3_2 : Int) := of_decide_eq_true (by first | (with_reducible assumption) | assumption); have q171 : x3_2 < (((rd_T51 l0 0).f3).length : Int) := of_decide_eq_true (by first | (with_reducible assumption) | assumption); obtain ⟨ad171, A171_3, c171_3, e171, hx171_0, hx171_1, hx171_2, hx171_3, hl171_3, hi171_3⟩ := at_T133 HR170_3.out x3_2 p171 q171; cases e171; have HR171_3 := Aside0.mk hi171_3; have HC171_3 := Aside0.mk hl171_3; clear hi171_3 hl171_3; replace p171 := eq_true p171; replace q171 := eq_true q171; have p172 : 0 ≤ (0 : Int) := (by omega); have q172 : 0 < (l0.length : Int) := of_decide_eq_true (by first | (with_reducible assumption) | assumption); obtain ⟨ad172, A172_3, c172_3, e172, hx172_0, hx172_1, hx172_2, hx172_3, hl172_3, hi172_3⟩ := at_T51 HR0.out 0 p172 q172; obtain rfl : ad154 = ad172 := (by injection e172); have qi172 : (0 < l0.length) = True := eq_true (by omega); (try rw [show ((0 : Int)).toNat = 0 from rfl] at hx172_0); (try rw [show 0 * 4 = 0 from rfl] at hx172_0); (try rw [Addr.add_zero'] at hx172_0); (try rw [show ((0 : Int)).toNat = 0 from rfl] at hx172_1); (try rw [show 0 * 4 = 0 from rfl] at hx172_1); (try rw [Addr.add_zero'] at hx172_1); (try rw [show ((0 : Int)).toNat = 0 from rfl] at hx172_2); (try rw [show 0 * 4 = 0 from rfl] at hx172_2); (try rw [Addr.add_zero'] at hx172_2); (try rw [show ((0 : Int)).toNat = 0 from rfl] at hx172_3); (try rw [show 0 * 4 = 0 from rfl] at hx172_3); (try rw [Addr.add_zero'] at hx172_3); have HR172_3 := Aside0.mk hi172_3; have HC172_3 := Aside0.mk hl172_3; clear hi172_3 hl172_3; replace p172 := eq_true p172; replace q172 := eq_true q172; have ea_ := Option.some.inj (hx161_3.symm.trans hx172_3); injection ea_ with ea_ en_ ec_; subst ea_; subst ec_; clear en_)); try go_wp2_with (first | (go_at_call 146; (with_reducible refine (spec_l7Message.calls k2 _ (((rd_T51 l0 0).f3).drop (x3_2 : Int).toNat).length (((rd_T51 l0 0).f3).drop (x3_2 : Int).toNat) t165 _ ?side1 ?side2 A15.out).mono ?_); (case side1 => repeat (first | exact HRa164.out | (with_reducible refine Kd.C_alloc ?_ _) | (with_reducible refine Kd.C_drewN ?_ _) | (with_reducible refine Kd.C_drew ?_))); (case side2 => exact Nat.le_refl _); rintro e w' ⟨rfl, ⟨nd, rfl⟩⟩; (try first | exact ⟨rfl, _, World.drewN_drewN _ _ _⟩ | exact ⟨rfl, _, Eq.trans (World.drewN_drewN _ _ _) (congrArg (World.drewN _) (Nat.add_assoc _ _ _))⟩); have p166 : 0 ≤ (0 : Int) := (by omega); have q166 : 0 < (l0.length : Int) := of_decide_eq_true (by first | (with_reducible assumption) | assumption); obtain ⟨ad166, A166_3, c166_3, e166, hx166_0, hx166_1, hx166_2, hx166_3, hl166_3, hi166_3⟩ := at_T51 HR0.out 0 p166 q166; obtain rfl : ad154 = ad166 := (by injection e166); have qi166 : (0 < l0.length) = True := eq_true (by omega); (try rw [show ((0 : Int)).toNat = 0 from rfl] at hx166_0); (try rw [show 0 * 4 = 0 from rfl] at hx166_0); (try rw [Addr.add_zero'] at hx166_0); (try rw [show ((0 : Int)).toNat = 0 from rfl] at hx166_1); (try rw [show 0 * 4 = 0 from rfl] at hx166_1); (try rw [Addr.add_zero'] at hx166_1); (try rw [show ((0 : Int)).toNat = 0 from rfl] at hx166_2); (try rw [show 0 * 4 = 0 from rfl] at hx166_2); (try rw [Addr.add_zero'] at hx166_2); (try rw [show ((0 : Int)).toNat = 0 from rfl] at hx166_3); (try rw [show 0 * 4 = 0 from rfl] at hx166_3); (try rw [Addr.add_zero'] at hx166_3); have HR166_3 := Aside0.mk hi166_3; have HC166_3 := Aside0.mk hl166_3; clear hi166_3 hl166_3; replace p166 := eq_true p166; replace q166 := eq_true q166; have ea_ := Option.some.inj (hx161_3.symm.trans hx166_3); injection ea_ with ea_ en_ ec_; subst ea_; subst ec_; clear en_; have p167 : 0 ≤ (x3_2 : Int) := of_decide_eq_true (by first | (with_reducible assumption) | assumption); have q167 : x3_2 < (((rd_T51 l0 0).f3).length : Int) := of_decide_eq_true (by first | (with_reducible assumption) | assumption); obtain ⟨ad167, A167_3, c167_3, e167, hx167_0, hx167_1, hx167_2, hx167_3, hl167_3, hi167_3⟩ := at_T133 HR166_3.out x3_2 p167 q167; cases e167; have HR167_3 := Aside0.mk hi167_3; have HC167_3 := Aside0.mk hl167_3; clear hi167_3 hl167_3; replace p167 := eq_true p167; replace q167 := eq_true q167; have p168 : 0 ≤ (0 : Int) := (by omega); have q168 : 0 < (l0.length : Int) := of_decide_eq_true (by first | (with_reducible assumption) | assumption); obtain ⟨ad168, A168_3, c168_3, e168, hx168_0, hx168_1, hx168_2, hx168_3, hl168_3, hi168_3⟩ := at_T51 HR0.out 0 p168 q168; obtain rfl : ad154 = ad168 := (by injection e168); have qi168 : (0 < l0.length) = True := eq_true (by omega); (try rw [show ((0 : Int)).toNat = 0 from rfl] at hx168_0); (try rw [show 0 * 4 = 0 from rfl] at hx168_0); (try rw [Addr.add_zero'] at hx168_0); (try rw [show ((0 : Int)).toNat = 0 from rfl] at hx168_1); (try rw [show 0 * 4 = 0 from rfl] at hx168_1); (try rw [Addr.add_zero'] at hx168_1); (try rw [show ((0 : Int)).toNat = 0 from rfl] at hx168_2); (try rw [show 0 * 4 = 0 from rfl] at hx168_2); (try rw [Addr.add_zero'] at hx168_2); (try rw [show ((0 : Int)).toNat = 0 from rfl] at hx168_3); (try rw [show 0 * 4 = 0 from rfl] at hx168_3); (try rw [Addr.add_zero'] at hx168_3); have HR168_3 := Aside0.mk hi168_3; have HC168_3 := Aside0.mk hl168_3; clear hi168_3 hl168_3; replace p168 := eq_true p168; replace q168 := eq_true q168; have ea_ := Option.some.inj (hx161_3.symm.trans hx168_3); injection ea_ with ea_ en_ ec_; subst ea_; subst ec_; clear en_; have p169 : 0 ≤ ((ji18) : Int) := of_decide_eq_true (by first | (with_reducible assumption) | assumption); have q169 : (ji18) < (((rd_T51 l0 0).f3).length : Int) := of_decide_eq_true (by first | (with_reducible assumption) | assumption); obtain ⟨ad169, A169_3, c169_3, e169, hx169_0, hx169_1, hx169_2, hx169_3, hl169_3, hi169_3⟩ := at_T133 HR168_3.out (ji18) p169 q169; cases e169; have HR169_3 := Aside0.mk hi169_3; have HC169_3 := Aside0.mk hl169_3; clear hi169_3 hl169_3; replace p169 := eq_true p169; replace q169 := eq_true q169; have p170 : 0 ≤ (0 : Int) := (by omega); have q170 : 0 < (l0.length : Int) := of_decide_eq_true (by first | (with_reducible assumption) | assumption); obtain ⟨ad170, A170_3, c170_3, e170, hx170_0, hx170_1, hx170_2, hx170_3, hl170_3, hi170_3⟩ := at_T51 HR0.out 0 p170 q170; obtain rfl : ad154 = ad170 := (by injection e170); have qi170 : (0 < l0.length) = True := eq_true (by omega); (try rw [show ((0 : Int)).toNat = 0 from rfl] at hx170_0); (try rw [show 0 * 4 = 0 from rfl] at hx170_0); (try rw [Addr.add_zero'] at hx170_0); (try rw [show ((0 : Int)).toNat = 0 from rfl] at hx170_1); (try rw [show 0 * 4 = 0 from rfl] at hx170_1); (try rw [Addr.add_zero'] at hx170_1); (try rw [show ((0 : Int)).toNat = 0 from rfl] at hx170_2); (try rw [show 0 * 4 = 0 from rfl] at hx170_2); (try rw [Addr.add_zero'] at hx170_2); (try rw [show ((0 : Int)).toNat = 0 from rfl] at hx170_3); (try rw [show 0 * 4 = 0 from rfl] at hx170_3); (try rw [Addr.add_zero'] at hx170_3); have HR170_3 := Aside0.mk hi170_3; have HC170_3 := Aside0.mk hl170_3; clear hi170_3 hl170_3; replace p170 := eq_true p170; replace q170 := eq_true q170; have ea_ := Option.some.inj (hx161_3.symm.trans hx170_3); injection ea_ with ea_ en_ ec_; subst ea_; subst ec_; clear en_; have p171 : 0 ≤ (x3_2 : Int) := of_decide_eq_true (by first | (with_reducible assumption) | assumption); have q171 : x3_2 < (((rd_T51 l0 0).f3).length : Int) := of_decide_eq_true (by first | (with_reducible assumption) | assumption); obtain ⟨ad171, A171_3, c171_3, e171, hx171_0, hx171_1, hx171_2, hx171_3, hl171_3, hi171_3⟩ := at_T133 HR170_3.out x3_2 p171 q171; cases e171; have HR171_3 := Aside0.mk hi171_3; have HC171_3 := Aside0.mk hl171_3; clear hi171_3 hl171_3; replace p171 := eq_true p171; replace q171 := eq_true q171; have p172 : 0 ≤ (0 : Int) := (by omega); have q172 : 0 < (l0.length : Int) := of_decide_eq_true (by first | (with_reducible assumption) | assumption); obtain ⟨ad172, A172_3, c172_3, e172, hx172_0, hx172_1, hx172_2, hx172_3, hl172_3, hi172_3⟩ := at_T51 HR0.out 0 p172 q172; obtain rfl : ad154 = ad172 := (by injection e172); have qi172 : (0 < l0.length) = True := eq_true (by omega); (try rw [show ((0 : Int)).toNat = 0 from rfl] at hx172_0); (try rw [show 0 * 4 = 0 from rfl] at hx172_0); (try rw [Addr.add_zero'] at hx172_0); (try rw [show ((0 : Int)).toNat = 0 from rfl] at hx172_1); (try rw [show 0 * 4 = 0 from rfl] at hx172_1); (try rw [Addr.add_zero'] at hx172_1); (try rw [show ((0 : Int)).toNat = 0 from rfl] at hx172_2); (try rw [show 0 * 4 = 0 from rfl] at hx172_2); (try rw [Addr.add_zero'] at hx172_2); (try rw [show ((0 : Int)).toNat = 0 from rfl] at hx172_3); (try rw [show 0 * 4 = 0 from rfl] at hx172_3); (try rw [Addr.add_zero'] at hx172_3); have HR172_3 := Aside0.mk hi172_3; have HC172_3 := Aside0.mk hl172_3; clear hi172_3 hl172_3; replace p172 := eq_true p172; replace q172 := eq_true q172; have ea_ := Option.some.inj (hx161_3.symm.trans hx172_3); injection ea_ with ea_ en_ ec_; subst ea_; subst ec_; clear en_)))
                                      go_roundg k2
                                      case measure => have := HJ4.out; have := HK2.out; omega
                                      case rel => exact ⟨(wrap64 (x3_2 + 1)), (by first | rfl | (simp; done) | (simp [*]; done)), H', ⟨by have := HJ4.out; have := HK2.out; omega⟩, by repeat (first | exact Drawn0.refl _ | apply Drawn0.step)⟩
                                · rw [if_neg c20] at H
                                  exact absurd H (by simp)
                              · rw [if_neg c19] at H
                                exact absurd H (by simp)
                            · rw [if_neg c17] at H
                              have c17b0 : decide (0 < x3_2) = false := decide_eq_false c17
                              clear c17
                              by_cases c23 : ((rd_T133 ((rd_T51 l0 0).f3) x3_2).f0) ≥ ((rd_T51 l0 0).f2)
                              · rw [if_pos c23] at H
                                have c23b0 : decide (((rd_T51 l0 0).f2) ≤ ((rd_T133 ((rd_T51 l0 0).f3) x3_2).f0)) = true := decide_eq_true c23
                                clear c23
                                obtain rfl := Option.some.inj H
                                have p161 : 0 ≤ (0 : Int) := (by omega)
                                have q161 : 0 < (l0.length : Int) := of_decide_eq_true (by first | (with_reducible assumption) | assumption)
                                obtain ⟨ad161, A161_3, c161_3, e161, hx161_0, hx161_1, hx161_2, hx161_3, hl161_3, hi161_3⟩ := at_T51 HR0.out 0 p161 q161
                                obtain rfl : ad154 = ad161 := (by injection e161)
                                have qi161 : (0 < l0.length) = True := eq_true (by omega)
                                (try rw [show ((0 : Int)).toNat = 0 from rfl] at hx161_0)
                                (try rw [show 0 * 4 = 0 from rfl] at hx161_0)
                                (try rw [Addr.add_zero'] at hx161_0)
                                (try rw [show ((0 : Int)).toNat = 0 from rfl] at hx161_1)
                                (try rw [show 0 * 4 = 0 from rfl] at hx161_1)
                                (try rw [Addr.add_zero'] at hx161_1)
                                (try rw [show ((0 : Int)).toNat = 0 from rfl] at hx161_2)
                                (try rw [show 0 * 4 = 0 from rfl] at hx161_2)
                                (try rw [Addr.add_zero'] at hx161_2)
                                (try rw [show ((0 : Int)).toNat = 0 from rfl] at hx161_3)
                                (try rw [show 0 * 4 = 0 from rfl] at hx161_3)
                                (try rw [Addr.add_zero'] at hx161_3)
                                have HR161_3 := Aside0.mk hi161_3
                                have HC161_3 := Aside0.mk hl161_3
                                clear hi161_3 hl161_3
                                replace p161 := eq_true p161
                                replace q161 := eq_true q161
                                have p162 : 0 ≤ (0 : Int) := (by omega)
                                have q162 : 0 < (l0.length : Int) := of_decide_eq_true (by first | (with_reducible assumption) | assumption)
                                obtain ⟨ad162, A162_3, c162_3, e162, hx162_0, hx162_1, hx162_2, hx162_3, hl162_3, hi162_3⟩ := at_T51 HR0.out 0 p162 q162
                                obtain rfl : ad154 = ad162 := (by injection e162)
                                have qi162 : (0 < l0.length) = True := eq_true (by omega)
                                (try rw [show ((0 : Int)).toNat = 0 from rfl] at hx162_0)
                                (try rw [show 0 * 4 = 0 from rfl] at hx162_0)
                                (try rw [Addr.add_zero'] at hx162_0)
                                (try rw [show ((0 : Int)).toNat = 0 from rfl] at hx162_1)
                                (try rw [show 0 * 4 = 0 from rfl] at hx162_1)
                                (try rw [Addr.add_zero'] at hx162_1)
                                (try rw [show ((0 : Int)).toNat = 0 from rfl] at hx162_2)
                                (try rw [show 0 * 4 = 0 from rfl] at hx162_2)
                                (try rw [Addr.add_zero'] at hx162_2)
                                (try rw [show ((0 : Int)).toNat = 0 from rfl] at hx162_3)
                                (try rw [show 0 * 4 = 0 from rfl] at hx162_3)
                                (try rw [Addr.add_zero'] at hx162_3)
                                have HR162_3 := Aside0.mk hi162_3
                                have HC162_3 := Aside0.mk hl162_3
                                clear hi162_3 hl162_3
                                replace p162 := eq_true p162
                                replace q162 := eq_true q162
                                have ea_ := Option.some.inj (hx161_3.symm.trans hx162_3)
                                injection ea_ with ea_ en_ ec_
                                subst ea_
                                subst ec_
                                clear en_
                                have p163 : 0 ≤ (x3_2 : Int) := of_decide_eq_true (by first | (with_reducible assumption) | assumption)
                                have q163 : x3_2 < (((rd_T51 l0 0).f3).length : Int) := of_decide_eq_true (by first | (with_reducible assumption) | assumption)
                                obtain ⟨ad163, A163_3, c163_3, e163, hx163_0, hx163_1, hx163_2, hx163_3, hl163_3, hi163_3⟩ := at_T133 HR162_3.out x3_2 p163 q163
                                cases e163
                                have HR163_3 := Aside0.mk hi163_3
                                have HC163_3 := Aside0.mk hl163_3
                                clear hi163_3 hl163_3
                                replace p163 := eq_true p163
                                replace q163 := eq_true q163
                                have HRa164 := Aside0.mk (Kd.C_elem HR162_3.out (x3_2 : Int) (of_decide_eq_true (by first | (with_reducible assumption) | assumption)) (of_decide_eq_true (by first | (with_reducible assumption) | assumption)))
                                go_wp2_with (first | (go_at_call 146; (with_reducible refine (spec_l7Message.calls k2 _ (((rd_T51 l0 0).f3).drop (x3_2 : Int).toNat).length (((rd_T51 l0 0).f3).drop (x3_2 : Int).toNat) t165 _ ?side1 ?side2 A15.out).mono ?_); (case side1 => repeat (first | exact HRa164.out | (with_reducible refine Kd.C_alloc ?_ _) | (with_reducible refine Kd.C_drewN ?_ _) | (with_reducible refine Kd.C_drew ?_))); (case side2 => exact Nat.le_refl _); rintro e w' ⟨rfl, ⟨nd, rfl⟩⟩; (try first | exact ⟨rfl, _, World.drewN_drewN _ _ _⟩ | exact ⟨rfl, _, Eq.trans (World.drewN_drewN _ _ _) (congrArg (World.drewN _) (Nat.add_assoc _ _ _))⟩); have p173 : 0 ≤ (0 : Int) := (by omega); have q173 : 0 < (l0.length : Int) := of_decide_eq_true (by first | (with_reducible assumption) | assumption); obtain ⟨ad173, A173_3, c173_3, e173, hx173_0, hx173_1, hx173_2, hx173_3, hl173_3, hi173_3⟩ := at_T51 HR0.out 0 p173 q173; obtain rfl : ad154 = ad173 := (by injection e173); have qi173 : (0 < l0.length) = True := eq_true (by omega); (try rw [show ((0 : Int)).toNat = 0 from rfl] at hx173_0); (try rw [show 0 * 4 = 0 from rfl] at hx173_0); (try rw [Addr.add_zero'] at hx173_0); (try rw [show ((0 : Int)).toNat = 0 from rfl] at hx173_1); (try rw [show 0 * 4 = 0 from rfl] at hx173_1); (try rw [Addr.add_zero'] at hx173_1); (try rw [show ((0 : Int)).toNat = 0 from rfl] at hx173_2); (try rw [show 0 * 4 = 0 from rfl] at hx173_2); (try rw [Addr.add_zero'] at hx173_2); (try rw [show ((0 : Int)).toNat = 0 from rfl] at hx173_3); (try rw [show 0 * 4 = 0 from rfl] at hx173_3); (try rw [Addr.add_zero'] at hx173_3); have HR173_3 := Aside0.mk hi173_3; have HC173_3 := Aside0.mk hl173_3; clear hi173_3 hl173_3; replace p173 := eq_true p173; replace q173 := eq_true q173; have ea_ := Option.some.inj (hx161_3.symm.trans hx173_3); injection ea_ with ea_ en_ ec_; subst ea_; subst ec_; clear en_; have p174 : 0 ≤ (x3_2 : Int) := of_decide_eq_true (by first | (with_reducible assumption) | assumption); have q174 : x3_2 < (((rd_T51 l0 0).f3).length : Int) := of_decide_eq_true (by first | (with_reducible assumption) | assumption); obtain ⟨ad174, A174_3, c174_3, e174, hx174_0, hx174_1, hx174_2, hx174_3, hl174_3, hi174_3⟩ := at_T133 HR173_3.out x3_2 p174 q174; cases e174; have HR174_3 := Aside0.mk hi174_3; have HC174_3 := Aside0.mk hl174_3; clear hi174_3 hl174_3; replace p174 := eq_true p174; replace q174 := eq_true q174; have p175 : 0 ≤ (0 : Int) := (by omega); have q175 : 0 < (l0.length : Int) := of_decide_eq_true (by first | (with_reducible assumption) | assumption); obtain ⟨ad175, A175_3, c175_3, e175, hx175_0, hx175_1, hx175_2, hx175_3, hl175_3, hi175_3⟩ := at_T51 HR0.out 0 p175 q175; obtain rfl : ad154 = ad175 := (by injection e175); have qi175 : (0 < l0.length) = True := eq_true (by omega); (try rw [show ((0 : Int)).toNat = 0 from rfl] at hx175_0); (try rw [show 0 * 4 = 0 from rfl] at hx175_0); (try rw [Addr.add_zero'] at hx175_0); (try rw [show ((0 : Int)).toNat = 0 from rfl] at hx175_1); (try rw [show 0 * 4 = 0 from rfl] at hx175_1); (try rw [Addr.add_zero'] at hx175_1); (try rw [show ((0 : Int)).toNat = 0 from rfl] at hx175_2); (try rw [show 0 * 4 = 0 from rfl] at hx175_2); (try rw [Addr.add_zero'] at hx175_2); (try rw [show ((0 : Int)).toNat = 0 from rfl] at hx175_3); (try rw [show 0 * 4 = 0 from rfl] at hx175_3); (try rw [Addr.add_zero'] at hx175_3); have HR175_3 := Aside0.mk hi175_3; have HC175_3 := Aside0.mk hl175_3; clear hi175_3 hl175_3; replace p175 := eq_true p175; replace q175 := eq_true q175; have ea_ := Option.some.inj (hx161_3.symm.trans hx175_3); injection ea_ with ea_ en_ ec_; subst ea_; subst ec_; clear en_))
                                repeat (go_quiet (first | (go_at_call 146; (with_reducible refine (spec_l7Message.calls k2 _ (((rd_T51 l0 0).f3).drop (x3_2 : Int).toNat).length (((rd_T51 l0 0).f3).drop (x3_2 : Int).toNat) t165 _ ?side1 ?side2 A15.out).mono ?_); (case side1 => repeat (first | exact HRa164.out | (with_reducible refine Kd.C_alloc ?_ _) | (with_reducible refine Kd.C_drewN ?_ _) | (with_reducible refine Kd.C_drew ?_))); (case side2 => exact Nat.le_refl _); rintro e w' ⟨rfl, ⟨nd, rfl⟩⟩; (try first | exact ⟨rfl, _, World.drewN_drewN _ _ _⟩ | exact ⟨rfl, _, Eq.trans (World.drewN_drewN _ _ _) (congrArg (World.drewN _) (Nat.add_assoc _ _ _))⟩); have p173 : 0 ≤ (0 : Int) := (by omega); have q173 : 0 < (l0.length : Int) := of_decide_eq_true (by first | (with_reducible assumption) | assumption); obtain ⟨ad173, A173_3, c173_3, e173, hx173_0, hx173_1, hx173_2, hx173_3, hl173_3, hi173_3⟩ := at_T51 HR0.out 0 p173 q173; obtain rfl : ad154 = ad173 := (by injection e173); have qi173 : (0 < l0.length) = True := eq_true (by omega); (try rw [show ((0 : Int)).toNat = 0 from rfl] at hx173_0); (try rw [show 0 * 4 = 0 from rfl] at hx173_0); (try rw [Addr.add_zero'] at hx173_0); (try rw [show ((0 : Int)).toNat = 0 from rfl] at hx173_1); (try rw [show 0 * 4 = 0 from rfl] at hx173_1); (try rw [Addr.add_zero'] at hx173_1); (try rw [show ((0 : Int)).toNat = 0 from rfl] at hx173_2); (try rw [show 0 * 4 = 0 from rfl] at hx173_2); (try rw [Addr.add_zero'] at hx173_2); (try rw [show ((0 : Int)).toNat = 0 from rfl] at hx173_3); (try rw [show 0 * 4 = 0 from rfl] at hx173_3); (try rw [Addr.add_zero'] at hx173_3); have HR173_3 := Aside0.mk hi173_3; have HC173_3 := Aside0.mk hl173_3; clear hi173_3 hl173_3; replace p173 := eq_true p173; replace q173 := eq_true q173; have ea_ := Option.some.inj (hx161_3.symm.trans hx173_3); injection ea_ with ea_ en_ ec_; subst ea_; subst ec_; clear en_; have p174 : 0 ≤ (x3_2 : Int) := of_decide_eq_true (by first | (with_reducible assumption) | assumption); have q174 : x3_2 < (((rd_T51 l0 0).f3).length : Int) := of_decide_eq_true (by first | (with_reducible assumption) | assumption); obtain ⟨ad174, A174_3, c174_3, e174, hx174_0, hx174_1, hx174_2, hx174_3, hl174_3, hi174_3⟩ := at_T133 HR173_3.out x3_2 p174 q174; cases e174; have HR174_3 := Aside0.mk hi174_3; have HC174_3 := Aside0.mk hl174_3; clear hi174_3 hl174_3; replace p174 := eq_true p174; replace q174 := eq_true q174; have p175 : 0 ≤ (0 : Int) := (by omega); have q175 : 0 < (l0.length : Int) := of_decide_eq_true (by first | (with_reducible assumption) | assumption); obtain ⟨ad175, A175_3, c175_3, e175, hx175_0, hx175_1, hx175_2, hx175_3, hl175_3, hi175_3⟩ := at_T51 HR0.out 0 p175 q175; obtain rfl : ad154 = ad175 := (by injection e175); have qi175 : (0 < l0.length) = True := eq_true (by omega); (try rw [show ((0 : Int)).toNat = 0 from rfl] at hx175_0); (try rw [show 0 * 4 = 0 from rfl] at hx175_0); (try rw [Addr.add_zero'] at hx175_0); (try rw [show ((0 : Int)).toNat = 0 from rfl] at hx175_1); (try rw [show 0 * 4 = 0 from rfl] at hx175_1); (try rw [Addr.add_zero'] at hx175_1); (try rw [show ((0 : Int)).toNat = 0 from rfl] at hx175_2); (try rw [show 0 * 4 = 0 from rfl] at hx175_2); (try rw [Addr.add_zero'] at hx175_2); (try rw [show ((0 : Int)).toNat = 0 from rfl] at hx175_3); (try rw [show 0 * 4 = 0 from rfl] at hx175_3); (try rw [Addr.add_zero'] at hx175_3); have HR175_3 := Aside0.mk hi175_3; have HC175_3 := Aside0.mk hl175_3; clear hi175_3 hl175_3; replace p175 := eq_true p175; replace q175 := eq_true q175; have ea_ := Option.some.inj (hx161_3.symm.trans hx175_3); injection ea_ with ea_ en_ ec_; subst ea_; subst ec_; clear en_)); try go_wp2_with (first | (go_at_call 146; (with_reducible refine (spec_l7Message.calls k2 _ (((rd_T51 l0 0).f3).drop (x3_2 : Int).toNat).length (((rd_T51 l0 0).f3).drop (x3_2 : Int).toNat) t165 _ ?side1 ?side2 A15.out).mono ?_); (case side1 => repeat (first | exact HRa164.out | (with_reducible refine Kd.C_alloc ?_ _) | (with_reducible refine Kd.C_drewN ?_ _) | (with_reducible refine Kd.C_drew ?_))); (case side2 => exact Nat.le_refl _); rintro e w' ⟨rfl, ⟨nd, rfl⟩⟩; (try first | exact ⟨rfl, _, World.drewN_drewN _ _ _⟩ | exact ⟨rfl, _, Eq.trans (World.drewN_drewN _ _ _) (congrArg (World.drewN _) (Nat.add_assoc _ _ _))⟩); have p173 : 0 ≤ (0 : Int) := (by omega); have q173 : 0 < (l0.length : Int) := of_decide_eq_true (by first | (with_reducible assumption) | assumption); obtain ⟨ad173, A173_3, c173_3, e173, hx173_0, hx173_1, hx173_2, hx173_3, hl173_3, hi173_3⟩ := at_T51 HR0.out 0 p173 q173; obtain rfl : ad154 = ad173 := (by injection e173); have qi173 : (0 < l0.length) = True := eq_true (by omega); (try rw [show ((0 : Int)).toNat = 0 from rfl] at hx173_0); (try rw [show 0 * 4 = 0 from rfl] at hx173_0); (try rw [Addr.add_zero'] at hx173_0); (try rw [show ((0 : Int)).toNat = 0 from rfl] at hx173_1); (try rw [show 0 * 4 = 0 from rfl] at hx173_1); (try rw [Addr.add_zero'] at hx173_1); (try rw [show ((0 : Int)).toNat = 0 from rfl] at hx173_2); (try rw [show 0 * 4 = 0 from rfl] at hx173_2); (try rw [Addr.add_zero'] at hx173_2); (try rw [show ((0 : Int)).toNat = 0 from rfl] at hx173_3); (try rw [show 0 * 4 = 0 from rfl] at hx173_3); (try rw [Addr.add_zero'] at hx173_3); have HR173_3 := Aside0.mk hi173_3; have HC173_3 := Aside0.mk hl173_3; clear hi173_3 hl173_3; replace p173 := eq_true p173; replace q173 := eq_true q173; have ea_ := Option.some.inj (hx161_3.symm.trans hx173_3); injection ea_ with ea_ en_ ec_; subst ea_; subst ec_; clear en_; have p174 : 0 ≤ (x3_2 : Int) := of_decide_eq_true (by first | (with_reducible assumption) | assumption); have q174 : x3_2 < (((rd_T51 l0 0).f3).length : Int) := of_decide_eq_true (by first | (with_reducible assumption) | assumption); obtain ⟨ad174, A174_3, c174_3, e174, hx174_0, hx174_1, hx174_2, hx174_3, hl174_3, hi174_3⟩ := at_T133 HR173_3.out x3_2 p174 q174; cases e174; have HR174_3 := Aside0.mk hi174_3; have HC174_3 := Aside0.mk hl174_3; clear hi174_3 hl174_3; replace p174 := eq_true p174; replace q174 := eq_true q174; have p175 : 0 ≤ (0 : Int) := (by omega); have q175 : 0 < (l0.length : Int) := of_decide_eq_true (by first | (with_reducible assumption) | assumption); obtain ⟨ad175, A175_3, c175_3, e175, hx175_0, hx175_1, hx175_2, hx175_3, hl175_3, hi175_3⟩ := at_T51 HR0.out 0 p175 q175; obtain rfl : ad154 = ad175 := (by injection e175); have qi175 : (0 < l0.length) = True := eq_true (by omega); (try rw [show ((0 : Int)).toNat = 0 from rfl] at hx175_0); (try rw [show 0 * 4 = 0 from rfl] at hx175_0); (try rw [Addr.add_zero'] at hx175_0); (try rw [show ((0 : Int)).toNat = 0 from rfl] at hx175_1); (try rw [show 0 * 4 = 0 from rfl] at hx175_1); (try rw [Addr.add_zero'] at hx175_1); (try rw [show ((0 : Int)).toNat = 0 from rfl] at hx175_2); (try rw [show 0 * 4 = 0 from rfl] at hx175_2); (try rw [Addr.add_zero'] at hx175_2); (try rw [show ((0 : Int)).toNat = 0 from rfl] at hx175_3); (try rw [show 0 * 4 = 0 from rfl] at hx175_3); (try rw [Addr.add_zero'] at hx175_3); have HR175_3 := Aside0.mk hi175_3; have HC175_3 := Aside0.mk hl175_3; clear hi175_3 hl175_3; replace p175 := eq_true p175; replace q175 := eq_true q175; have ea_ := Option.some.inj (hx161_3.symm.trans hx175_3); injection ea_ with ea_ en_ ec_; subst ea_; subst ec_; clear en_)))
                                go_ret
                                exact ⟨by first | rfl | (simp; done) | (simp [*]; done), by repeat (first | exact Drawn0.refl _ | apply Drawn0.step)⟩
                              · rw [if_neg c23] at H
                                have c23b0 : decide (((rd_T51 l0 0).f2) ≤ ((rd_T133 ((rd_T51 l0 0).f3) x3_2).f0)) = false := decide_eq_false c23
                                clear c23
                                have H' := Aside0.mk H
                                clear H
                                have p161 : 0 ≤ (0 : Int) := (by omega)
                                have q161 : 0 < (l0.length : Int) := of_decide_eq_true (by first | (with_reducible assumption) | assumption)
                                obtain ⟨ad161, A161_3, c161_3, e161, hx161_0, hx161_1, hx161_2, hx161_3, hl161_3, hi161_3⟩ := at_T51 HR0.out 0 p161 q161
                                obtain rfl : ad154 = ad161 := (by injection e161)
                                have qi161 : (0 < l0.length) = True := eq_true (by omega)
                                (try rw [show ((0 : Int)).toNat = 0 from rfl] at hx161_0)
                                (try rw [show 0 * 4 = 0 from rfl] at hx161_0)
                                (try rw [Addr.add_zero'] at hx161_0)
                                (try rw [show ((0 : Int)).toNat = 0 from rfl] at hx161_1)
                                (try rw [show 0 * 4 = 0 from rfl] at hx161_1)
                                (try rw [Addr.add_zero'] at hx161_1)
                                (try rw [show ((0 : Int)).toNat = 0 from rfl] at hx161_2)
                                (try rw [show 0 * 4 = 0 from rfl] at hx161_2)
                                (try rw [Addr.add_zero'] at hx161_2)
                                (try rw [show ((0 : Int)).toNat = 0 from rfl] at hx161_3)
                                (try rw [show 0 * 4 = 0 from rfl] at hx161_3)
                                (try rw [Addr.add_zero'] at hx161_3)
                                have HR161_3 := Aside0.mk hi161_3
                                have HC161_3 := Aside0.mk hl161_3
                                clear hi161_3 hl161_3
                                replace p161 := eq_true p161
                                replace q161 := eq_true q161
                                have p162 : 0 ≤ (0 : Int) := (by omega)
                                have q162 : 0 < (l0.length : Int) := of_decide_eq_true (by first | (with_reducible assumption) | assumption)
                                obtain ⟨ad162, A162_3, c162_3, e162, hx162_0, hx162_1, hx162_2, hx162_3, hl162_3, hi162_3⟩ := at_T51 HR0.out 0 p162 q162
                                obtain rfl : ad154 = ad162 := (by injection e162)
                                have qi162 : (0 < l0.length) = True := eq_true (by omega)
                                (try rw [show ((0 : Int)).toNat = 0 from rfl] at hx162_0)
                                (try rw [show 0 * 4 = 0 from rfl] at hx162_0)
                                (try rw [Addr.add_zero'] at hx162_0)
                                (try rw [show ((0 : Int)).toNat = 0 from rfl] at hx162_1)
                                (try rw [show 0 * 4 = 0 from rfl] at hx162_1)
                                (try rw [Addr.add_zero'] at hx162_1)
                                (try rw [show ((0 : Int)).toNat = 0 from rfl] at hx162_2)
                                (try rw [show 0 * 4 = 0 from rfl] at hx162_2)
                                (try rw [Addr.add_zero'] at hx162_2)
                                (try rw [show ((0 : Int)).toNat = 0 from rfl] at hx162_3)
                                (try rw [show 0 * 4 = 0 from rfl] at hx162_3)
                                (try rw [Addr.add_zero'] at hx162_3)
                                have HR162_3 := Aside0.mk hi162_3
                                have HC162_3 := Aside0.mk hl162_3
                                clear hi162_3 hl162_3
                                replace p162 := eq_true p162
                                replace q162 := eq_true q162
                                have ea_ := Option.some.inj (hx161_3.symm.trans hx162_3)
                                injection ea_ with ea_ en_ ec_
                                subst ea_
                                subst ec_
                                clear en_
                                have p163 : 0 ≤ (x3_2 : Int) := of_decide_eq_true (by first | (with_reducible assumption) | assumption)
                                have q163 : x3_2 < (((rd_T51 l0 0).f3).length : Int) := of_decide_eq_true (by first | (with_reducible assumption) | assumption)
                                obtain ⟨ad163, A163_3, c163_3, e163, hx163_0, hx163_1, hx163_2, hx163_3, hl163_3, hi163_3⟩ := at_T133 HR162_3.out x3_2 p163 q163
                                cases e163
                                have HR163_3 := Aside0.mk hi163_3
                                have HC163_3 := Aside0.mk hl163_3
                                clear hi163_3 hl163_3
                                replace p163 := eq_true p163
                                replace q163 := eq_true q163
                                have HRa164 := Aside0.mk (Kd.C_elem HR162_3.out (x3_2 : Int) (of_decide_eq_true (by first | (with_reducible assumption) | assumption)) (of_decide_eq_true (by first | (with_reducible assumption) | assumption)))
                                go_wp2_with (first | (go_at_call 146; (with_reducible refine (spec_l7Message.calls k2 _ (((rd_T51 l0 0).f3).drop (x3_2 : Int).toNat).length (((rd_T51 l0 0).f3).drop (x3_2 : Int).toNat) t165 _ ?side1 ?side2 A15.out).mono ?_); (case side1 => repeat (first | exact HRa164.out | (with_reducible refine Kd.C_alloc ?_ _) | (with_reducible refine Kd.C_drewN ?_ _) | (with_reducible refine Kd.C_drew ?_))); (case side2 => exact Nat.le_refl _); rintro e w' ⟨rfl, ⟨nd, rfl⟩⟩; (try first | exact ⟨rfl, _, World.drewN_drewN _ _ _⟩ | exact ⟨rfl, _, Eq.trans (World.drewN_drewN _ _ _) (congrArg (World.drewN _) (Nat.add_assoc _ _ _))⟩); have p173 : 0 ≤ (0 : Int) := (by omega); have q173 : 0 < (l0.length : Int) := of_decide_eq_true (by first | (with_reducible assumption) | assumption); obtain ⟨ad173, A173_3, c173_3, e173, hx173_0, hx173_1, hx173_2, hx173_3, hl173_3, hi173_3⟩ := at_T51 HR0.out 0 p173 q173; obtain rfl : ad154 = ad173 := (by injection e173); have qi173 : (0 < l0.length) = True := eq_true (by omega); (try rw [show ((0 : Int)).toNat = 0 from rfl] at hx173_0); (try rw [show 0 * 4 = 0 from rfl] at hx173_0); (try rw [Addr.add_zero'] at hx173_0); (try rw [show ((0 : Int)).toNat = 0 from rfl] at hx173_1); (try rw [show 0 * 4 = 0 from rfl] at hx173_1); (try rw [Addr.add_zero'] at hx173_1); (try rw [show ((0 : Int)).toNat = 0 from rfl] at hx173_2); (try rw [show 0 * 4 = 0 from rfl] at hx173_2); (try rw [Addr.add_zero'] at hx173_2); (try rw [show ((0 : Int)).toNat = 0 from rfl] at hx173_3); (try rw [show 0 * 4 = 0 from rfl] at hx173_3); (try rw [Addr.add_zero'] at hx173_3); have HR173_3 := Aside0.mk hi173_3; have HC173_3 := Aside0.mk hl173_3; clear hi173_3 hl173_3; replace p173 := eq_true p173; replace q173 := eq_true q173; have ea_ := Option.some.inj (hx161_3.symm.trans hx173_3); injection ea_ with ea_ en_ ec_; subst ea_; subst ec_; clear en_; have p174 : 0 ≤ (x3_2 : Int) := of_decide_eq_true (by first | (with_reducible assumption) | assumption); have q174 : x3_2 < (((rd_T51 l0 0).f3).length : Int) := of_decide_eq_true (by first | (with_reducible assumption) | assumption); obtain ⟨ad174, A174_3, c174_3, e174, hx174_0, hx174_1, hx174_2, hx174_3, hl174_3, hi174_3⟩ := at_T133 HR173_3.out x3_2 p174 q174; cases e174; have HR174_3 := Aside0.mk hi174_3; have HC174_3 := Aside0.mk hl174_3; clear hi174_3 hl174_3; replace p174 := eq_true p174; replace q174 := eq_true q174; have p175 : 0 ≤ (0 : Int) := (by omega); have q175 : 0 < (l0.length : Int) := of_decide_eq_true (by first | (with_reducible assumption) | assumption); obtain ⟨ad175, A175_3, c175_3, e175, hx175_0, hx175_1, hx175_2, hx175_3, hl175_3, hi175_3⟩ := at_T51 HR0.out 0 p175 q175; obtain rfl : ad154 = ad175 := (by injection e175); have qi175 : (0 < l0.length) = True := eq_true (by omega); (try rw [show ((0 : Int)).toNat = 0 from rfl] at hx175_0); (try rw [show 0 * 4 = 0 from rfl] at hx175_0); (try rw [Addr.add_zero'] at hx175_0); (try rw [show ((0 : Int)).toNat = 0 from rfl] at hx175_1); (try rw [show 0 * 4 = 0 from rfl] at hx175_1); (try rw [Addr.add_zero'] at hx175_1); (try rw [show ((0 : Int)).toNat = 0 from rfl] at hx175_2); (try rw [show 0 * 4 = 0 from rfl] at hx175_2); (try rw [Addr.add_zero'] at hx175_2); (try rw [show ((0 : Int)).toNat = 0 from rfl] at hx175_3); (try rw [show 0 * 4 = 0 from rfl] at hx175_3); (try rw [Addr.add_zero'] at hx175_3); have HR175_3 := Aside0.mk hi175_3; have HC175_3 := Aside0.mk hl175_3; clear hi175_3 hl175_3; replace p175 := eq_true p175; replace q175 := eq_true q175; have ea_ := Option.some.inj (hx161_3.symm.trans hx175_3); injection ea_ with ea_ en_ ec_; subst ea_; subst ec_; clear en_))
                                repeat (go_quiet (first | (go_at_call 146; (with_reducible refine (spec_l7Message.calls k2 _ (((rd_T51 l0 0).f3).drop (x3_2 : Int).toNat).length (((rd_T51 l0 0).f3).drop (x3_2 : Int).toNat) t165 _ ?side1 ?side2 A15.out).mono ?_); (case side1 => repeat (first | exact HRa164.out | (with_reducible refine Kd.C_alloc ?_ _) | (with_reducible refine Kd.C_drewN ?_ _) | (with_reducible refine Kd.C_drew ?_))); (case side2 => exact Nat.le_refl _); rintro e w' ⟨rfl, ⟨nd, rfl⟩⟩; (try first | exact ⟨rfl, _, World.drewN_drewN _ _ _⟩ | exact ⟨rfl, _, Eq.trans (World.drewN_drewN _ _ _) (congrArg (World.drewN _) (Nat.add_assoc _ _ _))⟩); have p173 : 0 ≤ (0 : Int) := (by omega); have q173 : 0 < (l0.length : Int) := of_decide_eq_true (by first | (with_reducible assumption) | assumption); obtain ⟨ad173, A173_3, c173_3, e173, hx173_0, hx173_1, hx173_2, hx173_3, hl173_3, hi173_3⟩ := at_T51 HR0.out 0 p173 q173; obtain rfl : ad154 = ad173 := (by injection e173); have qi173 : (0 < l0.length) = True := eq_true (by omega); (try rw [show ((0 : Int)).toNat = 0 from rfl] at hx173_0); (try rw [show 0 * 4 = 0 from rfl] at hx173_0); (try rw [Addr.add_zero'] at hx173_0); (try rw [show ((0 : Int)).toNat = 0 from rfl] at hx173_1); (try rw [show 0 * 4 = 0 from rfl] at hx173_1); (try rw [Addr.add_zero'] at hx173_1); (try rw [show ((0 : Int)).toNat = 0 from rfl] at hx173_2); (try rw [show 0 * 4 = 0 from rfl] at hx173_2); (try rw [Addr.add_zero'] at hx173_2); (try rw [show ((0 : Int)).toNat = 0 from rfl] at hx173_3); (try rw [show 0 * 4 = 0 from rfl] at hx173_3); (try rw [Addr.add_zero'] at hx173_3); have HR173_3 := Aside0.mk hi173_3; have HC173_3 := Aside0.mk hl173_3; clear hi173_3 hl173_3; replace p173 := eq_true p173; replace q173 := eq_true q173; have ea_ := Option.some.inj (hx161_3.symm.trans hx173_3); injection ea_ with ea_ en_ ec_; subst ea_; subst ec_; clear en_; have p174 : 0 ≤ (x3_2 : Int) := of_decide_eq_true (by first | (with_reducible assumption) | assumption); have q174 : x3_2 < (((rd_T51 l0 0).f3).length : Int) := of_decide_eq_true (by first | (with_reducible assumption) | assumption); obtain ⟨ad174, A174_3, c174_3, e174, hx174_0, hx174_1, hx174_2, hx174_3, hl174_3, hi174_3⟩ := at_T133 HR173_3.out x3_2 p174 q174; cases e174; have HR174_3 := Aside0.mk hi174_3; have HC174_3 := Aside0.mk hl174_3; clear hi174_3 hl174_3; replace p174 := eq_true p174; replace q174 := eq_true q174; have p175 : 0 ≤ (0 : Int) := (by omega); have q175 : 0 < (l0.length : Int) := of_decide_eq_true (by first | (with_reducible assumption) | assumption); obtain ⟨ad175, A175_3, c175_3, e175, hx175_0, hx175_1, hx175_2, hx175_3, hl175_3, hi175_3⟩ := at_T51 HR0.out 0 p175 q175; obtain rfl : ad154 = ad175 := (by injection e175); have qi175 : (0 < l0.length) = True := eq_true (by omega); (try rw [show ((0 : Int)).toNat = 0 from rfl] at hx175_0); (try rw [show 0 * 4 = 0 from rfl] at hx175_0); (try rw [Addr.add_zero'] at hx175_0); (try rw [show ((0 : Int)).toNat = 0 from rfl] at hx175_1); (try rw [show 0 * 4 = 0 from rfl] at hx175_1); (try rw [Addr.add_zero'] at hx175_1); (try rw [show ((0 : Int)).toNat = 0 from rfl] at hx175_2); (try rw [show 0 * 4 = 0 from rfl] at hx175_2); (try rw [Addr.add_zero'] at hx175_2); (try rw [show ((0 : Int)).toNat = 0 from rfl] at hx175_3); (try rw [show 0 * 4 = 0 from rfl] at hx175_3); (try rw [Addr.add_zero'] at hx175_3); have HR175_3 := Aside0.mk hi175_3; have HC175_3 := Aside0.mk hl175_3; clear hi175_3 hl175_3; replace p175 := eq_true p175; replace q175 := eq_true q175; have ea_ := Option.some.inj (hx161_3.symm.trans hx175_3); injection ea_ with ea_ en_ ec_; subst ea_; subst ec_; clear en_)); try go_wp2_with (first | (go_at_call 146; (with_reducible refine (spec_l7Message.calls k2 _ (((rd_T51 l0 0).f3).drop (x3_2 : Int).toNat).length (((rd_T51 l0 0).f3).drop (x3_2 : Int).toNat) t165 _ ?side1 ?side2 A15.out).mono ?_); (case side1 => repeat (first | exact HRa164.out | (with_reducible refine Kd.C_alloc ?_ _) | (with_reducible refine Kd.C_drewN ?_ _) | (with_reducible refine Kd.C_drew ?_))); (case side2 => exact Nat.le_refl _); rintro e w' ⟨rfl, ⟨nd, rfl⟩⟩; (try first | exact ⟨rfl, _, World.drewN_drewN _ _ _⟩ | exact ⟨rfl, _, Eq.trans (World.drewN_drewN _ _ _) (congrArg (World.drewN _) (Nat.add_assoc _ _ _))⟩); have p173 : 0 ≤ (0 : Int) := (by omega); have q173 : 0 < (l0.length : Int) := of_decide_eq_true (by first | (with_reducible assumption) | assumption); obtain ⟨ad173, A173_3, c173_3, e173, hx173_0, hx173_1, hx173_2, hx173_3, hl173_3, hi173_3⟩ := at_T51 HR0.out 0 p173 q173; obtain rfl : ad154 = ad173 := (by injection e173); have qi173 : (0 < l0.length) = True := eq_true (by omega); (try rw [show ((0 : Int)).toNat = 0 from rfl] at hx173_0); (try rw [show 0 * 4 = 0 from rfl] at hx173_0); (try rw [Addr.add_zero'] at hx173_0); (try rw [show ((0 : Int)).toNat = 0 from rfl] at hx173_1); (try rw [show 0 * 4 = 0 from rfl] at hx173_1); (try rw [Addr.add_zero'] at hx173_1); (try rw [show ((0 : Int)).toNat = 0 from rfl] at hx173_2); (try rw [show 0 * 4 = 0 from rfl] at hx173_2); (try rw [Addr.add_zero'] at hx173_2); (try rw [show ((0 : Int)).toNat = 0 from rfl] at hx173_3); (try rw [show 0 * 4 = 0 from rfl] at hx173_3); (try rw [Addr.add_zero'] at hx173_3); have HR173_3 := Aside0.mk hi173_3; have HC173_3 := Aside0.mk hl173_3; clear hi173_3 hl173_3; replace p173 := eq_true p173; replace q173 := eq_true q173; have ea_ := Option.some.inj (hx161_3.symm.trans hx173_3); injection ea_ with ea_ en_ ec_; subst ea_; subst ec_; clear en_; have p174 : 0 ≤ (x3_2 : Int) := of_decide_eq_true (by first | (with_reducible assumption) | assumption); have q174 : x3_2 < (((rd_T51 l0 0).f3).length : Int) := of_decide_eq_true (by first | (with_reducible assumption) | assumption); obtain ⟨ad174, A174_3, c174_3, e174, hx174_0, hx174_1, hx174_2, hx174_3, hl174_3, hi174_3⟩ := at_T133 HR173_3.out x3_2 p174 q174; cases e174; have HR174_3 := Aside0.mk hi174_3; have HC174_3 := Aside0.mk hl174_3; clear hi174_3 hl174_3; replace p174 := eq_true p174; replace q174 := eq_true q174; have p175 : 0 ≤ (0 : Int) := (by omega); have q175 : 0 < (l0.length : Int) := of_decide_eq_true (by first | (with_reducible assumption) | assumption); obtain ⟨ad175, A175_3, c175_3, e175, hx175_0, hx175_1, hx175_2, hx175_3, hl175_3, hi175_3⟩ := at_T51 HR0.out 0 p175 q175; obtain rfl : ad154 = ad175 := (by injection e175); have qi175 : (0 < l0.length) = True := eq_true (by omega); (try rw [show ((0 : Int)).toNat = 0 from rfl] at hx175_0); (try rw [show 0 * 4 = 0 from rfl] at hx175_0); (try rw [Addr.add_zero'] at hx175_0); (try rw [show ((0 : Int)).toNat = 0 from rfl] at hx175_1); (try rw [show 0 * 4 = 0 from rfl] at hx175_1); (try rw [Addr.add_zero'] at hx175_1); (try rw [show ((0 : Int)).toNat = 0 from rfl] at hx175_2); (try rw [show 0 * 4 = 0 from rfl] at hx175_2); (try rw [Addr.add_zero'] at hx175_2); (try rw [show ((0 : Int)).toNat = 0 from rfl] at hx175_3); (try rw [show 0 * 4 = 0 from rfl] at hx175_3); (try rw [Addr.add_zero'] at hx175_3); have HR175_3 := Aside0.mk hi175_3; have HC175_3 := Aside0.mk hl175_3; clear hi175_3 hl175_3; replace p175 := eq_true p175; replace q175 := eq_true q175; have ea_ := Option.some.inj (hx161_3.symm.trans hx175_3); injection ea_ with ea_ en_ ec_; subst ea_; subst ec_; clear en_)))
                                go_roundg k2
                                case measure => have := HJ4.out; have := HK2.out; omega
                                case rel => exact ⟨(wrap64 (x3_2 + 1)), (by first | rfl | (simp; done) | (simp [*]; done)), H', ⟨by have := HJ4.out; have := HK2.out; omega⟩, by repeat (first | exact Drawn0.refl _ | apply Drawn0.step)⟩
                          · rw [if_neg c16] at H
                            have c16b0 : (t165 == 0) = false := beq_eq_false_iff_ne.mpr c16
                            have c16b1 : (t165 != 0) = true := bne_iff_ne.mpr c16
                            obtain rfl := Option.some.inj H
                            have p161 : 0 ≤ (0 : Int) := (by omega)
                            have q161 : 0 < (l0.length : Int) := of_decide_eq_true (by first | (with_reducible assumption) | assumption)
                            obtain ⟨ad161, A161_3, c161_3, e161, hx161_0, hx161_1, hx161_2, hx161_3, hl161_3, hi161_3⟩ := at_T51 HR0.out 0 p161 q161
                            obtain rfl : ad154 = ad161 := (by injection e161)
                            have qi161 : (0 < l0.length) = True := eq_true (by omega)
                            (try rw [show ((0 : Int)).toNat = 0 from rfl] at hx161_0)
                            (try rw [show 0 * 4 = 0 from rfl] at hx161_0)
                            (try rw [Addr.add_zero'] at hx161_0)
                            (try rw [show ((0 : Int)).toNat = 0 from rfl] at hx161_1)
                            (try rw [show 0 * 4 = 0 from rfl] at hx161_1)
                            (try rw [Addr.add_zero'] at hx161_1)
                            (try rw [show ((0 : Int)).toNat = 0 from rfl] at hx161_2)
                            (try rw [show 0 * 4 = 0 from rfl] at hx161_2)
                            (try rw [Addr.add_zero'] at hx161_2)
                            (try rw [show ((0 : Int)).toNat = 0 from rfl] at hx161_3)
                            (try rw [show 0 * 4 = 0 from rfl] at hx161_3)
                            (try rw [Addr.add_zero'] at hx161_3)
                            have HR161_3 := Aside0.mk hi161_3
                            have HC161_3 := Aside0.mk hl161_3
                            clear hi161_3 hl161_3
                            replace p161 := eq_true p161
                            replace q161 := eq_true q161
                            have p162 : 0 ≤ (0 : Int) := (by omega)
                            have q162 : 0 < (l0.length : Int) := of_decide_eq_true (by first | (with_reducible assumption) | assumption)
                            obtain ⟨ad162, A162_3, c162_3, e162, hx162_0, hx162_1, hx162_2, hx162_3, hl162_3, hi162_3⟩ := at_T51 HR0.out 0 p162 q162
                            obtain rfl : ad154 = ad162 := (by injection e162)
                            have qi162 : (0 < l0.length) = True := eq_true (by omega)
                            (try rw [show ((0 : Int)).toNat = 0 from rfl] at hx162_0)
                            (try rw [show 0 * 4 = 0 from rfl] at hx162_0)
                            (try rw [Addr.add_zero'] at hx162_0)
                            (try rw [show ((0 : Int)).toNat = 0 from rfl] at hx162_1)
                            (try rw [show 0 * 4 = 0 from rfl] at hx162_1)
                            (try rw [Addr.add_zero'] at hx162_1)
                            (try rw [show ((0 : Int)).toNat = 0 from rfl] at hx162_2)
                            (try rw [show 0 * 4 = 0 from rfl] at hx162_2)
                            (try rw [Addr.add_zero'] at hx162_2)
                            (try rw [show ((0 : Int)).toNat = 0 from rfl] at hx162_3)
                            (try rw [show 0 * 4 = 0 from rfl] at hx162_3)
                            (try rw [Addr.add_zero'] at hx162_3)
                            have HR162_3 := Aside0.mk hi162_3
                            have HC162_3 := Aside0.mk hl162_3
                            clear hi162_3 hl162_3
                            replace p162 := eq_true p162
                            replace q162 := eq_true q162
                            have ea_ := Option.some.inj (hx161_3.symm.trans hx162_3)
                            injection ea_ with ea_ en_ ec_
                            subst ea_
                            subst ec_
                            clear en_
                            have p163 : 0 ≤ (x3_2 : Int) := of_decide_eq_true (by first | (with_reducible assumption) | assumption)
                            have q163 : x3_2 < (((rd_T51 l0 0).f3).length : Int) := of_decide_eq_true (by first | (with_reducible assumption) | assumption)
                            obtain ⟨ad163, A163_3, c163_3, e163, hx163_0, hx163_1, hx163_2, hx163_3, hl163_3, hi163_3⟩ := at_T133 HR162_3.out x3_2 p163 q163
                            cases e163
                            have HR163_3 := Aside0.mk hi163_3
                            have HC163_3 := Aside0.mk hl163_3
                            clear hi163_3 hl163_3
                            replace p163 := eq_true p163
                            replace q163 := eq_true q163
                            have HRa164 := Aside0.mk (Kd.C_elem HR162_3.out (x3_2 : Int) (of_decide_eq_true (by first | (with_reducible assumption) | assumption)) (of_decide_eq_true (by first | (with_reducible assumption) | assumption)))
                            go_wp2_with (first | (go_at_call 146; (with_reducible refine (spec_l7Message.calls k2 _ (((rd_T51 l0 0).f3).drop (x3_2 : Int).toNat).length (((rd_T51 l0 0).f3).drop (x3_2 : Int).toNat) t165 _ ?side1 ?side2 A15.out).mono ?_); (case side1 => repeat (first | exact HRa164.out | (with_reducible refine Kd.C_alloc ?_ _) | (with_reducible refine Kd.C_drewN ?_ _) | (with_reducible refine Kd.C_drew ?_))); (case side2 => exact Nat.le_refl _); rintro e w' ⟨rfl, ⟨nd, rfl⟩⟩; (try first | exact ⟨rfl, _, World.drewN_drewN _ _ _⟩ | exact ⟨rfl, _, Eq.trans (World.drewN_drewN _ _ _) (congrArg (World.drewN _) (Nat.add_assoc _ _ _))⟩)))
                            repeat (go_quiet (first | (go_at_call 146; (with_reducible refine (spec_l7Message.calls k2 _ (((rd_T51 l0 0).f3).drop (x3_2 : Int).toNat).length (((rd_T51 l0 0).f3).drop (x3_2 : Int).toNat) t165 _ ?side1 ?side2 A15.out).mono ?_); (case side1 => repeat (first | exact HRa164.out | (with_reducible refine Kd.C_alloc ?_ _) | (with_reducible refine Kd.C_drewN ?_ _) | (with_reducible refine Kd.C_drew ?_))); (case side2 => exact Nat.le_refl _); rintro e w' ⟨rfl, ⟨nd, rfl⟩⟩; (try first | exact ⟨rfl, _, World.drewN_drewN _ _ _⟩ | exact ⟨rfl, _, Eq.trans (World.drewN_drewN _ _ _) (congrArg (World.drewN _) (Nat.add_assoc _ _ _))⟩))); try go_wp2_with (first | (go_at_call 146; (with_reducible refine (spec_l7Message.calls k2 _ (((rd_T51 l0 0).f3).drop (x3_2 : Int).toNat).length (((rd_T51 l0 0).f3).drop (x3_2 : Int).toNat) t165 _ ?side1 ?side2 A15.out).mono ?_); (case side1 => repeat (first | exact HRa164.out | (with_reducible refine Kd.C_alloc ?_ _) | (with_reducible refine Kd.C_drewN ?_ _) | (with_reducible refine Kd.C_drew ?_))); (case side2 => exact Nat.le_refl _); rintro e w' ⟨rfl, ⟨nd, rfl⟩⟩; (try first | exact ⟨rfl, _, World.drewN_drewN _ _ _⟩ | exact ⟨rfl, _, Eq.trans (World.drewN_drewN _ _ _) (congrArg (World.drewN _) (Nat.add_assoc _ _ _))⟩))))
                            go_ret
                            exact ⟨by first | rfl | (simp; done) | (simp [*]; done), by repeat (first | exact Drawn0.refl _ | apply Drawn0.step)⟩
                        · rw [if_neg c14] at H
                          exact absurd H (by simp)
                      · rw [if_neg c13] at H
                        have c13b0 : decide (x3_2 < (((rd_T51 l0 0).f3).length : Int)) = false := decide_eq_false c13
                        clear c13
                        obtain rfl := Option.some.inj H
                        have p161 : 0 ≤ (0 : Int) := (by omega)
                        have q161 : 0 < (l0.length : Int) := of_decide_eq_true (by first | (with_reducible assumption) | assumption)
                        obtain ⟨ad161, A161_3, c161_3, e161, hx161_0, hx161_1, hx161_2, hx161_3, hl161_3, hi161_3⟩ := at_T51 HR0.out 0 p161 q161
                        obtain rfl : ad154 = ad161 := (by injection e161)
                        have qi161 : (0 < l0.length) = True := eq_true (by omega)
                        (try rw [show ((0 : Int)).toNat = 0 from rfl] at hx161_0)
                        (try rw [show 0 * 4 = 0 from rfl] at hx161_0)
                        (try rw [Addr.add_zero'] at hx161_0)
                        (try rw [show ((0 : Int)).toNat = 0 from rfl] at hx161_1)
                        (try rw [show 0 * 4 = 0 from rfl] at hx161_1)
                        (try rw [Addr.add_zero'] at hx161_1)
                        (try rw [show ((0 : Int)).toNat = 0 from rfl] at hx161_2)
                        (try rw [show 0 * 4 = 0 from rfl] at hx161_2)
                        (try rw [Addr.add_zero'] at hx161_2)
                        (try rw [show ((0 : Int)).toNat = 0 from rfl] at hx161_3)
                        (try rw [show 0 * 4 = 0 from rfl] at hx161_3)
                        (try rw [Addr.add_zero'] at hx161_3)
                        have HR161_3 := Aside0.mk hi161_3
                        have HC161_3 := Aside0.mk hl161_3
                        clear hi161_3 hl161_3
                        replace p161 := eq_true p161
                        replace q161 := eq_true q161
                        go_wp2
                        repeat (go_quiet (fail); try go_wp2)
                        go_ret
                        exact ⟨by first | rfl | (simp; done) | (simp [*]; done), by repeat (first | exact Drawn0.refl _ | apply Drawn0.step)⟩
                    · rw [if_neg c12] at H
                      exact absurd H (by simp)
            · rw [if_neg c10] at H
              exact absurd H (by simp)
    · replace c4 := Bool.eq_false_iff.mpr c4
      subst c4
      have H1 : (some 5) = some r := by rw [if_neg (show ¬ (false = true) by decide)] at H; exact H
      clear H
      have H := H1
      clear H1
      obtain rfl := Option.some.inj H
      have p154 : 0 ≤ (0 : Int) := (by omega)
      have q154 : 0 < (l0.length : Int) := of_decide_eq_true (by first | (with_reducible assumption) | assumption)
      obtain ⟨ad154, A154_3, c154_3, e154, hx154_0, hx154_1, hx154_2, hx154_3, hl154_3, hi154_3⟩ := at_T51 HR0.out 0 p154 q154
      cases e154
      have qi154 : (0 < l0.length) = True := eq_true (by omega)
      (try rw [show ((0 : Int)).toNat = 0 from rfl] at hx154_0)
      (try rw [show 0 * 4 = 0 from rfl] at hx154_0)
      (try rw [Addr.add_zero'] at hx154_0)
      (try rw [show ((0 : Int)).toNat = 0 from rfl] at hx154_1)
      (try rw [show 0 * 4 = 0 from rfl] at hx154_1)
      (try rw [Addr.add_zero'] at hx154_1)
      (try rw [show ((0 : Int)).toNat = 0 from rfl] at hx154_2)
      (try rw [show 0 * 4 = 0 from rfl] at hx154_2)
      (try rw [Addr.add_zero'] at hx154_2)
      (try rw [show ((0 : Int)).toNat = 0 from rfl] at hx154_3)
      (try rw [show 0 * 4 = 0 from rfl] at hx154_3)
      (try rw [Addr.add_zero'] at hx154_3)
      have HR154_3 := Aside0.mk hi154_3
      have HC154_3 := Aside0.mk hl154_3
      clear hi154_3 hl154_3
      replace p154 := eq_true p154
      replace q154 := eq_true q154
      go_enter Try.func93, Try.ntmps93
      go_wp2_with (first | (go_at_call 138; (with_reducible refine (spec_l7Name.calls k ((rd_T51 l0 0).f0) false _ A3.out).mono ?_); rintro e w' ⟨rfl, ⟨nd, rfl⟩⟩; (try first | exact ⟨rfl, _, World.drewN_drewN _ _ _⟩ | exact ⟨rfl, _, Eq.trans (World.drewN_drewN _ _ _) (congrArg (World.drewN _) (Nat.add_assoc _ _ _))⟩)))
      repeat (go_quiet (first | (go_at_call 138; (with_reducible refine (spec_l7Name.calls k ((rd_T51 l0 0).f0) false _ A3.out).mono ?_); rintro e w' ⟨rfl, ⟨nd, rfl⟩⟩; (try first | exact ⟨rfl, _, World.drewN_drewN _ _ _⟩ | exact ⟨rfl, _, Eq.trans (World.drewN_drewN _ _ _) (congrArg (World.drewN _) (Nat.add_assoc _ _ _))⟩))); try go_wp2_with (first | (go_at_call 138; (with_reducible refine (spec_l7Name.calls k ((rd_T51 l0 0).f0) false _ A3.out).mono ?_); rintro e w' ⟨rfl, ⟨nd, rfl⟩⟩; (try first | exact ⟨rfl, _, World.drewN_drewN _ _ _⟩ | exact ⟨rfl, _, Eq.trans (World.drewN_drewN _ _ _) (congrArg (World.drewN _) (Nat.add_assoc _ _ _))⟩))))
      go_ret
      exact ⟨by first | rfl | (simp; done) | (simp [*]; done), by repeat (first | exact Drawn0.refl _ | apply Drawn0.step)⟩
  · rw [if_neg c2] at H
    exact absurd H (by simp)

end Go.Proofs.Ytfbgfakdflifdaa.PFnExactSequenceOf

/- Functions of the program as Lean functions, each with the proof that its call comes to what that function says (texts written by a program of this session). Conditions: those that stand in each theorem. -/
import Derived.Test.YtehdbobpbcjmeaaPFnExactReadJournalx0
import Derived.Test.YtehdbobpbcjmeaaPFnExactReadJournalx1
namespace Go.Proofs.Ytehdbobpbcjmeaa.PFnExactReadJournal
open Go.RowKit Go.Proofs.YtehdbobpbcjmeaaW.PrintWords Go.Proofs.YtehdbobpbcjmeaaW.PrintLast Go.Proofs.YtehdbobpbcjmeaaW.PrintMore
attribute [local go_sem] max2_int min2_int max_two min_two max_three min_three max_four min_four   -- for this text's walks alone
set_option linter.unusedVariables false
set_option linter.unusedSimpArgs false

/-! ### spec_l8Uids: function 71 -/
def spec_l8Uids.l0 : Nat → List Int → Int → Option (Bool)
 | 0, _, _ => none
 | k + 1, x0, x3 => if x3 < (x0.length : Int) then (if 0 ≤ x3 then ((spec_l1In.f (rd x0 x3) 1 999).bind fun t119 => (if t119 = true then (if x3 > 0 then (if 0 ≤ (wrap64 (x3 - 1)) then (if (wrap64 (x3 - 1)) < (x0.length : Int) then (if (rd x0 x3) ≤ (rd x0 (wrap64 (x3 - 1))) then (some false) else (spec_l8Uids.l0 k x0 (wrap64 (x3 + 1)))) else (none)) else (none)) else (spec_l8Uids.l0 k x0 (wrap64 (x3 + 1)))) else (some false))) else (none)) else (some true)
def spec_l8Uids.f (k : Nat) (l0 : List Int) : Option (Bool) := spec_l8Uids.l0 k l0 0
set_option maxHeartbeats 8000000 in
set_option maxRecDepth 100000 in
theorem spec_l8Uids.calls (k : Nat) (A0 : Option Addr) (c0 : Nat) (l0 : List Int) (r : Bool) (w : World) (hr0 : Kd.C (Kd.int .i64) w A0 l0.length l0) (hc0 : l0.length ≤ c0) (h : spec_l8Uids.f k l0 = some r) :
 Calls Try.prog 71 #[.slice A0 l0.length c0] w fun e w' => e = .returned (.bool r) ∧ Drawn0 w w' := by
 have HR0 := Aside0.mk hr0
 have HC0 := Aside0.mk hc0
 clear hr0 hc0
 have H : (spec_l8Uids.l0 k l0 0) = some r := h
 clear h
 have H' := Aside0.mk H
 clear H
 go_enter Try.func71, Try.ntmps71
 go_wp2
 repeat (go_quiet (fail); try go_wp2)
 go_loopg [3] k (fun kq v3 w' => ∃ (x3_1 : Int), v3 = .int .i64 x3_1 ∧ Aside0 (spec_l8Uids.l0 kq l0 x3_1 = some r) ∧ Aside0 (kq ≤ k) ∧ Drawn0 w w')
 case atStart => exact ⟨(0), vl_, H', ⟨Nat.le_refl _⟩, dr_⟩
 case round =>
  clear H'
  obtain ⟨x3_1, rfl, HA, HK1, ⟨m1, rfl⟩⟩ := hrel
  cases gk with
  | zero => exact absurd HA.out (by simp [spec_l8Uids.l0])
  | succ k1 =>
    have H := HA.out
    clear HA
    simp only [spec_l8Uids.l0] at H
    by_cases c2 : x3_1 < (l0.length : Int)
    ·
     rw [if_pos c2] at H
     have c2b0 : decide (x3_1 < (l0.length : Int)) = true := decide_eq_true c2
     clear c2
     by_cases c3 : 0 ≤ x3_1
     case neg => rw [if_neg c3] at H; exact absurd H (by simp)
     rw [if_pos c3] at H
     have c3b0 : decide (0 ≤ x3_1) = true := decide_eq_true c3
     clear c3
     replace H := Option.bind_eq_some_iff.mp H
     obtain ⟨t119, A40, H⟩ := H
     (try dsimp only at H)
     have A4 := Aside0.mk A40
     clear A40
     by_cases c5 : t119 = true
     ·
      subst c5
      (try rw [if_pos rfl] at H)
      by_cases c6 : x3_1 > 0
      ·
       rw [if_pos c6] at H
       have c6b0 : decide (0 < x3_1) = true := decide_eq_true c6
       clear c6
       obtain ⟨ji7, hji7⟩ : ∃ j_ : Int, (wrap64 (x3_1 - 1)) = j_ := ⟨_, rfl⟩
       replace H : (if 0 ≤ (ji7) then (if (ji7) < (l0.length : Int) then (if (rd l0 x3_1) ≤ (rd l0 (ji7)) then (some false) else (spec_l8Uids.l0 k1 l0 (wrap64 (x3_1 + 1)))) else (none)) else (none)) = some r := by first | (rw [hji7] at H; exact H) | (simp only [hji7] at H ⊢; exact H)
       (try rw [hji7] at A4)
       have hji7w : (IntKind.i64.wrap (x3_1 - 1)) = ji7 := (i64_w _).trans hji7
       by_cases c8 : 0 ≤ (ji7)
       case neg => rw [if_neg c8] at H; exact absurd H (by simp)
       rw [if_pos c8] at H
       have c8b0 : decide (0 ≤ (ji7)) = true := decide_eq_true c8
       clear c8
       by_cases c9 : (ji7) < (l0.length : Int)
       case neg => rw [if_neg c9] at H; exact absurd H (by simp)
       rw [if_pos c9] at H
       have c9b0 : decide ((ji7) < (l0.length : Int)) = true := decide_eq_true c9
       clear c9
       have p118 : 0 ≤ (x3_1 : Int) := od_
       have q118 : x3_1 < (l0.length : Int) := od_
       obtain ⟨ad118, e118, hx118_0⟩ := Kd.at_int HR0.out x3_1 p118 q118
       cases e118
       replace p118 := eq_true p118
       replace q118 := eq_true q118
       by_cases c10 : (rd l0 x3_1) ≤ (rd l0 (ji7))
       ·
        rw [if_pos c10] at H
        have c10b0 : decide ((rd l0 x3_1) ≤ (rd l0 (ji7))) = true := decide_eq_true c10
        clear c10
        obtain rfl := Option.some.inj H
        go_wp2_with (first | (go_at_call 72; (with_reducible refine (spec_l1In.calls (rd l0 x3_1) 1 999 true _ A4.out).mono ?_); rintro e w' ⟨rfl, ⟨nd, rfl⟩⟩; (try first | exact ⟨rfl, _, World.drewN_drewN _ _ _⟩ | exact ⟨rfl, _, Eq.trans (World.drewN_drewN _ _ _) (congrArg (World.drewN _) (Nat.add_assoc _ _ _))⟩); have p120 : 0 ≤ (x3_1 : Int) := od_; have q120 : x3_1 < (l0.length : Int) := od_; obtain ⟨ad120, e120, hx120_0⟩ := Kd.at_int HR0.out x3_1 p120 q120; obtain rfl : ad118 = ad120 := (by injection e120); replace p120 := eq_true p120; replace q120 := eq_true q120; have p121 : 0 ≤ ((ji7) : Int) := od_; have q121 : (ji7) < (l0.length : Int) := od_; obtain ⟨ad121, e121, hx121_0⟩ := Kd.at_int HR0.out (ji7) p121 q121; obtain rfl : ad118 = ad121 := (by injection e121); replace p121 := eq_true p121; replace q121 := eq_true q121))
        repeat (go_quiet (first | (go_at_call 72; (with_reducible refine (spec_l1In.calls (rd l0 x3_1) 1 999 true _ A4.out).mono ?_); rintro e w' ⟨rfl, ⟨nd, rfl⟩⟩; (try first | exact ⟨rfl, _, World.drewN_drewN _ _ _⟩ | exact ⟨rfl, _, Eq.trans (World.drewN_drewN _ _ _) (congrArg (World.drewN _) (Nat.add_assoc _ _ _))⟩); have p120 : 0 ≤ (x3_1 : Int) := od_; have q120 : x3_1 < (l0.length : Int) := od_; obtain ⟨ad120, e120, hx120_0⟩ := Kd.at_int HR0.out x3_1 p120 q120; obtain rfl : ad118 = ad120 := (by injection e120); replace p120 := eq_true p120; replace q120 := eq_true q120; have p121 : 0 ≤ ((ji7) : Int) := od_; have q121 : (ji7) < (l0.length : Int) := od_; obtain ⟨ad121, e121, hx121_0⟩ := Kd.at_int HR0.out (ji7) p121 q121; obtain rfl : ad118 = ad121 := (by injection e121); replace p121 := eq_true p121; replace q121 := eq_true q121)); try go_wp2_with (first | (go_at_call 72; (with_reducible refine (spec_l1In.calls (rd l0 x3_1) 1 999 true _ A4.out).mono ?_); rintro e w' ⟨rfl, ⟨nd, rfl⟩⟩; (try first | exact ⟨rfl, _, World.drewN_drewN _ _ _⟩ | exact ⟨rfl, _, Eq.trans (World.drewN_drewN _ _ _) (congrArg (World.drewN _) (Nat.add_assoc _ _ _))⟩); have p120 : 0 ≤ (x3_1 : Int) := od_; have q120 : x3_1 < (l0.length : Int) := od_; obtain ⟨ad120, e120, hx120_0⟩ := Kd.at_int HR0.out x3_1 p120 q120; obtain rfl : ad118 = ad120 := (by injection e120); replace p120 := eq_true p120; replace q120 := eq_true q120; have p121 : 0 ≤ ((ji7) : Int) := od_; have q121 : (ji7) < (l0.length : Int) := od_; obtain ⟨ad121, e121, hx121_0⟩ := Kd.at_int HR0.out (ji7) p121 q121; obtain rfl : ad118 = ad121 := (by injection e121); replace p121 := eq_true p121; replace q121 := eq_true q121)))
        go_ret
        exact ⟨by first | rfl | (simp; done) | (simp only [← hji7] <;> (first | rfl | simp)) | (simp [*]; done) | (simp; generalize ByteArray.toList _ = zq_; cases zq_ <;> rfl), dr_⟩
       ·
        rw [if_neg c10] at H
        have c10b0 : decide ((rd l0 x3_1) ≤ (rd l0 (ji7))) = false := decide_eq_false c10
        clear c10
        have H' := Aside0.mk H
        clear H
        go_wp2_with (first | (go_at_call 72; (with_reducible refine (spec_l1In.calls (rd l0 x3_1) 1 999 true _ A4.out).mono ?_); rintro e w' ⟨rfl, ⟨nd, rfl⟩⟩; (try first | exact ⟨rfl, _, World.drewN_drewN _ _ _⟩ | exact ⟨rfl, _, Eq.trans (World.drewN_drewN _ _ _) (congrArg (World.drewN _) (Nat.add_assoc _ _ _))⟩); have p120 : 0 ≤ (x3_1 : Int) := od_; have q120 : x3_1 < (l0.length : Int) := od_; obtain ⟨ad120, e120, hx120_0⟩ := Kd.at_int HR0.out x3_1 p120 q120; obtain rfl : ad118 = ad120 := (by injection e120); replace p120 := eq_true p120; replace q120 := eq_true q120; have p121 : 0 ≤ ((ji7) : Int) := od_; have q121 : (ji7) < (l0.length : Int) := od_; obtain ⟨ad121, e121, hx121_0⟩ := Kd.at_int HR0.out (ji7) p121 q121; obtain rfl : ad118 = ad121 := (by injection e121); replace p121 := eq_true p121; replace q121 := eq_true q121))
        repeat (go_quiet (first | (go_at_call 72; (with_reducible refine (spec_l1In.calls (rd l0 x3_1) 1 999 true _ A4.out).mono ?_); rintro e w' ⟨rfl, ⟨nd, rfl⟩⟩; (try first | exact ⟨rfl, _, World.drewN_drewN _ _ _⟩ | exact ⟨rfl, _, Eq.trans (World.drewN_drewN _ _ _) (congrArg (World.drewN _) (Nat.add_assoc _ _ _))⟩); have p120 : 0 ≤ (x3_1 : Int) := od_; have q120 : x3_1 < (l0.length : Int) := od_; obtain ⟨ad120, e120, hx120_0⟩ := Kd.at_int HR0.out x3_1 p120 q120; obtain rfl : ad118 = ad120 := (by injection e120); replace p120 := eq_true p120; replace q120 := eq_true q120; have p121 : 0 ≤ ((ji7) : Int) := od_; have q121 : (ji7) < (l0.length : Int) := od_; obtain ⟨ad121, e121, hx121_0⟩ := Kd.at_int HR0.out (ji7) p121 q121; obtain rfl : ad118 = ad121 := (by injection e121); replace p121 := eq_true p121; replace q121 := eq_true q121)); try go_wp2_with (first | (go_at_call 72; (with_reducible refine (spec_l1In.calls (rd l0 x3_1) 1 999 true _ A4.out).mono ?_); rintro e w' ⟨rfl, ⟨nd, rfl⟩⟩; (try first | exact ⟨rfl, _, World.drewN_drewN _ _ _⟩ | exact ⟨rfl, _, Eq.trans (World.drewN_drewN _ _ _) (congrArg (World.drewN _) (Nat.add_assoc _ _ _))⟩); have p120 : 0 ≤ (x3_1 : Int) := od_; have q120 : x3_1 < (l0.length : Int) := od_; obtain ⟨ad120, e120, hx120_0⟩ := Kd.at_int HR0.out x3_1 p120 q120; obtain rfl : ad118 = ad120 := (by injection e120); replace p120 := eq_true p120; replace q120 := eq_true q120; have p121 : 0 ≤ ((ji7) : Int) := od_; have q121 : (ji7) < (l0.length : Int) := od_; obtain ⟨ad121, e121, hx121_0⟩ := Kd.at_int HR0.out (ji7) p121 q121; obtain rfl : ad118 = ad121 := (by injection e121); replace p121 := eq_true p121; replace q121 := eq_true q121)))
        go_roundg k1
        case measure => have := HK1.out; omega
        case rel => exact ⟨(wrap64 (x3_1 + 1)), vl_, H', ⟨by have := HK1.out; omega⟩, dr_⟩
      ·
       rw [if_neg c6] at H
       have c6b0 : decide (0 < x3_1) = false := decide_eq_false c6
       clear c6
       have H' := Aside0.mk H
       clear H
       have p118 : 0 ≤ (x3_1 : Int) := od_
       have q118 : x3_1 < (l0.length : Int) := od_
       obtain ⟨ad118, e118, hx118_0⟩ := Kd.at_int HR0.out x3_1 p118 q118
       cases e118
       replace p118 := eq_true p118
       replace q118 := eq_true q118
       go_wp2_with (first | (go_at_call 72; (with_reducible refine (spec_l1In.calls (rd l0 x3_1) 1 999 true _ A4.out).mono ?_); rintro e w' ⟨rfl, ⟨nd, rfl⟩⟩; (try first | exact ⟨rfl, _, World.drewN_drewN _ _ _⟩ | exact ⟨rfl, _, Eq.trans (World.drewN_drewN _ _ _) (congrArg (World.drewN _) (Nat.add_assoc _ _ _))⟩)))
       repeat (go_quiet (first | (go_at_call 72; (with_reducible refine (spec_l1In.calls (rd l0 x3_1) 1 999 true _ A4.out).mono ?_); rintro e w' ⟨rfl, ⟨nd, rfl⟩⟩; (try first | exact ⟨rfl, _, World.drewN_drewN _ _ _⟩ | exact ⟨rfl, _, Eq.trans (World.drewN_drewN _ _ _) (congrArg (World.drewN _) (Nat.add_assoc _ _ _))⟩))); try go_wp2_with (first | (go_at_call 72; (with_reducible refine (spec_l1In.calls (rd l0 x3_1) 1 999 true _ A4.out).mono ?_); rintro e w' ⟨rfl, ⟨nd, rfl⟩⟩; (try first | exact ⟨rfl, _, World.drewN_drewN _ _ _⟩ | exact ⟨rfl, _, Eq.trans (World.drewN_drewN _ _ _) (congrArg (World.drewN _) (Nat.add_assoc _ _ _))⟩))))
       go_roundg k1
       case measure => have := HK1.out; omega
       case rel => exact ⟨(wrap64 (x3_1 + 1)), vl_, H', ⟨by have := HK1.out; omega⟩, dr_⟩
     ·
      replace c5 := Bool.eq_false_iff.mpr c5
      subst c5
      (try rw [if_neg (show ¬ (false = true) by decide)] at H)
      obtain rfl := Option.some.inj H
      have p118 : 0 ≤ (x3_1 : Int) := od_
      have q118 : x3_1 < (l0.length : Int) := od_
      obtain ⟨ad118, e118, hx118_0⟩ := Kd.at_int HR0.out x3_1 p118 q118
      cases e118
      replace p118 := eq_true p118
      replace q118 := eq_true q118
      go_wp2_with (first | (go_at_call 72; (with_reducible refine (spec_l1In.calls (rd l0 x3_1) 1 999 false _ A4.out).mono ?_); rintro e w' ⟨rfl, ⟨nd, rfl⟩⟩; (try first | exact ⟨rfl, _, World.drewN_drewN _ _ _⟩ | exact ⟨rfl, _, Eq.trans (World.drewN_drewN _ _ _) (congrArg (World.drewN _) (Nat.add_assoc _ _ _))⟩)))
      repeat (go_quiet (first | (go_at_call 72; (with_reducible refine (spec_l1In.calls (rd l0 x3_1) 1 999 false _ A4.out).mono ?_); rintro e w' ⟨rfl, ⟨nd, rfl⟩⟩; (try first | exact ⟨rfl, _, World.drewN_drewN _ _ _⟩ | exact ⟨rfl, _, Eq.trans (World.drewN_drewN _ _ _) (congrArg (World.drewN _) (Nat.add_assoc _ _ _))⟩))); try go_wp2_with (first | (go_at_call 72; (with_reducible refine (spec_l1In.calls (rd l0 x3_1) 1 999 false _ A4.out).mono ?_); rintro e w' ⟨rfl, ⟨nd, rfl⟩⟩; (try first | exact ⟨rfl, _, World.drewN_drewN _ _ _⟩ | exact ⟨rfl, _, Eq.trans (World.drewN_drewN _ _ _) (congrArg (World.drewN _) (Nat.add_assoc _ _ _))⟩))))
      go_ret
      exact ⟨vl_, dr_⟩
    ·
     rw [if_neg c2] at H
     have c2b0 : decide (x3_1 < (l0.length : Int)) = false := decide_eq_false c2
     clear c2
     obtain rfl := Option.some.inj H
     go_wp2
     repeat (go_quiet (fail); try go_wp2)
     go_ret
     exact ⟨vl_, dr_⟩

/-! ### spec_l8Fault: function 41 -/
mutual
def spec_l8Fault.j0 : Nat → List (S37) → Bool → Option (Int)
 | 0, _, _ => none
 | k + 1, x0, x26 => if x26 = true then (some 5) else (if 0 < (x0.length : Int) then (if (((rd_T37 x0 0).f3).length : Int) > 6 then (some 2) else ((spec_l8Uids.f k ((rd_T37 x0 0).f3)).bind fun t129 => (if t129 = true then (if ((rd_T37 x0 0).f0) = 4 then ((spec_l1In.f ((rd_T37 x0 0).f4) 1 3).bind fun t130 => (if t130 = true then ((spec_l1In.f ((rd_T37 x0 0).f5) 0 15).bind fun t131 => (if t131 = true then ((spec_l1In.f ((rd_T37 x0 0).f6) 0 9999).bind fun t132 => (spec_l8Fault.j1 k x0 (!t132))) else (spec_l8Fault.j1 k x0 true))) else (spec_l8Fault.j1 k x0 true))) else ((spec_l1In.f ((rd_T37 x0 0).f5) 0 15).bind fun t133 => (if t133 = true then ((spec_l1In.f ((rd_T37 x0 0).f6) 0 9999).bind fun t134 => (spec_l8Fault.j1 k x0 (!t134))) else (spec_l8Fault.j1 k x0 true)))) else (spec_l8Fault.j1 k x0 true)))) else (none))
def spec_l8Fault.j1 : Nat → List (S37) → Bool → Option (Int)
 | 0, _, _ => none
 | k + 1, x0, x69 => if x69 = true then (some 3) else (if 0 < (x0.length : Int) then (if (((rd_T37 x0 0).f7).length : Int) > 400 then (some 2) else (some 0)) else (none))
end
def spec_l8Fault.f (k : Nat) (l0 : List (S37)) : Option (Int) := (spec_l8Form.f k l0).bind fun t122 => (if t122 = true then (if 0 < (l0.length : Int) then ((spec_l7Name.f k ((rd_T37 l0 0).f1)).bind fun t124 => (if t124 = true then ((spec_l8Copies.f ((rd_T37 l0 0).f0)).bind fun t125 => (if t125 = true then ((spec_l7Name.f k ((rd_T37 l0 0).f2)).bind fun t126 => (spec_l8Fault.j0 k l0 (!t126))) else (spec_l8Fault.j0 k l0 false))) else (spec_l8Fault.j0 k l0 true))) else (none)) else (some 1))
set_option maxHeartbeats 8000000 in
set_option maxRecDepth 100000 in
theorem spec_l8Fault.calls (k : Nat) (A0 : Option Addr) (c0 : Nat) (l0 : List (S37)) (r : Int) (w : World) (hr0 : Kd.C k37 w A0 l0.length l0) (hc0 : l0.length ≤ c0) (h : spec_l8Fault.f k l0 = some r) :
 Calls Try.prog 41 #[.pointer A0] w fun e w' => e = .returned (.int .i64 r) ∧ Drawn0 w w' := by
 have HR0 := Aside0.mk hr0
 have HC0 := Aside0.mk hc0
 clear hr0 hc0
 have H : ((spec_l8Form.f k l0).bind fun t122 => (if t122 = true then (if 0 < (l0.length : Int) then ((spec_l7Name.f k ((rd_T37 l0 0).f1)).bind fun t124 => (if t124 = true then ((spec_l8Copies.f ((rd_T37 l0 0).f0)).bind fun t125 => (if t125 = true then ((spec_l7Name.f k ((rd_T37 l0 0).f2)).bind fun t126 => (spec_l8Fault.j0 k l0 (!t126))) else (spec_l8Fault.j0 k l0 false))) else (spec_l8Fault.j0 k l0 true))) else (none)) else (some 1))) = some r := h
 clear h
 replace H := Option.bind_eq_some_iff.mp H
 obtain ⟨t122, A20, H⟩ := H
 (try dsimp only at H)
 have A2 := Aside0.mk A20
 clear A20
 go_enter Try.func41, Try.ntmps41
 by_cases c3 : t122 = true
 ·
  subst c3
  (try rw [if_pos rfl] at H)
  have HC4 := Aside0.mk H
  clear H
  go_upto_region 3 with (first | ((with_reducible refine gate_callee (f := 68) rfl ?_); refine goesY_ (some 4) Try.func68 #[.pointer A0] rfl ?_; (with_reducible refine (spec_l8Form.calls k _ (l0).length l0 true _ ?_ ?_ A2.out).mono ?_); exact C_up HR0.out; exact Nat.le_refl _; rintro e w' ⟨rfl, ⟨nd, rfl⟩⟩; refine ⟨_, rfl, ?_⟩))
  (try simp only [Act.put, List.setIfInBounds_toArray, List.set_cons_zero, List.set_cons_succ])
  go_cut [26] (fun v26 wc => ∃ (kq : Nat) (x26_3 : Bool), v26 = .bool x26_3 ∧ Aside0 (spec_l8Fault.j0 kq l0 x26_3 = some r) ∧ Aside0 (kq ≤ k) ∧ Drawn0 w wc)
  case first =>
   have H := HC4.out
   clear HC4
   have p123 : 0 ≤ (0 : Int) := (by omega)
   by_cases c5 : 0 < (l0.length : Int)
   case neg => rw [if_neg c5] at H; exact absurd H (by simp)
   rw [if_pos c5] at H
   have c5b0 : decide (0 < (l0.length : Int)) = true := decide_eq_true c5
   have c5b1 : decide (0 < l0.length) = true := decide_eq_true (by omega)
   clear c5
   (first | rw [c5b0] | (simp only [i64_w, i32_w]; rw [c5b0]) | skip)
   replace H := Option.bind_eq_some_iff.mp H
   obtain ⟨t124, A60, H⟩ := H
   (try dsimp only at H)
   have A6 := Aside0.mk A60
   clear A60
   (try simp only [c5b0, c5b1])
   have q123 : 0 < (l0.length : Int) := od_
   obtain ⟨ad123, A123_3, c123_3, A123_7, c123_7, e123, hx123_0, hx123_1, hx123_2, hx123_3, hx123_4, hx123_5, hx123_6, hx123_7, hl123_3, hi123_3, hl123_7, hi123_7⟩ := at_T37 HR0.out 0 p123 q123
   cases e123
   have qi123 : (0 < l0.length) = True := eq_true (by omega)
   (try simp only [Int.toNat_zero, Nat.zero_mul, Addr.add_zero'] at hx123_0 hx123_1 hx123_2 hx123_3 hx123_4 hx123_5 hx123_6 hx123_7)
   have HR123_3 := Aside0.mk hi123_3
   have HC123_3 := Aside0.mk hl123_3
   clear hi123_3 hl123_3
   have HR123_7 := Aside0.mk hi123_7
   have HC123_7 := Aside0.mk hl123_7
   clear hi123_7 hl123_7
   replace p123 := eq_true p123
   replace q123 := eq_true q123
   by_cases c7 : t124 = true
   ·
    subst c7
    (try rw [if_pos rfl] at H)
    replace H := Option.bind_eq_some_iff.mp H
    obtain ⟨t125, A80, H⟩ := H
    (try dsimp only at H)
    have A8 := Aside0.mk A80
    clear A80
    by_cases c9 : t125 = true
    ·
     subst c9
     (try rw [if_pos rfl] at H)
     replace H := Option.bind_eq_some_iff.mp H
     obtain ⟨t126, A100, H⟩ := H
     replace H : (spec_l8Fault.j0 k l0 (!t126)) = some r := H
     have A10 := Aside0.mk A100
     clear A100
     have H' := Aside0.mk H
     clear H
     go_wp2_with (first | ((with_reducible refine gate_callee (f := 69) rfl ?_); refine goesY_ (some 10) Try.func69 #[.string ((rd_T37 l0 0).f1)] rfl ?_; (with_reducible refine (spec_l7Name.calls k ((rd_T37 l0 0).f1) true _ A6.out).mono ?_); rintro e w' ⟨rfl, ⟨nd, rfl⟩⟩; refine ⟨_, rfl, ?_⟩) | (go_at_call 70; (with_reducible refine (spec_l8Copies.calls ((rd_T37 l0 0).f0) true _ A8.out).mono ?_); rintro e w' ⟨rfl, ⟨nd, rfl⟩⟩) | (go_at_call 69; (with_reducible refine (spec_l7Name.calls k ((rd_T37 l0 0).f2) t126 _ A10.out).mono ?_); rintro e w' ⟨rfl, ⟨nd, rfl⟩⟩))
     go_meet
     case rel => exact ⟨_, (!t126), vl_, H', ⟨le_⟩, dr_⟩
    ·
     replace c9 := Bool.eq_false_iff.mpr c9
     subst c9
     (try rw [if_neg (show ¬ (false = true) by decide)] at H)
     have H' := Aside0.mk H
     clear H
     go_wp2_with (first | ((with_reducible refine gate_callee (f := 69) rfl ?_); refine goesY_ (some 10) Try.func69 #[.string ((rd_T37 l0 0).f1)] rfl ?_; (with_reducible refine (spec_l7Name.calls k ((rd_T37 l0 0).f1) true _ A6.out).mono ?_); rintro e w' ⟨rfl, ⟨nd, rfl⟩⟩; refine ⟨_, rfl, ?_⟩) | (go_at_call 70; (with_reducible refine (spec_l8Copies.calls ((rd_T37 l0 0).f0) false _ A8.out).mono ?_); rintro e w' ⟨rfl, ⟨nd, rfl⟩⟩))
     go_meet
     case rel => exact ⟨_, (false), vl_, H', ⟨le_⟩, dr_⟩
   ·
    replace c7 := Bool.eq_false_iff.mpr c7
    subst c7
    (try rw [if_neg (show ¬ (false = true) by decide)] at H)
    have H' := Aside0.mk H
    clear H
    go_wp2_with (first | ((with_reducible refine gate_callee (f := 69) rfl ?_); refine goesY_ (some 10) Try.func69 #[.string ((rd_T37 l0 0).f1)] rfl ?_; (with_reducible refine (spec_l7Name.calls k ((rd_T37 l0 0).f1) false _ A6.out).mono ?_); rintro e w' ⟨rfl, ⟨nd, rfl⟩⟩; refine ⟨_, rfl, ?_⟩))
    go_meet
    case rel => exact ⟨_, (true), vl_, H', ⟨le_⟩, dr_⟩
  case rest =>
   clear HC4
   try clear q1
   try clear hx1
   try clear qi1
   try clear c3
   try clear hx123_0
   try clear hx123_1
   try clear hx123_2
   try clear hx123_3
   try clear hx123_4
   try clear hx123_5
   try clear hx123_6
   try clear hx123_7
   try clear q123
   obtain ⟨kq, x26_3, rfl, HA, HJ3, ⟨mc3, rfl⟩⟩ := hcut
   cases kq with
   | zero => exact absurd HA.out (by simp [spec_l8Fault.j0])
   | succ kj3 =>
     have H := HA.out
     clear HA
     simp only [spec_l8Fault.j0] at H
     by_cases c11 : x26_3 = true
     ·
      subst c11
      (try rw [if_pos rfl] at H)
      obtain rfl := Option.some.inj H
      go_wp2
      go_ret
      exact ⟨vl_, dr_⟩
     ·
      replace c11 := Bool.eq_false_iff.mpr c11
      subst c11
      (try rw [if_neg (show ¬ (false = true) by decide)] at H)
      have p127 : 0 ≤ (0 : Int) := (by omega)
      by_cases c12 : 0 < (l0.length : Int)
      case neg => rw [if_neg c12] at H; exact absurd H (by simp)
      rw [if_pos c12] at H
      have c12b0 : decide (0 < (l0.length : Int)) = true := decide_eq_true c12
      have c12b1 : decide (0 < l0.length) = true := decide_eq_true (by omega)
      clear c12
      (try simp only [c12b0, c12b1])
      have q127 : 0 < (l0.length : Int) := od_
      obtain ⟨ad127, A127_3, c127_3, A127_7, c127_7, e127, hx127_0, hx127_1, hx127_2, hx127_3, hx127_4, hx127_5, hx127_6, hx127_7, hl127_3, hi127_3, hl127_7, hi127_7⟩ := at_T37 HR0.out 0 p127 q127
      cases e127
      have qi127 : (0 < l0.length) = True := eq_true (by omega)
      (try simp only [Int.toNat_zero, Nat.zero_mul, Addr.add_zero'] at hx127_0 hx127_1 hx127_2 hx127_3 hx127_4 hx127_5 hx127_6 hx127_7)
      have HR127_3 := Aside0.mk hi127_3
      have HC127_3 := Aside0.mk hl127_3
      clear hi127_3 hl127_3
      have HR127_7 := Aside0.mk hi127_7
      have HC127_7 := Aside0.mk hl127_7
      clear hi127_7 hl127_7
      replace p127 := eq_true p127
      replace q127 := eq_true q127
      (try clear hx123_0 hx123_1 hx123_2 hx123_3 hx123_4 hx123_5 hx123_6 hx123_7)
      (try clear hx123_0 hx123_1 hx123_2 hx123_3 hx123_4 hx123_5 hx123_6 hx123_7)
      (try clear hx123_0 hx123_1 hx123_2 hx123_3 hx123_4 hx123_5 hx123_6 hx123_7)
      by_cases c13 : (((rd_T37 l0 0).f3).length : Int) > 6
      ·
       rw [if_pos c13] at H
       have c13b0 : decide (6 < (((rd_T37 l0 0).f3).length : Int)) = true := decide_eq_true c13
       have c13b1 : decide (6 < ((rd_T37 l0 0).f3).length) = true := decide_eq_true (by omega)
       clear c13
       obtain rfl := Option.some.inj H
       (try simp only [c13b0, c13b1])
       go_wp2
       go_ret
       exact ⟨vl_, dr_⟩
      ·
       rw [if_neg c13] at H
       have c13b0 : decide (6 < (((rd_T37 l0 0).f3).length : Int)) = false := decide_eq_false c13
       have c13b1 : decide (6 < ((rd_T37 l0 0).f3).length) = false := decide_eq_false (by omega)
       clear c13
       have HC14 := Aside0.mk H
       clear H
       (try simp only [c13b0, c13b1])
       go_upto_region 7 with (fail)
       go_cut [69] (fun v69 wc => ∃ (kq : Nat) (x69_13 : Bool), v69 = .bool x69_13 ∧ Aside0 (spec_l8Fault.j1 kq l0 x69_13 = some r) ∧ Aside0 (kq ≤ kj3) ∧ Drawn0 w wc)
       case first =>
        have H := HC14.out
        clear HC14
        replace H := Option.bind_eq_some_iff.mp H
        obtain ⟨t129, A150, H⟩ := H
        (try dsimp only at H)
        have A15 := Aside0.mk A150
        clear A150
        have p128 : 0 ≤ (0 : Int) := (by omega)
        have q128 : 0 < (l0.length : Int) := od_
        obtain ⟨ad128, A128_3, c128_3, A128_7, c128_7, e128, hx128_0, hx128_1, hx128_2, hx128_3, hx128_4, hx128_5, hx128_6, hx128_7, hl128_3, hi128_3, hl128_7, hi128_7⟩ := at_T37 HR0.out 0 p128 q128
        obtain rfl : ad127 = ad128 := (by injection e128)
        have qi128 : (0 < l0.length) = True := eq_true (by omega)
        (try simp only [Int.toNat_zero, Nat.zero_mul, Addr.add_zero'] at hx128_0 hx128_1 hx128_2 hx128_3 hx128_4 hx128_5 hx128_6 hx128_7)
        have HR128_3 := Aside0.mk hi128_3
        have HC128_3 := Aside0.mk hl128_3
        clear hi128_3 hl128_3
        have HR128_7 := Aside0.mk hi128_7
        have HC128_7 := Aside0.mk hl128_7
        clear hi128_7 hl128_7
        replace p128 := eq_true p128
        replace q128 := eq_true q128
        (try clear hx123_0 hx123_1 hx123_2 hx123_3 hx123_4 hx123_5 hx123_6 hx123_7)
        (try clear hx123_0 hx123_1 hx123_2 hx123_3 hx123_4 hx123_5 hx123_6 hx123_7)
        (try clear hx123_0 hx123_1 hx123_2 hx123_3 hx123_4 hx123_5 hx123_6 hx123_7)
        (try clear hx127_0 hx127_1 hx127_2 hx127_3 hx127_4 hx127_5 hx127_6 hx127_7)
        (try clear hx127_0 hx127_1 hx127_2 hx127_3 hx127_4 hx127_5 hx127_6 hx127_7)
        by_cases c16 : t129 = true
        ·
         subst c16
         (try rw [if_pos rfl] at H)
         by_cases c17 : ((rd_T37 l0 0).f0) = 4
         ·
          rw [if_pos c17] at H
          have c17b0 : (((rd_T37 l0 0).f0) == 4) = true := beq_iff_eq.mpr c17
          have c17b1 : (((rd_T37 l0 0).f0) != 4) = false := bne_eq_false_iff_eq.mpr c17
          clear c17
          (first | rw [c17b0] | (simp only [i64_w, i32_w]; rw [c17b0]) | skip)
          replace H := Option.bind_eq_some_iff.mp H
          obtain ⟨t130, A180, H⟩ := H
          (try dsimp only at H)
          have A18 := Aside0.mk A180
          clear A180
          (try simp only [c17b0, c17b1])
          by_cases c19 : t130 = true
          ·
           subst c19
           (try rw [if_pos rfl] at H)
           replace H := Option.bind_eq_some_iff.mp H
           obtain ⟨t131, A200, H⟩ := H
           (try dsimp only at H)
           have A20 := Aside0.mk A200
           clear A200
           by_cases c21 : t131 = true
           ·
            subst c21
            (try rw [if_pos rfl] at H)
            replace H := Option.bind_eq_some_iff.mp H
            obtain ⟨t132, A220, H⟩ := H
            replace H : (spec_l8Fault.j1 kj3 l0 (!t132)) = some r := H
            have A22 := Aside0.mk A220
            clear A220
            have H' := Aside0.mk H
            clear H
            go_wp2_with (first | ((with_reducible refine gate_callee (f := 71) rfl ?_); refine goesY_ (some 37) Try.func71 #[.slice A128_3 ((rd_T37 l0 0).f3).length c128_3] rfl ?_; (with_reducible refine (spec_l8Uids.calls kj3 _ _ ((rd_T37 l0 0).f3) true _ ?_ ?_ A15.out).mono ?_); exact C_up HR128_3.out; exact HC128_3.out; rintro e w' ⟨rfl, ⟨nd, rfl⟩⟩; refine ⟨_, rfl, ?_⟩) | (go_at_call 72; (with_reducible refine (spec_l1In.calls ((rd_T37 l0 0).f4) 1 3 true _ A18.out).mono ?_); rintro e w' ⟨rfl, ⟨nd, rfl⟩⟩) | (go_at_call 72; (with_reducible refine (spec_l1In.calls ((rd_T37 l0 0).f5) 0 15 true _ A20.out).mono ?_); rintro e w' ⟨rfl, ⟨nd, rfl⟩⟩) | (go_at_call 72; (with_reducible refine (spec_l1In.calls ((rd_T37 l0 0).f6) 0 9999 t132 _ A22.out).mono ?_); rintro e w' ⟨rfl, ⟨nd, rfl⟩⟩))
            go_meet
            case rel => exact ⟨_, (!t132), vl_, H', ⟨by have := HJ3.out; first | omega | exact Nat.le_refl _⟩, dr_⟩
           ·
            replace c21 := Bool.eq_false_iff.mpr c21
            subst c21
            (try rw [if_neg (show ¬ (false = true) by decide)] at H)
            have H' := Aside0.mk H
            clear H
            go_wp2_with (first | ((with_reducible refine gate_callee (f := 71) rfl ?_); refine goesY_ (some 37) Try.func71 #[.slice A128_3 ((rd_T37 l0 0).f3).length c128_3] rfl ?_; (with_reducible refine (spec_l8Uids.calls kj3 _ _ ((rd_T37 l0 0).f3) true _ ?_ ?_ A15.out).mono ?_); exact C_up HR128_3.out; exact HC128_3.out; rintro e w' ⟨rfl, ⟨nd, rfl⟩⟩; refine ⟨_, rfl, ?_⟩) | (go_at_call 72; (with_reducible refine (spec_l1In.calls ((rd_T37 l0 0).f4) 1 3 true _ A18.out).mono ?_); rintro e w' ⟨rfl, ⟨nd, rfl⟩⟩) | (go_at_call 72; (with_reducible refine (spec_l1In.calls ((rd_T37 l0 0).f5) 0 15 false _ A20.out).mono ?_); rintro e w' ⟨rfl, ⟨nd, rfl⟩⟩))
            go_meet
            case rel => exact ⟨_, (true), vl_, H', ⟨by have := HJ3.out; first | omega | exact Nat.le_refl _⟩, dr_⟩
          ·
           replace c19 := Bool.eq_false_iff.mpr c19
           subst c19
           (try rw [if_neg (show ¬ (false = true) by decide)] at H)
           have H' := Aside0.mk H
           clear H
           go_wp2_with (first | ((with_reducible refine gate_callee (f := 71) rfl ?_); refine goesY_ (some 37) Try.func71 #[.slice A128_3 ((rd_T37 l0 0).f3).length c128_3] rfl ?_; (with_reducible refine (spec_l8Uids.calls kj3 _ _ ((rd_T37 l0 0).f3) true _ ?_ ?_ A15.out).mono ?_); exact C_up HR128_3.out; exact HC128_3.out; rintro e w' ⟨rfl, ⟨nd, rfl⟩⟩; refine ⟨_, rfl, ?_⟩) | (go_at_call 72; (with_reducible refine (spec_l1In.calls ((rd_T37 l0 0).f4) 1 3 false _ A18.out).mono ?_); rintro e w' ⟨rfl, ⟨nd, rfl⟩⟩))
           go_meet
           case rel => exact ⟨_, (true), vl_, H', ⟨by have := HJ3.out; first | omega | exact Nat.le_refl _⟩, dr_⟩
         ·
          rw [if_neg c17] at H
          have c17b0 : (((rd_T37 l0 0).f0) == 4) = false := beq_eq_false_iff_ne.mpr c17
          have c17b1 : (((rd_T37 l0 0).f0) != 4) = true := bne_iff_ne.mpr c17
          (first | rw [c17b0] | (simp only [i64_w, i32_w]; rw [c17b0]) | skip)
          replace H := Option.bind_eq_some_iff.mp H
          obtain ⟨t133, A230, H⟩ := H
          (try dsimp only at H)
          have A23 := Aside0.mk A230
          clear A230
          (try simp only [c17b0, c17b1])
          by_cases c24 : t133 = true
          ·
           subst c24
           (try rw [if_pos rfl] at H)
           replace H := Option.bind_eq_some_iff.mp H
           obtain ⟨t134, A250, H⟩ := H
           replace H : (spec_l8Fault.j1 kj3 l0 (!t134)) = some r := H
           have A25 := Aside0.mk A250
           clear A250
           have H' := Aside0.mk H
           clear H
           go_wp2_with (first | ((with_reducible refine gate_callee (f := 71) rfl ?_); refine goesY_ (some 37) Try.func71 #[.slice A128_3 ((rd_T37 l0 0).f3).length c128_3] rfl ?_; (with_reducible refine (spec_l8Uids.calls kj3 _ _ ((rd_T37 l0 0).f3) true _ ?_ ?_ A15.out).mono ?_); exact C_up HR128_3.out; exact HC128_3.out; rintro e w' ⟨rfl, ⟨nd, rfl⟩⟩; refine ⟨_, rfl, ?_⟩) | (go_at_call 72; (with_reducible refine (spec_l1In.calls ((rd_T37 l0 0).f5) 0 15 true _ A23.out).mono ?_); rintro e w' ⟨rfl, ⟨nd, rfl⟩⟩) | (go_at_call 72; (with_reducible refine (spec_l1In.calls ((rd_T37 l0 0).f6) 0 9999 t134 _ A25.out).mono ?_); rintro e w' ⟨rfl, ⟨nd, rfl⟩⟩))
           go_meet
           case rel => exact ⟨_, (!t134), vl_, H', ⟨by have := HJ3.out; first | omega | exact Nat.le_refl _⟩, dr_⟩
          ·
           replace c24 := Bool.eq_false_iff.mpr c24
           subst c24
           (try rw [if_neg (show ¬ (false = true) by decide)] at H)
           have H' := Aside0.mk H
           clear H
           go_wp2_with (first | ((with_reducible refine gate_callee (f := 71) rfl ?_); refine goesY_ (some 37) Try.func71 #[.slice A128_3 ((rd_T37 l0 0).f3).length c128_3] rfl ?_; (with_reducible refine (spec_l8Uids.calls kj3 _ _ ((rd_T37 l0 0).f3) true _ ?_ ?_ A15.out).mono ?_); exact C_up HR128_3.out; exact HC128_3.out; rintro e w' ⟨rfl, ⟨nd, rfl⟩⟩; refine ⟨_, rfl, ?_⟩) | (go_at_call 72; (with_reducible refine (spec_l1In.calls ((rd_T37 l0 0).f5) 0 15 false _ A23.out).mono ?_); rintro e w' ⟨rfl, ⟨nd, rfl⟩⟩))
           go_meet
           case rel => exact ⟨_, (true), vl_, H', ⟨by have := HJ3.out; first | omega | exact Nat.le_refl _⟩, dr_⟩
        ·
         replace c16 := Bool.eq_false_iff.mpr c16
         subst c16
         (try rw [if_neg (show ¬ (false = true) by decide)] at H)
         have H' := Aside0.mk H
         clear H
         go_wp2_with (first | ((with_reducible refine gate_callee (f := 71) rfl ?_); refine goesY_ (some 37) Try.func71 #[.slice A128_3 ((rd_T37 l0 0).f3).length c128_3] rfl ?_; (with_reducible refine (spec_l8Uids.calls kj3 _ _ ((rd_T37 l0 0).f3) false _ ?_ ?_ A15.out).mono ?_); exact C_up HR128_3.out; exact HC128_3.out; rintro e w' ⟨rfl, ⟨nd, rfl⟩⟩; refine ⟨_, rfl, ?_⟩))
         go_meet
         case rel => exact ⟨_, (true), vl_, H', ⟨by have := HJ3.out; first | omega | exact Nat.le_refl _⟩, dr_⟩
       case rest =>
        clear HC14
        try clear q1
        try clear hx1
        try clear qi1
        try clear c3
        try clear c11
        try clear c12
        try clear c12b0
        try clear c12b1
        try clear q12
        try clear hx12
        try clear qi12
        try clear c13
        try clear c13b0
        try clear c13b1
        try clear hx123_0
        try clear hx123_1
        try clear hx123_2
        try clear hx123_3
        try clear hx123_4
        try clear hx123_5
        try clear hx123_6
        try clear hx123_7
        try clear hx127_0
        try clear hx127_1
        try clear hx127_2
        try clear hx127_3
        try clear hx127_4
        try clear hx127_5
        try clear hx127_6
        try clear hx127_7
        try clear hx128_0
        try clear hx128_1
        try clear hx128_2
        try clear hx128_3
        try clear hx128_4
        try clear hx128_5
        try clear hx128_6
        try clear hx128_7
        try clear p127
        try clear q1
        try clear q123
        try clear q127
        try clear q128
        obtain ⟨kq, x69_13, rfl, HA, HJ13, ⟨mc13, rfl⟩⟩ := hcut
        cases kq with
        | zero => exact absurd HA.out (by simp [spec_l8Fault.j1])
        | succ kj13 =>
          have H := HA.out
          clear HA
          simp only [spec_l8Fault.j1] at H
          by_cases c26 : x69_13 = true
          ·
           subst c26
           (try rw [if_pos rfl] at H)
           obtain rfl := Option.some.inj H
           go_wp2
           go_ret
           exact ⟨vl_, dr_⟩
          ·
           replace c26 := Bool.eq_false_iff.mpr c26
           subst c26
           (try rw [if_neg (show ¬ (false = true) by decide)] at H)
           have p135 : 0 ≤ (0 : Int) := (by omega)
           by_cases c27 : 0 < (l0.length : Int)
           case neg => rw [if_neg c27] at H; exact absurd H (by simp)
           rw [if_pos c27] at H
           have c27b0 : decide (0 < (l0.length : Int)) = true := decide_eq_true c27
           have c27b1 : decide (0 < l0.length) = true := decide_eq_true (by omega)
           clear c27
           (try simp only [c27b0, c27b1])
           have q135 : 0 < (l0.length : Int) := od_
           obtain ⟨ad135, A135_3, c135_3, A135_7, c135_7, e135, hx135_0, hx135_1, hx135_2, hx135_3, hx135_4, hx135_5, hx135_6, hx135_7, hl135_3, hi135_3, hl135_7, hi135_7⟩ := at_T37 HR0.out 0 p135 q135
           obtain rfl : ad127 = ad135 := (by injection e135)
           have qi135 : (0 < l0.length) = True := eq_true (by omega)
           (try simp only [Int.toNat_zero, Nat.zero_mul, Addr.add_zero'] at hx135_0 hx135_1 hx135_2 hx135_3 hx135_4 hx135_5 hx135_6 hx135_7)
           have HR135_3 := Aside0.mk hi135_3
           have HC135_3 := Aside0.mk hl135_3
           clear hi135_3 hl135_3
           have HR135_7 := Aside0.mk hi135_7
           have HC135_7 := Aside0.mk hl135_7
           clear hi135_7 hl135_7
           replace p135 := eq_true p135
           replace q135 := eq_true q135
           (try clear hx123_0 hx123_1 hx123_2 hx123_3 hx123_4 hx123_5 hx123_6 hx123_7)
           (try clear hx123_0 hx123_1 hx123_2 hx123_3 hx123_4 hx123_5 hx123_6 hx123_7)
           (try clear hx123_0 hx123_1 hx123_2 hx123_3 hx123_4 hx123_5 hx123_6 hx123_7)
           (try clear hx127_0 hx127_1 hx127_2 hx127_3 hx127_4 hx127_5 hx127_6 hx127_7)
           (try clear hx127_0 hx127_1 hx127_2 hx127_3 hx127_4 hx127_5 hx127_6 hx127_7)
           (try clear hx128_0 hx128_1 hx128_2 hx128_3 hx128_4 hx128_5 hx128_6 hx128_7)
           (try clear hx128_0 hx128_1 hx128_2 hx128_3 hx128_4 hx128_5 hx128_6 hx128_7)
           (try clear hx128_0 hx128_1 hx128_2 hx128_3 hx128_4 hx128_5 hx128_6 hx128_7)
           (try clear hx128_0 hx128_1 hx128_2 hx128_3 hx128_4 hx128_5 hx128_6 hx128_7)
           (try clear hx128_0 hx128_1 hx128_2 hx128_3 hx128_4 hx128_5 hx128_6 hx128_7)
           (try clear hx128_0 hx128_1 hx128_2 hx128_3 hx128_4 hx128_5 hx128_6 hx128_7)
           by_cases c28 : (((rd_T37 l0 0).f7).length : Int) > 400
           ·
            rw [if_pos c28] at H
            have c28b0 : decide (400 < (((rd_T37 l0 0).f7).length : Int)) = true := decide_eq_true c28
            have c28b1 : decide (400 < ((rd_T37 l0 0).f7).length) = true := decide_eq_true (by omega)
            clear c28
            obtain rfl := Option.some.inj H
            (try simp only [c28b0, c28b1])
            go_wp2
            go_ret
            exact ⟨vl_, dr_⟩
           ·
            rw [if_neg c28] at H
            have c28b0 : decide (400 < (((rd_T37 l0 0).f7).length : Int)) = false := decide_eq_false c28
            have c28b1 : decide (400 < ((rd_T37 l0 0).f7).length) = false := decide_eq_false (by omega)
            clear c28
            obtain rfl := Option.some.inj H
            (try simp only [c28b0, c28b1])
            go_wp2
            go_ret
            exact ⟨vl_, dr_⟩
 ·
  replace c3 := Bool.eq_false_iff.mpr c3
  subst c3
  (try rw [if_neg (show ¬ (false = true) by decide)] at H)
  obtain rfl := Option.some.inj H
  go_wp2_with (first | ((with_reducible refine gate_callee (f := 68) rfl ?_); refine goesY_ (some 4) Try.func68 #[.pointer A0] rfl ?_; (with_reducible refine (spec_l8Form.calls k _ (l0).length l0 false _ ?_ ?_ A2.out).mono ?_); exact C_up HR0.out; exact Nat.le_refl _; rintro e w' ⟨rfl, ⟨nd, rfl⟩⟩; refine ⟨_, rfl, ?_⟩))
  go_ret
  exact ⟨vl_, dr_⟩

/-! ### spec_l9Two: function 73 -/
def spec_l9Two.f (a0 : Int) : Option (List Int) := some (([(wrap64 (Int.tdiv a0 256)) % 256, (Int.tmod a0 256) % 256] : List Int))
set_option maxHeartbeats 8000000 in
set_option maxRecDepth 100000 in
theorem spec_l9Two.calls (a0 : Int) (r : List Int) (w : World) (h : spec_l9Two.f a0 = some r) :
 Calls Try.prog 73 #[.int .i64 a0] w fun e w' => ∃ v0_ : Value, e = .returned (v0_) ∧ Kd.R (Kd.int .u8) 5 w' w.heap.size (fun _ => True) v0_ r ∧ Below w.heap.size w w' := by
 have HB := Aside0.mk (Below.refl w.heap.size w)
 have H : (some (([(wrap64 (Int.tdiv a0 256)) % 256, (Int.tmod a0 256) % 256] : List Int))) = some r := h
 clear h
 obtain ⟨y136, hy136⟩ : ∃ y_ : List Int, y_ = (([(wrap64 (Int.tdiv a0 256)) % 256, (Int.tmod a0 256) % 256] : List Int)) := ⟨_, rfl⟩
 replace H : (some y136) = some r := by first | (rw [hy136]; with_reducible exact H) | (have H2_ := (Option.bind_some _ _).symm.trans H; rw [hy136]; with_reducible exact H2_) | (have H2_ := (Option.bind_some _ _).symm.trans H; with_reducible exact H2_) | with_reducible exact H | (rw [hy136]; exact H) | exact H
 have Ny136 := Aside0.mk hy136
 clear hy136
 obtain rfl := Option.some.inj H
 go_enter Try.func73, Try.ntmps73
 go_wp2_with (first | ((with_reducible refine gate_dst (N := 9) rfl ?_); refine Kd.R_lit (Kd.int .u8) _ 5 ?hg (N := 9) ?hd (xs := ([(wrap64 (Int.tdiv a0 256)) % 256, (Int.tmod a0 256) % 256] : List Int)) (inner := [.int .u8 ((wrap64 (Int.tdiv a0 256)) % 256), .int .u8 ((Int.tmod a0 256) % 256)]) (ok := fun _ => True) (okp := fun _ => True) ?hr ?hp (fun _ hk => hk) trivial (Below.refl _ _) (Nat.le_refl _) (by simp) ?_; (case hd => rfl); (case hg => rfl); (case hr => first | (go_simp; done) | (go_simp; rfl)); (case hp => exact (Reps.one (show Kd.M (Kd.int .u8) _ _ _ ((wrap64 (Int.tdiv a0 256)) % 256) [.int .u8 ((wrap64 (Int.tdiv a0 256)) % 256)] from rfl) (Reps.one (show Kd.M (Kd.int .u8) _ _ _ ((Int.tmod a0 256) % 256) [.int .u8 ((Int.tmod a0 256) % 256)] from rfl) (Reps.none _ _)))); intro v137 w2 ho3 hb hg_ hnew_; clear hg_ hnew_; (first | rw [← Ny136.out] at ho3 | (simp only [Int.reduceToNat] at ho3; rw [← Ny136.out] at ho3)); have HO138 := Aside0.mk (Kd.R_lower ho3 (below_size (HB_up HB.out))); replace HB := Aside0.mk (below_step (HB_up HB.out) hb); clear hb ho3))
 go_ret
 exact ⟨_, ve_, R_up HO138.out, hb_⟩

/-! ### spec_l9Sum: function 74 -/
def spec_l9Sum.l0 : Nat → List Int → Int → Int → Option (Int)
 | 0, _, _, _ => none
 | k + 1, x0, x3, x4 => if x4 < (x0.length : Int) then (if 0 ≤ x4 then (spec_l9Sum.l0 k x0 (Int.tmod (wrap64 ((wrap64 (x3 * 31)) + (wrap64 (rd x0 x4)))) 65521) (wrap64 (x4 + 1))) else (none)) else (some x3)
def spec_l9Sum.f (k : Nat) (l0 : List Int) : Option (Int) := spec_l9Sum.l0 k l0 1 0
set_option maxHeartbeats 8000000 in
set_option maxRecDepth 100000 in
theorem spec_l9Sum.calls (k : Nat) (A0 : Option Addr) (c0 : Nat) (l0 : List Int) (r : Int) (w : World) (hr0 : Kd.C (Kd.int .u8) w A0 l0.length l0) (hc0 : l0.length ≤ c0) (h : spec_l9Sum.f k l0 = some r) :
 Calls Try.prog 74 #[.slice A0 l0.length c0] w fun e w' => e = .returned (.int .i64 r) ∧ Drawn0 w w' := by
 have HR0 := Aside0.mk hr0
 have HC0 := Aside0.mk hc0
 clear hr0 hc0
 have H : (spec_l9Sum.l0 k l0 1 0) = some r := h
 clear h
 have H' := Aside0.mk H
 clear H
 go_enter Try.func74, Try.ntmps74
 go_wp2
 go_loopg [3, 4] k (fun kq v3 v4 w' => ∃ (x3_1 : Int) (x4_1 : Int), v3 = .int .i64 x3_1 ∧ v4 = .int .i64 x4_1 ∧ Aside0 (spec_l9Sum.l0 kq l0 x3_1 x4_1 = some r) ∧ Aside0 (kq ≤ k) ∧ Drawn0 w w')
 case atStart => exact ⟨(1), (0), vl_, vl_, H', ⟨Nat.le_refl _⟩, dr_⟩
 case round =>
  clear H'
  obtain ⟨x3_1, x4_1, rfl, rfl, HA, HK1, ⟨m1, rfl⟩⟩ := hrel
  cases gk with
  | zero => exact absurd HA.out (by simp [spec_l9Sum.l0])
  | succ k1 =>
    have H := HA.out
    clear HA
    simp only [spec_l9Sum.l0] at H
    by_cases c2 : x4_1 < (l0.length : Int)
    ·
     rw [if_pos c2] at H
     have c2b0 : decide (x4_1 < (l0.length : Int)) = true := decide_eq_true c2
     clear c2
     by_cases c3 : 0 ≤ x4_1
     ·
      rw [if_pos c3] at H
      have c3b0 : decide (0 ≤ x4_1) = true := decide_eq_true c3
      clear c3
      have H' := Aside0.mk H
      clear H
      have p139 : 0 ≤ (x4_1 : Int) := od_
      have q139 : x4_1 < (l0.length : Int) := od_
      obtain ⟨ad139, e139, hx139_0⟩ := Kd.at_int HR0.out x4_1 p139 q139
      cases e139
      replace p139 := eq_true p139
      replace q139 := eq_true q139
      go_wp2
      go_roundg k1
      case measure => have := HK1.out; omega
      case rel => exact ⟨(Int.tmod (wrap64 ((wrap64 (x3_1 * 31)) + (wrap64 (rd l0 x4_1)))) 65521), (wrap64 (x4_1 + 1)), vl_, vl_, H', ⟨by have := HK1.out; omega⟩, dr_⟩
     · rw [if_neg c3] at H
       exact absurd H (by simp)
    ·
     rw [if_neg c2] at H
     have c2b0 : decide (x4_1 < (l0.length : Int)) = false := decide_eq_false c2
     clear c2
     obtain rfl := Option.some.inj H
     go_wp2
     go_ret
     exact ⟨vl_, dr_⟩

end Go.Proofs.Ytehdbobpbcjmeaa.PFnExactReadJournal

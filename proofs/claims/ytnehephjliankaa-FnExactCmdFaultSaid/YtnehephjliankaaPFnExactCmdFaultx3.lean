/- Functions of the program as Lean functions, each with the proof that its call comes to what that function says (texts written by a program of this session). Conditions: those that stand in each theorem. -/
import Derived.Test.YtnehephjliankaaPFnExactCmdFaultx0
import Derived.Test.YtnehephjliankaaPFnExactCmdFaultx1
namespace Go.Proofs.Ytnehephjliankaa.PFnExactCmdFault
open Go.RowKit Go.Proofs.YtnehephjliankaaW.PrintWords Go.Proofs.YtnehephjliankaaW.PrintLast Go.Proofs.YtnehephjliankaaW.PrintMore
attribute [local go_sem] max2_int min2_int max_two min_two max_three min_three max_four min_four   -- for this text's walks alone
set_option linter.unusedVariables false
set_option linter.unusedSimpArgs false

/-! ### spec_l7Name: function 71 -/
def spec_l7Name.l0 : Nat → ByteArray → Int → Option (Bool)
 | 0, _, _ => none
 | k + 1, x0, x3 => if x3 < (x0.size : Int) then (if 0 ≤ x3 then (if (bt x0 x3) < 97 then (some false) else (if (bt x0 x3) > 122 then (some false) else (spec_l7Name.l0 k x0 (wrap64 (x3 + 1))))) else (none)) else ((spec_l1In.f (x0.size : Int) 1 8).bind fun t131 => (some t131))
def spec_l7Name.f (k : Nat) (a0 : ByteArray) : Option (Bool) := spec_l7Name.l0 k a0 0
set_option maxHeartbeats 8000000 in
set_option maxRecDepth 100000 in
theorem spec_l7Name.calls (k : Nat) (a0 : ByteArray) (r : Bool) (w : World) (h : spec_l7Name.f k a0 = some r) :
 Calls Try.prog 71 #[.string a0] w fun e w' => e = .returned (.bool r) ∧ Drawn0 w w' := by
 have H : (spec_l7Name.l0 k a0 0) = some r := h
 clear h
 have H' := Aside0.mk H
 clear H
 go_enter Try.func71, Try.ntmps71
 go_wp2
 go_loopg [3] k (fun kq v3 w' => ∃ (x3_1 : Int), v3 = .int .i64 x3_1 ∧ Aside0 (spec_l7Name.l0 kq a0 x3_1 = some r) ∧ Aside0 (kq ≤ k) ∧ Drawn0 w w')
 case atStart => exact ⟨(0), vl_, H', ⟨Nat.le_refl _⟩, dr_⟩
 case round =>
  clear H'
  obtain ⟨x3_1, rfl, HA, HK1, ⟨m1, rfl⟩⟩ := hrel
  cases gk with
  | zero => exact absurd HA.out (by simp [spec_l7Name.l0])
  | succ k1 =>
    have H := HA.out
    clear HA
    simp only [spec_l7Name.l0] at H
    by_cases c2 : x3_1 < (a0.size : Int)
    ·
     rw [if_pos c2] at H
     have c2b0 : decide (x3_1 < (a0.size : Int)) = true := decide_eq_true c2
     clear c2
     by_cases c3 : 0 ≤ x3_1
     ·
      rw [if_pos c3] at H
      have c3b0 : decide (0 ≤ x3_1) = true := decide_eq_true c3
      clear c3
      have p4 : 0 ≤ (x3_1 : Int) := od_
      have q4 : x3_1 < (a0.size : Int) := od_
      have hx4 := bt_at a0 x3_1
      replace p4 := eq_true p4
      replace q4 := eq_true q4
      by_cases c5 : (bt a0 x3_1) < 97
      ·
       rw [if_pos c5] at H
       have c5b0 : decide ((bt a0 x3_1) < 97) = true := decide_eq_true c5
       clear c5
       obtain rfl := Option.some.inj H
       go_wp2
       go_ret
       exact ⟨vl_, dr_⟩
      ·
       rw [if_neg c5] at H
       have c5b0 : decide ((bt a0 x3_1) < 97) = false := decide_eq_false c5
       clear c5
       have p6 : 0 ≤ (x3_1 : Int) := od_
       have q6 : x3_1 < (a0.size : Int) := od_
       have hx6 := bt_at a0 x3_1
       replace p6 := eq_true p6
       replace q6 := eq_true q6
       by_cases c7 : (bt a0 x3_1) > 122
       ·
        rw [if_pos c7] at H
        have c7b0 : decide (122 < (bt a0 x3_1)) = true := decide_eq_true c7
        clear c7
        obtain rfl := Option.some.inj H
        go_wp2
        go_ret
        exact ⟨vl_, dr_⟩
       ·
        rw [if_neg c7] at H
        have c7b0 : decide (122 < (bt a0 x3_1)) = false := decide_eq_false c7
        clear c7
        have H' := Aside0.mk H
        clear H
        go_wp2
        go_roundg k1
        case measure => have := HK1.out; omega
        case rel => exact ⟨(wrap64 (x3_1 + 1)), vl_, H', ⟨by have := HK1.out; omega⟩, dr_⟩
     · rw [if_neg c3] at H
       exact absurd H (by simp)
    ·
     rw [if_neg c2] at H
     have c2b0 : decide (x3_1 < (a0.size : Int)) = false := decide_eq_false c2
     clear c2
     replace H := Option.bind_eq_some_iff.mp H
     obtain ⟨t131, A80, H⟩ := H
     replace H : (some t131) = some r := H
     have A8 := Aside0.mk A80
     clear A80
     obtain rfl := Option.some.inj H
     go_wp2_with (first | ((with_reducible refine gate_callee (f := 112) rfl ?_); refine goesY_ (some 22) Try.func112 #[.int .i64 (a0.size : Int), .int .i64 1, .int .i64 8] rfl ?_; (with_reducible refine (spec_l1In.calls (a0.size : Int) 1 8 t131 _ A8.out).mono ?_); rintro e w' ⟨rfl, ⟨nd, rfl⟩⟩; refine ⟨_, rfl, ?_⟩))
     go_ret
     exact ⟨vl_, dr_⟩

/-! ### spec_l11Fault: function 73 -/
mutual
def spec_l11Fault.j0 : Nat → List (S100) → Bool → Option (Int)
 | 0, _, _ => none
 | k + 1, x0, x11 => if x11 = true then (some 2) else (spec_l11Fault.l0 k x0 0)
def spec_l11Fault.l0 : Nat → List (S100) → Int → Option (Int)
 | 0, _, _ => none
 | k + 1, x0, x3 => if x3 < (x0.length : Int) then (if 0 ≤ x3 then ((spec_l1In.f ((rd_T100 x0 x3).f0) 0 999).bind fun t133 => (if t133 = true then ((spec_l1In.f ((rd_T100 x0 x3).f1) 0 999).bind fun t135 => (if t135 = true then (spec_l11Fault.l0 k x0 (wrap64 (x3 + 1))) else (some 3))) else (some 3))) else (none)) else (some 0)
end
def spec_l11Fault.f (k : Nat) (l0 : List (S100)) : Option (Int) := if (l0.length : Int) < 1 then (spec_l11Fault.j0 k l0 true) else (spec_l11Fault.j0 k l0 (decide ((l0.length : Int) > 8)))
set_option maxHeartbeats 8000000 in
set_option maxRecDepth 100000 in
theorem spec_l11Fault.calls (k : Nat) (A0 : Option Addr) (c0 : Nat) (l0 : List (S100)) (r : Int) (w : World) (hr0 : Kd.C k100 w A0 l0.length l0) (hc0 : l0.length ≤ c0) (h : spec_l11Fault.f k l0 = some r) :
 Calls Try.prog 73 #[.slice A0 l0.length c0] w fun e w' => e = .returned (.int .i64 r) ∧ Drawn0 w w' := by
 have HR0 := Aside0.mk hr0
 have HC0 := Aside0.mk hc0
 clear hr0 hc0
 have H : (if (l0.length : Int) < 1 then (spec_l11Fault.j0 k l0 true) else (spec_l11Fault.j0 k l0 (decide ((l0.length : Int) > 8)))) = some r := h
 clear h
 have HC2 := Aside0.mk H
 clear H
 go_enter Try.func73, Try.ntmps73
 go_upto_region 1 with (fail)
 go_cut [11] (fun v11 wc => ∃ (kq : Nat) (x11_1 : Bool), v11 = .bool x11_1 ∧ Aside0 (spec_l11Fault.j0 kq l0 x11_1 = some r) ∧ Aside0 (kq ≤ k) ∧ Drawn0 w wc)
 case first =>
  have H := HC2.out
  clear HC2
  by_cases c3 : (l0.length : Int) < 1
  ·
   rw [if_pos c3] at H
   have c3b0 : decide ((l0.length : Int) < 1) = true := decide_eq_true c3
   have c3b1 : decide (l0.length < 1) = true := decide_eq_true (by omega)
   clear c3
   (first | rw [c3b0] | (simp only [i64_w, i32_w]; rw [c3b0]) | skip)
   have H' := Aside0.mk H
   clear H
   go_wp2
   go_meet
   case rel => exact ⟨_, (true), vl_, H', ⟨le_⟩, dr_⟩
  ·
   rw [if_neg c3] at H
   have c3b0 : decide ((l0.length : Int) < 1) = false := decide_eq_false c3
   have c3b1 : decide (l0.length < 1) = false := decide_eq_false (by omega)
   clear c3
   (first | rw [c3b0] | (simp only [i64_w, i32_w]; rw [c3b0]) | skip)
   have H' := Aside0.mk H
   clear H
   go_wp2
   go_meet
   case rel => exact ⟨_, (decide ((l0.length : Int) > 8)), vl_, H', ⟨le_⟩, dr_⟩
 case rest =>
  clear HC2
  obtain ⟨kq, x11_1, rfl, HA, HJ1, ⟨mc1, rfl⟩⟩ := hcut
  cases kq with
  | zero => exact absurd HA.out (by simp [spec_l11Fault.j0])
  | succ kj1 =>
    have H := HA.out
    clear HA
    simp only [spec_l11Fault.j0] at H
    by_cases c4 : x11_1 = true
    ·
     subst c4
     (try rw [if_pos rfl] at H)
     obtain rfl := Option.some.inj H
     go_wp2
     go_ret
     exact ⟨vl_, dr_⟩
    ·
     replace c4 := Bool.eq_false_iff.mpr c4
     subst c4
     (try rw [if_neg (show ¬ (false = true) by decide)] at H)
     have H' := Aside0.mk H
     clear H
     go_wp2
     go_loopg [3] kj1 (fun kq v3 w' => ∃ (x3_2 : Int), v3 = .int .i64 x3_2 ∧ Aside0 (spec_l11Fault.l0 kq l0 x3_2 = some r) ∧ Aside0 (kq ≤ kj1) ∧ Drawn0 w w')
     case atStart => exact ⟨(0), vl_, H', ⟨Nat.le_refl _⟩, dr_⟩
     case round =>
      clear H'
      try clear c4
      obtain ⟨x3_2, rfl, HA, HK2, ⟨m2, rfl⟩⟩ := hrel
      cases gk with
      | zero => exact absurd HA.out (by simp [spec_l11Fault.l0])
      | succ k2 =>
        have H := HA.out
        clear HA
        simp only [spec_l11Fault.l0] at H
        by_cases c5 : x3_2 < (l0.length : Int)
        ·
         rw [if_pos c5] at H
         have c5b0 : decide (x3_2 < (l0.length : Int)) = true := decide_eq_true c5
         clear c5
         by_cases c6 : 0 ≤ x3_2
         case neg => rw [if_neg c6] at H; exact absurd H (by simp)
         rw [if_pos c6] at H
         have c6b0 : decide (0 ≤ x3_2) = true := decide_eq_true c6
         clear c6
         replace H := Option.bind_eq_some_iff.mp H
         obtain ⟨t133, A70, H⟩ := H
         (try dsimp only at H)
         have A7 := Aside0.mk A70
         clear A70
         have p132 : 0 ≤ (x3_2 : Int) := od_
         have q132 : x3_2 < (l0.length : Int) := od_
         obtain ⟨ad132, e132, hx132_0, hx132_1⟩ := at_T100 HR0.out x3_2 p132 q132
         cases e132
         replace p132 := eq_true p132
         replace q132 := eq_true q132
         by_cases c8 : t133 = true
         ·
          subst c8
          (try rw [if_pos rfl] at H)
          replace H := Option.bind_eq_some_iff.mp H
          obtain ⟨t135, A90, H⟩ := H
          (try dsimp only at H)
          have A9 := Aside0.mk A90
          clear A90
          by_cases c10 : t135 = true
          ·
           subst c10
           (try rw [if_pos rfl] at H)
           have H' := Aside0.mk H
           clear H
           go_wp2_with (first | ((with_reducible refine gate_callee (f := 112) rfl ?_); refine goesY_ (some 23) Try.func112 #[.int .i64 ((rd_T100 l0 x3_2).f0), .int .i64 0, .int .i64 999] rfl ?_; (with_reducible refine (spec_l1In.calls ((rd_T100 l0 x3_2).f0) 0 999 true _ A7.out).mono ?_); rintro e w' ⟨rfl, ⟨nd, rfl⟩⟩; refine ⟨_, rfl, ?_⟩; have p134 : 0 ≤ (x3_2 : Int) := od_; have q134 : x3_2 < (l0.length : Int) := od_; obtain ⟨ad134, e134, hx134_0, hx134_1⟩ := at_T100 HR0.out x3_2 p134 q134; obtain rfl : ad132 = ad134 := (by injection e134); replace p134 := eq_true p134; replace q134 := eq_true q134) | (go_at_call 112; (with_reducible refine (spec_l1In.calls ((rd_T100 l0 x3_2).f1) 0 999 true _ A9.out).mono ?_); rintro e w' ⟨rfl, ⟨nd, rfl⟩⟩))
           go_roundg k2
           case measure => have := HJ1.out; have := HK2.out; omega
           case rel => exact ⟨(wrap64 (x3_2 + 1)), vl_, H', ⟨by have := HJ1.out; have := HK2.out; omega⟩, dr_⟩
          ·
           replace c10 := Bool.eq_false_iff.mpr c10
           subst c10
           (try rw [if_neg (show ¬ (false = true) by decide)] at H)
           obtain rfl := Option.some.inj H
           go_wp2_with (first | ((with_reducible refine gate_callee (f := 112) rfl ?_); refine goesY_ (some 23) Try.func112 #[.int .i64 ((rd_T100 l0 x3_2).f0), .int .i64 0, .int .i64 999] rfl ?_; (with_reducible refine (spec_l1In.calls ((rd_T100 l0 x3_2).f0) 0 999 true _ A7.out).mono ?_); rintro e w' ⟨rfl, ⟨nd, rfl⟩⟩; refine ⟨_, rfl, ?_⟩; have p134 : 0 ≤ (x3_2 : Int) := od_; have q134 : x3_2 < (l0.length : Int) := od_; obtain ⟨ad134, e134, hx134_0, hx134_1⟩ := at_T100 HR0.out x3_2 p134 q134; obtain rfl : ad132 = ad134 := (by injection e134); replace p134 := eq_true p134; replace q134 := eq_true q134) | (go_at_call 112; (with_reducible refine (spec_l1In.calls ((rd_T100 l0 x3_2).f1) 0 999 false _ A9.out).mono ?_); rintro e w' ⟨rfl, ⟨nd, rfl⟩⟩))
           go_ret
           exact ⟨vl_, dr_⟩
         ·
          replace c8 := Bool.eq_false_iff.mpr c8
          subst c8
          (try rw [if_neg (show ¬ (false = true) by decide)] at H)
          obtain rfl := Option.some.inj H
          go_wp2_with (first | ((with_reducible refine gate_callee (f := 112) rfl ?_); refine goesY_ (some 23) Try.func112 #[.int .i64 ((rd_T100 l0 x3_2).f0), .int .i64 0, .int .i64 999] rfl ?_; (with_reducible refine (spec_l1In.calls ((rd_T100 l0 x3_2).f0) 0 999 false _ A7.out).mono ?_); rintro e w' ⟨rfl, ⟨nd, rfl⟩⟩; refine ⟨_, rfl, ?_⟩))
          go_ret
          exact ⟨vl_, dr_⟩
        ·
         rw [if_neg c5] at H
         have c5b0 : decide (x3_2 < (l0.length : Int)) = false := decide_eq_false c5
         clear c5
         obtain rfl := Option.some.inj H
         go_wp2
         go_ret
         exact ⟨vl_, dr_⟩

/-! ### spec_l14Path: function 121 -/
def spec_l14Path.l0 : Nat → List Int → Int → Option (Bool)
 | 0, _, _ => none
 | k + 1, x0, x3 => if x3 < (x0.length : Int) then (if 0 ≤ x3 then ((spec_l1In.f (rd x0 x3) 1 9).bind fun t137 => (if t137 = true then (spec_l14Path.l0 k x0 (wrap64 (x3 + 1))) else (some false))) else (none)) else (some (decide ((x0.length : Int) ≤ 3)))
def spec_l14Path.f (k : Nat) (l0 : List Int) : Option (Bool) := spec_l14Path.l0 k l0 0
set_option maxHeartbeats 8000000 in
set_option maxRecDepth 100000 in
theorem spec_l14Path.calls (k : Nat) (A0 : Option Addr) (c0 : Nat) (l0 : List Int) (r : Bool) (w : World) (hr0 : Kd.C (Kd.int .i64) w A0 l0.length l0) (hc0 : l0.length ≤ c0) (h : spec_l14Path.f k l0 = some r) :
 Calls Try.prog 121 #[.slice A0 l0.length c0] w fun e w' => e = .returned (.bool r) ∧ Drawn0 w w' := by
 have HR0 := Aside0.mk hr0
 have HC0 := Aside0.mk hc0
 clear hr0 hc0
 have H : (spec_l14Path.l0 k l0 0) = some r := h
 clear h
 have H' := Aside0.mk H
 clear H
 go_enter Try.func121, Try.ntmps121
 go_wp2
 go_loopg [3] k (fun kq v3 w' => ∃ (x3_1 : Int), v3 = .int .i64 x3_1 ∧ Aside0 (spec_l14Path.l0 kq l0 x3_1 = some r) ∧ Aside0 (kq ≤ k) ∧ Drawn0 w w')
 case atStart => exact ⟨(0), vl_, H', ⟨Nat.le_refl _⟩, dr_⟩
 case round =>
  clear H'
  try clear c1
  obtain ⟨x3_1, rfl, HA, HK1, ⟨m1, rfl⟩⟩ := hrel
  cases gk with
  | zero => exact absurd HA.out (by simp [spec_l14Path.l0])
  | succ k1 =>
    have H := HA.out
    clear HA
    simp only [spec_l14Path.l0] at H
    by_cases c2 : x3_1 < (l0.length : Int)
    ·
     rw [if_pos c2] at H
     have c2b0 : decide (x3_1 < (l0.length : Int)) = true := decide_eq_true c2
     clear c2
     by_cases c3 : 0 ≤ x3_1
     ·
      rw [if_pos c3] at H
      have c3b0 : decide (0 ≤ x3_1) = true := decide_eq_true c3
      clear c3
      replace H := Option.bind_eq_some_iff.mp H
      obtain ⟨t137, A40, H⟩ := H
      (try dsimp only at H)
      have A4 := Aside0.mk A40
      clear A40
      have p136 : 0 ≤ (x3_1 : Int) := od_
      have q136 : x3_1 < (l0.length : Int) := od_
      obtain ⟨ad136, e136, hx136_0⟩ := Kd.at_int HR0.out x3_1 p136 q136
      cases e136
      replace p136 := eq_true p136
      replace q136 := eq_true q136
      by_cases c5 : t137 = true
      ·
       subst c5
       (try rw [if_pos rfl] at H)
       have H' := Aside0.mk H
       clear H
       go_wp2_with (first | ((with_reducible refine gate_callee (f := 112) rfl ?_); refine goesY_ (some 14) Try.func112 #[.int .i64 (rd l0 x3_1), .int .i64 1, .int .i64 9] rfl ?_; (with_reducible refine (spec_l1In.calls (rd l0 x3_1) 1 9 true _ A4.out).mono ?_); rintro e w' ⟨rfl, ⟨nd, rfl⟩⟩; refine ⟨_, rfl, ?_⟩))
       go_roundg k1
       case measure => have := HK1.out; omega
       case rel => exact ⟨(wrap64 (x3_1 + 1)), vl_, H', ⟨by have := HK1.out; omega⟩, dr_⟩
      ·
       replace c5 := Bool.eq_false_iff.mpr c5
       subst c5
       (try rw [if_neg (show ¬ (false = true) by decide)] at H)
       obtain rfl := Option.some.inj H
       go_wp2_with (first | ((with_reducible refine gate_callee (f := 112) rfl ?_); refine goesY_ (some 14) Try.func112 #[.int .i64 (rd l0 x3_1), .int .i64 1, .int .i64 9] rfl ?_; (with_reducible refine (spec_l1In.calls (rd l0 x3_1) 1 9 false _ A4.out).mono ?_); rintro e w' ⟨rfl, ⟨nd, rfl⟩⟩; refine ⟨_, rfl, ?_⟩))
       go_ret
       exact ⟨vl_, dr_⟩
     · rw [if_neg c3] at H
       exact absurd H (by simp)
    ·
     rw [if_neg c2] at H
     have c2b0 : decide (x3_1 < (l0.length : Int)) = false := decide_eq_false c2
     clear c2
     obtain rfl := Option.some.inj H
     go_wp2
     go_ret
     exact ⟨vl_, dr_⟩

/-! ### spec_l13Key: function 122 -/
def spec_l13Key.f (a0 : Int) : Option (Bool) := (spec_l1In.f a0 1 4).bind fun t138 => (some t138)
set_option maxHeartbeats 8000000 in
set_option maxRecDepth 100000 in
theorem spec_l13Key.calls (a0 : Int) (r : Bool) (w : World) (h : spec_l13Key.f a0 = some r) :
 Calls Try.prog 122 #[.int .i64 a0] w fun e w' => e = .returned (.bool r) ∧ Drawn0 w w' := by
 have H : ((spec_l1In.f a0 1 4).bind fun t138 => (some t138)) = some r := h
 clear h
 replace H := Option.bind_eq_some_iff.mp H
 obtain ⟨t138, A20, H⟩ := H
 replace H : (some t138) = some r := H
 have A2 := Aside0.mk A20
 clear A20
 obtain rfl := Option.some.inj H
 go_enter Try.func122, Try.ntmps122
 go_wp2_with (first | ((with_reducible refine gate_callee (f := 112) rfl ?_); refine goesY_ (some 4) Try.func112 #[.int .i64 a0, .int .i64 1, .int .i64 4] rfl ?_; (with_reducible refine (spec_l1In.calls a0 1 4 t138 _ A2.out).mono ?_); rintro e w' ⟨rfl, ⟨nd, rfl⟩⟩; refine ⟨_, rfl, ?_⟩))
 go_ret
 exact ⟨vl_, dr_⟩

/-! ### spec_l3Cmp: function 123 -/
def spec_l3Cmp.f (a0 : Int) : Option (Bool) := (spec_l1In.f a0 1 3).bind fun t139 => (some t139)
set_option maxHeartbeats 8000000 in
set_option maxRecDepth 100000 in
theorem spec_l3Cmp.calls (a0 : Int) (r : Bool) (w : World) (h : spec_l3Cmp.f a0 = some r) :
 Calls Try.prog 123 #[.int .i64 a0] w fun e w' => e = .returned (.bool r) ∧ Drawn0 w w' := by
 have H : ((spec_l1In.f a0 1 3).bind fun t139 => (some t139)) = some r := h
 clear h
 replace H := Option.bind_eq_some_iff.mp H
 obtain ⟨t139, A20, H⟩ := H
 replace H : (some t139) = some r := H
 have A2 := Aside0.mk A20
 clear A20
 obtain rfl := Option.some.inj H
 go_enter Try.func123, Try.ntmps123
 go_wp2_with (first | ((with_reducible refine gate_callee (f := 112) rfl ?_); refine goesY_ (some 4) Try.func112 #[.int .i64 a0, .int .i64 1, .int .i64 3] rfl ?_; (with_reducible refine (spec_l1In.calls a0 1 3 t139 _ A2.out).mono ?_); rintro e w' ⟨rfl, ⟨nd, rfl⟩⟩; refine ⟨_, rfl, ?_⟩))
 go_ret
 exact ⟨vl_, dr_⟩

/-! ### spec_l14Numbers: function 74 -/
def spec_l14Numbers.f (k : Nat) (l0 : List (S33)) : Option (Bool) := if 0 < (l0.length : Int) then (if ((rd_T33 l0 0).f1) = 7 then ((spec_l1In.f ((rd_T33 l0 0).f4) 1 3).bind fun t142 => (if t142 = true then ((spec_l1In.f ((rd_T33 l0 0).f5) 0 15).bind fun t143 => (some t143)) else (some false))) else (if ((rd_T33 l0 0).f1) = 6 then ((spec_l1In.f ((rd_T33 l0 0).f5) 0 15).bind fun t145 => (if t145 = true then ((spec_l1In.f ((rd_T33 l0 0).f6) 0 9999).bind fun t146 => (if t146 = true then ((spec_l1In.f (((rd_T33 l0 0).f7).length : Int) 1 400).bind fun t147 => (some t147)) else (some false))) else (some false))) else (if ((rd_T33 l0 0).f1) = 11 then ((spec_l1In.f ((rd_T33 l0 0).f8) 1 7).bind fun t149 => (if t149 = true then ((spec_l14Path.f k ((rd_T33 l0 0).f9)).bind fun t150 => (some t150)) else (some false))) else (if ((rd_T33 l0 0).f1) = 13 then ((spec_l13Key.f ((rd_T33 l0 0).f10)).bind fun t152 => (some t152)) else (if ((rd_T33 l0 0).f1) = 14 then ((spec_l3Cmp.f ((rd_T33 l0 0).f13)).bind fun t154 => (some t154)) else (some true)))))) else (none)
set_option maxHeartbeats 8000000 in
set_option maxRecDepth 100000 in
theorem spec_l14Numbers.calls (k : Nat) (A0 : Option Addr) (c0 : Nat) (l0 : List (S33)) (r : Bool) (w : World) (hr0 : Kd.C k33 w A0 l0.length l0) (hc0 : l0.length ≤ c0) (h : spec_l14Numbers.f k l0 = some r) :
 Calls Try.prog 74 #[.pointer A0] w fun e w' => e = .returned (.bool r) ∧ Drawn0 w w' := by
 have HR0 := Aside0.mk hr0
 have HC0 := Aside0.mk hc0
 clear hr0 hc0
 have H : (if 0 < (l0.length : Int) then (if ((rd_T33 l0 0).f1) = 7 then ((spec_l1In.f ((rd_T33 l0 0).f4) 1 3).bind fun t142 => (if t142 = true then ((spec_l1In.f ((rd_T33 l0 0).f5) 0 15).bind fun t143 => (some t143)) else (some false))) else (if ((rd_T33 l0 0).f1) = 6 then ((spec_l1In.f ((rd_T33 l0 0).f5) 0 15).bind fun t145 => (if t145 = true then ((spec_l1In.f ((rd_T33 l0 0).f6) 0 9999).bind fun t146 => (if t146 = true then ((spec_l1In.f (((rd_T33 l0 0).f7).length : Int) 1 400).bind fun t147 => (some t147)) else (some false))) else (some false))) else (if ((rd_T33 l0 0).f1) = 11 then ((spec_l1In.f ((rd_T33 l0 0).f8) 1 7).bind fun t149 => (if t149 = true then ((spec_l14Path.f k ((rd_T33 l0 0).f9)).bind fun t150 => (some t150)) else (some false))) else (if ((rd_T33 l0 0).f1) = 13 then ((spec_l13Key.f ((rd_T33 l0 0).f10)).bind fun t152 => (some t152)) else (if ((rd_T33 l0 0).f1) = 14 then ((spec_l3Cmp.f ((rd_T33 l0 0).f13)).bind fun t154 => (some t154)) else (some true)))))) else (none)) = some r := h
 clear h
 by_cases c2 : 0 < (l0.length : Int)
 ·
  rw [if_pos c2] at H
  have c2b0 : decide (0 < (l0.length : Int)) = true := decide_eq_true c2
  have c2b1 : decide (0 < l0.length) = true := decide_eq_true (by omega)
  clear c2
  have p140 : 0 ≤ (0 : Int) := (by omega)
  have q140 : 0 < (l0.length : Int) := od_
  obtain ⟨ad140, A140_3, c140_3, A140_7, c140_7, A140_9, c140_9, A140_12, c140_12, e140, hx140_0, hx140_1, hx140_2, hx140_3, hx140_4, hx140_5, hx140_6, hx140_7, hx140_8, hx140_9, hx140_10, hx140_11, hx140_12, hx140_13, hl140_3, hi140_3, hl140_7, hi140_7, hl140_9, hi140_9, hl140_12, hi140_12⟩ := at_T33 HR0.out 0 p140 q140
  cases e140
  have qi140 : (0 < l0.length) = True := eq_true (by omega)
  (try simp only [Int.toNat_zero, Nat.zero_mul, Addr.add_zero'] at hx140_0 hx140_1 hx140_2 hx140_3 hx140_4 hx140_5 hx140_6 hx140_7 hx140_8 hx140_9 hx140_10 hx140_11 hx140_12 hx140_13)
  have HR140_3 := Aside0.mk hi140_3
  have HC140_3 := Aside0.mk hl140_3
  clear hi140_3 hl140_3
  have HR140_7 := Aside0.mk hi140_7
  have HC140_7 := Aside0.mk hl140_7
  clear hi140_7 hl140_7
  have HR140_9 := Aside0.mk hi140_9
  have HC140_9 := Aside0.mk hl140_9
  clear hi140_9 hl140_9
  have HR140_12 := Aside0.mk hi140_12
  have HC140_12 := Aside0.mk hl140_12
  clear hi140_12 hl140_12
  replace p140 := eq_true p140
  replace q140 := eq_true q140
  by_cases c3 : ((rd_T33 l0 0).f1) = 7
  ·
   rw [if_pos c3] at H
   have c3b0 : (((rd_T33 l0 0).f1) == 7) = true := beq_iff_eq.mpr c3
   have c3b1 : (((rd_T33 l0 0).f1) != 7) = false := bne_eq_false_iff_eq.mpr c3
   clear c3
   replace H := Option.bind_eq_some_iff.mp H
   obtain ⟨t142, A40, H⟩ := H
   (try dsimp only at H)
   have A4 := Aside0.mk A40
   clear A40
   (try simp only [c3b0, c3b1])
   go_enter Try.func74, Try.ntmps74
   by_cases c5 : t142 = true
   ·
    subst c5
    (try rw [if_pos rfl] at H)
    replace H := Option.bind_eq_some_iff.mp H
    obtain ⟨t143, A60, H⟩ := H
    replace H : (some t143) = some r := H
    have A6 := Aside0.mk A60
    clear A60
    obtain rfl := Option.some.inj H
    go_wp2_with (first | ((with_reducible refine gate_callee (f := 112) rfl ?_); refine goesY_ (some 13) Try.func112 #[.int .i64 ((rd_T33 l0 0).f4), .int .i64 1, .int .i64 3] rfl ?_; (with_reducible refine (spec_l1In.calls ((rd_T33 l0 0).f4) 1 3 true _ A4.out).mono ?_); rintro e w' ⟨rfl, ⟨nd, rfl⟩⟩; refine ⟨_, rfl, ?_⟩) | (go_at_call 112; (with_reducible refine (spec_l1In.calls ((rd_T33 l0 0).f5) 0 15 t143 _ A6.out).mono ?_); rintro e w' ⟨rfl, ⟨nd, rfl⟩⟩))
    go_ret
    exact ⟨vl_, dr_⟩
   ·
    replace c5 := Bool.eq_false_iff.mpr c5
    subst c5
    (try rw [if_neg (show ¬ (false = true) by decide)] at H)
    obtain rfl := Option.some.inj H
    go_wp2_with (first | ((with_reducible refine gate_callee (f := 112) rfl ?_); refine goesY_ (some 13) Try.func112 #[.int .i64 ((rd_T33 l0 0).f4), .int .i64 1, .int .i64 3] rfl ?_; (with_reducible refine (spec_l1In.calls ((rd_T33 l0 0).f4) 1 3 false _ A4.out).mono ?_); rintro e w' ⟨rfl, ⟨nd, rfl⟩⟩; refine ⟨_, rfl, ?_⟩))
    go_ret
    exact ⟨vl_, dr_⟩
  ·
   rw [if_neg c3] at H
   have c3b0 : (((rd_T33 l0 0).f1) == 7) = false := beq_eq_false_iff_ne.mpr c3
   have c3b1 : (((rd_T33 l0 0).f1) != 7) = true := bne_iff_ne.mpr c3
   (try simp only [c3b0, c3b1])
   by_cases c7 : ((rd_T33 l0 0).f1) = 6
   ·
    rw [if_pos c7] at H
    have c7b0 : (((rd_T33 l0 0).f1) == 6) = true := beq_iff_eq.mpr c7
    have c7b1 : (((rd_T33 l0 0).f1) != 6) = false := bne_eq_false_iff_eq.mpr c7
    clear c7
    replace H := Option.bind_eq_some_iff.mp H
    obtain ⟨t145, A80, H⟩ := H
    (try dsimp only at H)
    have A8 := Aside0.mk A80
    clear A80
    (try simp only [c7b0, c7b1])
    go_enter Try.func74, Try.ntmps74
    by_cases c9 : t145 = true
    ·
     subst c9
     (try rw [if_pos rfl] at H)
     replace H := Option.bind_eq_some_iff.mp H
     obtain ⟨t146, A100, H⟩ := H
     (try dsimp only at H)
     have A10 := Aside0.mk A100
     clear A100
     by_cases c11 : t146 = true
     ·
      subst c11
      (try rw [if_pos rfl] at H)
      replace H := Option.bind_eq_some_iff.mp H
      obtain ⟨t147, A120, H⟩ := H
      replace H : (some t147) = some r := H
      have A12 := Aside0.mk A120
      clear A120
      obtain rfl := Option.some.inj H
      go_wp2_with (first | ((with_reducible refine gate_callee (f := 112) rfl ?_); refine goesY_ (some 27) Try.func112 #[.int .i64 ((rd_T33 l0 0).f5), .int .i64 0, .int .i64 15] rfl ?_; (with_reducible refine (spec_l1In.calls ((rd_T33 l0 0).f5) 0 15 true _ A8.out).mono ?_); rintro e w' ⟨rfl, ⟨nd, rfl⟩⟩; refine ⟨_, rfl, ?_⟩) | (go_at_call 112; (with_reducible refine (spec_l1In.calls ((rd_T33 l0 0).f6) 0 9999 true _ A10.out).mono ?_); rintro e w' ⟨rfl, ⟨nd, rfl⟩⟩) | (go_at_call 112; (with_reducible refine (spec_l1In.calls (((rd_T33 l0 0).f7).length : Int) 1 400 t147 _ A12.out).mono ?_); rintro e w' ⟨rfl, ⟨nd, rfl⟩⟩))
      go_ret
      exact ⟨vl_, dr_⟩
     ·
      replace c11 := Bool.eq_false_iff.mpr c11
      subst c11
      (try rw [if_neg (show ¬ (false = true) by decide)] at H)
      obtain rfl := Option.some.inj H
      go_wp2_with (first | ((with_reducible refine gate_callee (f := 112) rfl ?_); refine goesY_ (some 27) Try.func112 #[.int .i64 ((rd_T33 l0 0).f5), .int .i64 0, .int .i64 15] rfl ?_; (with_reducible refine (spec_l1In.calls ((rd_T33 l0 0).f5) 0 15 true _ A8.out).mono ?_); rintro e w' ⟨rfl, ⟨nd, rfl⟩⟩; refine ⟨_, rfl, ?_⟩) | (go_at_call 112; (with_reducible refine (spec_l1In.calls ((rd_T33 l0 0).f6) 0 9999 false _ A10.out).mono ?_); rintro e w' ⟨rfl, ⟨nd, rfl⟩⟩))
      go_ret
      exact ⟨vl_, dr_⟩
    ·
     replace c9 := Bool.eq_false_iff.mpr c9
     subst c9
     (try rw [if_neg (show ¬ (false = true) by decide)] at H)
     obtain rfl := Option.some.inj H
     go_wp2_with (first | ((with_reducible refine gate_callee (f := 112) rfl ?_); refine goesY_ (some 27) Try.func112 #[.int .i64 ((rd_T33 l0 0).f5), .int .i64 0, .int .i64 15] rfl ?_; (with_reducible refine (spec_l1In.calls ((rd_T33 l0 0).f5) 0 15 false _ A8.out).mono ?_); rintro e w' ⟨rfl, ⟨nd, rfl⟩⟩; refine ⟨_, rfl, ?_⟩))
     go_ret
     exact ⟨vl_, dr_⟩
   ·
    rw [if_neg c7] at H
    have c7b0 : (((rd_T33 l0 0).f1) == 6) = false := beq_eq_false_iff_ne.mpr c7
    have c7b1 : (((rd_T33 l0 0).f1) != 6) = true := bne_iff_ne.mpr c7
    (try simp only [c7b0, c7b1])
    by_cases c13 : ((rd_T33 l0 0).f1) = 11
    ·
     rw [if_pos c13] at H
     have c13b0 : (((rd_T33 l0 0).f1) == 11) = true := beq_iff_eq.mpr c13
     have c13b1 : (((rd_T33 l0 0).f1) != 11) = false := bne_eq_false_iff_eq.mpr c13
     clear c13
     replace H := Option.bind_eq_some_iff.mp H
     obtain ⟨t149, A140, H⟩ := H
     (try dsimp only at H)
     have A14 := Aside0.mk A140
     clear A140
     (try simp only [c13b0, c13b1])
     go_enter Try.func74, Try.ntmps74
     by_cases c15 : t149 = true
     ·
      subst c15
      (try rw [if_pos rfl] at H)
      replace H := Option.bind_eq_some_iff.mp H
      obtain ⟨t150, A160, H⟩ := H
      replace H : (some t150) = some r := H
      have A16 := Aside0.mk A160
      clear A160
      obtain rfl := Option.some.inj H
      go_wp2_with (first | ((with_reducible refine gate_callee (f := 112) rfl ?_); refine goesY_ (some 49) Try.func112 #[.int .i64 ((rd_T33 l0 0).f8), .int .i64 1, .int .i64 7] rfl ?_; (with_reducible refine (spec_l1In.calls ((rd_T33 l0 0).f8) 1 7 true _ A14.out).mono ?_); rintro e w' ⟨rfl, ⟨nd, rfl⟩⟩; refine ⟨_, rfl, ?_⟩) | (go_at_call 121; (with_reducible refine (spec_l14Path.calls k _ _ ((rd_T33 l0 0).f9) t150 _ ?_ ?_ A16.out).mono ?_); exact C_up HR140_9.out; exact HC140_9.out; rintro e w' ⟨rfl, ⟨nd, rfl⟩⟩))
      go_ret
      exact ⟨vl_, dr_⟩
     ·
      replace c15 := Bool.eq_false_iff.mpr c15
      subst c15
      (try rw [if_neg (show ¬ (false = true) by decide)] at H)
      obtain rfl := Option.some.inj H
      go_wp2_with (first | ((with_reducible refine gate_callee (f := 112) rfl ?_); refine goesY_ (some 49) Try.func112 #[.int .i64 ((rd_T33 l0 0).f8), .int .i64 1, .int .i64 7] rfl ?_; (with_reducible refine (spec_l1In.calls ((rd_T33 l0 0).f8) 1 7 false _ A14.out).mono ?_); rintro e w' ⟨rfl, ⟨nd, rfl⟩⟩; refine ⟨_, rfl, ?_⟩))
      go_ret
      exact ⟨vl_, dr_⟩
    ·
     rw [if_neg c13] at H
     have c13b0 : (((rd_T33 l0 0).f1) == 11) = false := beq_eq_false_iff_ne.mpr c13
     have c13b1 : (((rd_T33 l0 0).f1) != 11) = true := bne_iff_ne.mpr c13
     (try simp only [c13b0, c13b1])
     by_cases c17 : ((rd_T33 l0 0).f1) = 13
     ·
      rw [if_pos c17] at H
      have c17b0 : (((rd_T33 l0 0).f1) == 13) = true := beq_iff_eq.mpr c17
      have c17b1 : (((rd_T33 l0 0).f1) != 13) = false := bne_eq_false_iff_eq.mpr c17
      clear c17
      replace H := Option.bind_eq_some_iff.mp H
      obtain ⟨t152, A180, H⟩ := H
      replace H : (some t152) = some r := H
      have A18 := Aside0.mk A180
      clear A180
      obtain rfl := Option.some.inj H
      (try simp only [c17b0, c17b1])
      go_enter Try.func74, Try.ntmps74
      go_wp2_with (first | ((with_reducible refine gate_callee (f := 122) rfl ?_); refine goesY_ (some 63) Try.func122 #[.int .i64 ((rd_T33 l0 0).f10)] rfl ?_; (with_reducible refine (spec_l13Key.calls ((rd_T33 l0 0).f10) t152 _ A18.out).mono ?_); rintro e w' ⟨rfl, ⟨nd, rfl⟩⟩; refine ⟨_, rfl, ?_⟩))
      go_ret
      exact ⟨vl_, dr_⟩
     ·
      rw [if_neg c17] at H
      have c17b0 : (((rd_T33 l0 0).f1) == 13) = false := beq_eq_false_iff_ne.mpr c17
      have c17b1 : (((rd_T33 l0 0).f1) != 13) = true := bne_iff_ne.mpr c17
      (try simp only [c17b0, c17b1])
      by_cases c19 : ((rd_T33 l0 0).f1) = 14
      ·
       rw [if_pos c19] at H
       have c19b0 : (((rd_T33 l0 0).f1) == 14) = true := beq_iff_eq.mpr c19
       have c19b1 : (((rd_T33 l0 0).f1) != 14) = false := bne_eq_false_iff_eq.mpr c19
       clear c19
       replace H := Option.bind_eq_some_iff.mp H
       obtain ⟨t154, A200, H⟩ := H
       replace H : (some t154) = some r := H
       have A20 := Aside0.mk A200
       clear A200
       obtain rfl := Option.some.inj H
       (try simp only [c19b0, c19b1])
       go_enter Try.func74, Try.ntmps74
       go_wp2_with (first | ((with_reducible refine gate_callee (f := 123) rfl ?_); refine goesY_ (some 70) Try.func123 #[.int .i64 ((rd_T33 l0 0).f13)] rfl ?_; (with_reducible refine (spec_l3Cmp.calls ((rd_T33 l0 0).f13) t154 _ A20.out).mono ?_); rintro e w' ⟨rfl, ⟨nd, rfl⟩⟩; refine ⟨_, rfl, ?_⟩))
       go_ret
       exact ⟨vl_, dr_⟩
      ·
       rw [if_neg c19] at H
       have c19b0 : (((rd_T33 l0 0).f1) == 14) = false := beq_eq_false_iff_ne.mpr c19
       have c19b1 : (((rd_T33 l0 0).f1) != 14) = true := bne_iff_ne.mpr c19
       obtain rfl := Option.some.inj H
       (try simp only [c19b0, c19b1])
       go_enter Try.func74, Try.ntmps74
       go_wp2
       go_ret
       exact ⟨vl_, dr_⟩
 · rw [if_neg c2] at H
   exact absurd H (by simp)

/-! ### spec_l12Has: function 143 -/
def spec_l12Has.f (a0 : Int) : Option (Bool) := if a0 = 6 then (some true) else (some (a0 == 7))
set_option maxHeartbeats 8000000 in
set_option maxRecDepth 100000 in
theorem spec_l12Has.calls (a0 : Int) (r : Bool) (w : World) (h : spec_l12Has.f a0 = some r) :
 Calls Try.prog 143 #[.int .i64 a0] w fun e w' => e = .returned (.bool r) ∧ Drawn0 w w' := by
 have H : (if a0 = 6 then (some true) else (some (a0 == 7))) = some r := h
 clear h
 by_cases c2 : a0 = 6
 ·
  rw [if_pos c2] at H
  have c2b0 : (a0 == 6) = true := beq_iff_eq.mpr c2
  have c2b1 : (a0 != 6) = false := bne_eq_false_iff_eq.mpr c2
  clear c2
  obtain rfl := Option.some.inj H
  go_enter Try.func143, Try.ntmps143
  go_wp2
  go_ret
  exact ⟨vl_, dr_⟩
 ·
  rw [if_neg c2] at H
  have c2b0 : (a0 == 6) = false := beq_eq_false_iff_ne.mpr c2
  have c2b1 : (a0 != 6) = true := bne_iff_ne.mpr c2
  obtain rfl := Option.some.inj H
  go_enter Try.func143, Try.ntmps143
  go_wp2
  go_ret
  exact ⟨vl_, dr_⟩

/-! ### spec_l12Two: function 144 -/
def spec_l12Two.f (a0 : Int) : Option (Bool) := if a0 = 10 then (some true) else (some (a0 == 11))
set_option maxHeartbeats 8000000 in
set_option maxRecDepth 100000 in
theorem spec_l12Two.calls (a0 : Int) (r : Bool) (w : World) (h : spec_l12Two.f a0 = some r) :
 Calls Try.prog 144 #[.int .i64 a0] w fun e w' => e = .returned (.bool r) ∧ Drawn0 w w' := by
 have H : (if a0 = 10 then (some true) else (some (a0 == 11))) = some r := h
 clear h
 by_cases c2 : a0 = 10
 ·
  rw [if_pos c2] at H
  have c2b0 : (a0 == 10) = true := beq_iff_eq.mpr c2
  have c2b1 : (a0 != 10) = false := bne_eq_false_iff_eq.mpr c2
  clear c2
  obtain rfl := Option.some.inj H
  go_enter Try.func144, Try.ntmps144
  go_wp2
  go_ret
  exact ⟨vl_, dr_⟩
 ·
  rw [if_neg c2] at H
  have c2b0 : (a0 == 10) = false := beq_eq_false_iff_ne.mpr c2
  have c2b1 : (a0 != 10) = true := bne_iff_ne.mpr c2
  obtain rfl := Option.some.inj H
  go_enter Try.func144, Try.ntmps144
  go_wp2
  go_ret
  exact ⟨vl_, dr_⟩

end Go.Proofs.Ytnehephjliankaa.PFnExactCmdFault

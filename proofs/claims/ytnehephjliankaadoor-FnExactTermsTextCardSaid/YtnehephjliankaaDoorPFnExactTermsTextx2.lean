/- Functions of the program as Lean functions, each with the proof that its call comes to what that function says (texts written by a program of this session). Conditions: those that stand in each theorem. -/
import Derived.Test.YtnehephjliankaaDoorPFnExactTermsTextx0
import Derived.Test.YtnehephjliankaaDoorPFnExactTermsTextx1
namespace Go.Proofs.YtnehephjliankaaDoor.PFnExactTermsText
open Go.RowKit Go.Proofs.YtnehephjliankaaDoorW.PrintWords Go.Proofs.YtnehephjliankaaDoorW.PrintLast Go.Proofs.YtnehephjliankaaDoorW.PrintMore
attribute [local go_sem] max2_int min2_int max_two min_two max_three min_three max_four min_four   -- for this text's walks alone
set_option linter.unusedVariables false
set_option linter.unusedSimpArgs false

/-! ### spec_l11Fault: function 32 -/
mutual
def spec_l11Fault.j0 : Nat → List (S58) → Bool → Option (Int)
 | 0, _, _ => none
 | k + 1, x0, x11 => if x11 = true then (some 2) else (spec_l11Fault.l0 k x0 0)
def spec_l11Fault.l0 : Nat → List (S58) → Int → Option (Int)
 | 0, _, _ => none
 | k + 1, x0, x3 => if x3 < (x0.length : Int) then (if 0 ≤ x3 then ((spec_l1In.f ((rd_T58 x0 x3).f0) 0 999).bind fun t122 => (if t122 = true then ((spec_l1In.f ((rd_T58 x0 x3).f1) 0 999).bind fun t124 => (if t124 = true then (spec_l11Fault.l0 k x0 (wrap64 (x3 + 1))) else (some 3))) else (some 3))) else (none)) else (some 0)
end
def spec_l11Fault.f (k : Nat) (l0 : List (S58)) : Option (Int) := if (l0.length : Int) < 1 then (spec_l11Fault.j0 k l0 true) else (spec_l11Fault.j0 k l0 (decide ((l0.length : Int) > 8)))
set_option maxHeartbeats 8000000 in
set_option maxRecDepth 100000 in
theorem spec_l11Fault.calls (k : Nat) (A0 : Option Addr) (c0 : Nat) (l0 : List (S58)) (r : Int) (w : World) (hr0 : Kd.C k58 w A0 l0.length l0) (hc0 : l0.length ≤ c0) (h : spec_l11Fault.f k l0 = some r) :
 Calls Tryd.prog 32 #[.slice A0 l0.length c0] w fun e w' => e = .returned (.int .i64 r) ∧ Drawn0 w w' := by
 have HR0 := Aside0.mk hr0
 have HC0 := Aside0.mk hc0
 clear hr0 hc0
 have H : (if (l0.length : Int) < 1 then (spec_l11Fault.j0 k l0 true) else (spec_l11Fault.j0 k l0 (decide ((l0.length : Int) > 8)))) = some r := h
 clear h
 have HC2 := Aside0.mk H
 clear H
 go_enter Tryd.func32, Tryd.ntmps32
 go_upto_region 1 with (fail)
 go_cut [11] (fun v11 wc => ∃ (kq : Nat) (x11_1 : Bool), v11 = .bool x11_1 ∧ Aside0 (spec_l11Fault.j0 kq l0 x11_1 = some r) ∧ Aside0 (kq ≤ k) ∧ Drawn0 w wc)
 case first =>
  have H := HC2.out
  clear HC2
  by_cases c3 : (l0.length : Int) < 1
  · rw [if_pos c3] at H
    have c3b0 : decide ((l0.length : Int) < 1) = true := decide_eq_true c3
    have c3b1 : decide (l0.length < 1) = true := decide_eq_true (by omega)
    clear c3
    (first | rw [c3b0] | (simp only [i64_w, i32_w]; rw [c3b0]) | skip)
    have H' := Aside0.mk H
    clear H
    go_wp2
    go_meet
    case rel => exact ⟨_, (true), (by first | rfl | (simp; done) | (simp [*]; done) | (simp; generalize ByteArray.toList _ = zq_; cases zq_ <;> rfl)), H', ⟨by first | omega | exact Nat.le_refl _⟩, by repeat (first | exact Drawn0.refl _ | apply Drawn0.step)⟩
  · rw [if_neg c3] at H
    have c3b0 : decide ((l0.length : Int) < 1) = false := decide_eq_false c3
    have c3b1 : decide (l0.length < 1) = false := decide_eq_false (by omega)
    clear c3
    (first | rw [c3b0] | (simp only [i64_w, i32_w]; rw [c3b0]) | skip)
    have H' := Aside0.mk H
    clear H
    go_wp2
    go_meet
    case rel => exact ⟨_, (decide ((l0.length : Int) > 8)), (by first | rfl | (simp; done) | (simp [*]; done) | (simp; generalize ByteArray.toList _ = zq_; cases zq_ <;> rfl)), H', ⟨by first | omega | exact Nat.le_refl _⟩, by repeat (first | exact Drawn0.refl _ | apply Drawn0.step)⟩
 case rest =>
  clear HC2
  obtain ⟨kq, x11_1, rfl, HA, HJ1, ⟨mc1, rfl⟩⟩ := hcut
  cases kq with
  | zero => exact absurd HA.out (by simp [spec_l11Fault.j0])
  | succ kj1 =>
    have H := HA.out
    clear HA
    simp only [spec_l11Fault.j0] at H
    by_cases c4 : x11_1 = true
    · subst c4
      (try rw [if_pos rfl] at H)
      obtain rfl := Option.some.inj H
      go_wp2
      go_ret
      exact ⟨by first | rfl | (simp; done) | (simp [*]; done) | (simp; generalize ByteArray.toList _ = zq_; cases zq_ <;> rfl), by repeat (first | exact Drawn0.refl _ | apply Drawn0.step)⟩
    · replace c4 := Bool.eq_false_iff.mpr c4
      subst c4
      (try rw [if_neg (show ¬ (false = true) by decide)] at H)
      have H' := Aside0.mk H
      clear H
      go_wp2
      go_loopg [3] kj1 (fun kq v3 w' => ∃ (x3_2 : Int), v3 = .int .i64 x3_2 ∧ Aside0 (spec_l11Fault.l0 kq l0 x3_2 = some r) ∧ Aside0 (kq ≤ kj1) ∧ Drawn0 w w')
      case atStart => exact ⟨(0), (by first | rfl | (simp; done) | (simp [*]; done) | (simp; generalize ByteArray.toList _ = zq_; cases zq_ <;> rfl)), H', ⟨Nat.le_refl _⟩, by repeat (first | exact Drawn0.refl _ | apply Drawn0.step)⟩
      case round =>
       clear H'
       try clear c4
       obtain ⟨x3_2, rfl, HA, HK2, ⟨m2, rfl⟩⟩ := hrel
       cases gk with
       | zero => exact absurd HA.out (by simp [spec_l11Fault.l0])
       | succ k2 =>
         have H := HA.out
         clear HA
         simp only [spec_l11Fault.l0] at H
         by_cases c5 : x3_2 < (l0.length : Int)
         · rw [if_pos c5] at H
           have c5b0 : decide (x3_2 < (l0.length : Int)) = true := decide_eq_true c5
           clear c5
           by_cases c6 : 0 ≤ x3_2
           case neg => rw [if_neg c6] at H; exact absurd H (by simp)
           rw [if_pos c6] at H
           have c6b0 : decide (0 ≤ x3_2) = true := decide_eq_true c6
           clear c6
           replace H := Option.bind_eq_some_iff.mp H
           obtain ⟨t122, A70, H⟩ := H
           (try dsimp only at H)
           have A7 := Aside0.mk A70
           clear A70
           by_cases c8 : t122 = true
           · subst c8
             (try rw [if_pos rfl] at H)
             replace H := Option.bind_eq_some_iff.mp H
             obtain ⟨t124, A90, H⟩ := H
             (try dsimp only at H)
             have A9 := Aside0.mk A90
             clear A90
             by_cases c10 : t124 = true
             · subst c10
               (try rw [if_pos rfl] at H)
               have H' := Aside0.mk H
               clear H
               have p121 : 0 ≤ (x3_2 : Int) := of_decide_eq_true (by first | (with_reducible assumption) | assumption)
               have q121 : x3_2 < (l0.length : Int) := of_decide_eq_true (by first | (with_reducible assumption) | assumption)
               obtain ⟨ad121, e121, hx121_0, hx121_1⟩ := at_T58 HR0.out x3_2 p121 q121
               cases e121
               replace p121 := eq_true p121
               replace q121 := eq_true q121
               go_wp2_with (first | ((with_reducible refine gate_callee (f := 57) rfl ?_); refine goesL_ (some 23) rfl rfl Tryd.func57 (by kernel_rfl) rfl #[.int .i64 ((rd_T58 l0 x3_2).f0), .int .i64 0, .int .i64 999] rfl (by (try simp only [List.map_toArray, List.map_cons, List.map_nil]); first | done | rfl | (simp only [List.length_drop, List.length_take]; rfl)) ?_; (with_reducible refine (spec_l1In.calls ((rd_T58 l0 x3_2).f0) 0 999 true _ A7.out).mono ?_); rintro e w' ⟨rfl, ⟨nd, rfl⟩⟩; refine ⟨_, rfl, ?_⟩; have p123 : 0 ≤ (x3_2 : Int) := of_decide_eq_true (by first | (with_reducible assumption) | assumption); have q123 : x3_2 < (l0.length : Int) := of_decide_eq_true (by first | (with_reducible assumption) | assumption); obtain ⟨ad123, e123, hx123_0, hx123_1⟩ := at_T58 HR0.out x3_2 p123 q123; obtain rfl : ad121 = ad123 := (by injection e123); replace p123 := eq_true p123; replace q123 := eq_true q123) | (go_at_call 57; (with_reducible refine (spec_l1In.calls ((rd_T58 l0 x3_2).f1) 0 999 true _ A9.out).mono ?_); rintro e w' ⟨rfl, ⟨nd, rfl⟩⟩))
               go_roundg k2
               case measure => have := HJ1.out; have := HK2.out; omega
               case rel => exact ⟨(wrap64 (x3_2 + 1)), (by first | rfl | (simp; done) | (simp [*]; done) | (simp; generalize ByteArray.toList _ = zq_; cases zq_ <;> rfl)), H', ⟨by have := HJ1.out; have := HK2.out; omega⟩, by repeat (first | exact Drawn0.refl _ | apply Drawn0.step)⟩
             · replace c10 := Bool.eq_false_iff.mpr c10
               subst c10
               (try rw [if_neg (show ¬ (false = true) by decide)] at H)
               obtain rfl := Option.some.inj H
               have p121 : 0 ≤ (x3_2 : Int) := of_decide_eq_true (by first | (with_reducible assumption) | assumption)
               have q121 : x3_2 < (l0.length : Int) := of_decide_eq_true (by first | (with_reducible assumption) | assumption)
               obtain ⟨ad121, e121, hx121_0, hx121_1⟩ := at_T58 HR0.out x3_2 p121 q121
               cases e121
               replace p121 := eq_true p121
               replace q121 := eq_true q121
               go_wp2_with (first | ((with_reducible refine gate_callee (f := 57) rfl ?_); refine goesL_ (some 23) rfl rfl Tryd.func57 (by kernel_rfl) rfl #[.int .i64 ((rd_T58 l0 x3_2).f0), .int .i64 0, .int .i64 999] rfl (by (try simp only [List.map_toArray, List.map_cons, List.map_nil]); first | done | rfl | (simp only [List.length_drop, List.length_take]; rfl)) ?_; (with_reducible refine (spec_l1In.calls ((rd_T58 l0 x3_2).f0) 0 999 true _ A7.out).mono ?_); rintro e w' ⟨rfl, ⟨nd, rfl⟩⟩; refine ⟨_, rfl, ?_⟩; have p123 : 0 ≤ (x3_2 : Int) := of_decide_eq_true (by first | (with_reducible assumption) | assumption); have q123 : x3_2 < (l0.length : Int) := of_decide_eq_true (by first | (with_reducible assumption) | assumption); obtain ⟨ad123, e123, hx123_0, hx123_1⟩ := at_T58 HR0.out x3_2 p123 q123; obtain rfl : ad121 = ad123 := (by injection e123); replace p123 := eq_true p123; replace q123 := eq_true q123) | (go_at_call 57; (with_reducible refine (spec_l1In.calls ((rd_T58 l0 x3_2).f1) 0 999 false _ A9.out).mono ?_); rintro e w' ⟨rfl, ⟨nd, rfl⟩⟩))
               go_ret
               exact ⟨by first | rfl | (simp; done) | (simp [*]; done) | (simp; generalize ByteArray.toList _ = zq_; cases zq_ <;> rfl), by repeat (first | exact Drawn0.refl _ | apply Drawn0.step)⟩
           · replace c8 := Bool.eq_false_iff.mpr c8
             subst c8
             (try rw [if_neg (show ¬ (false = true) by decide)] at H)
             obtain rfl := Option.some.inj H
             have p121 : 0 ≤ (x3_2 : Int) := of_decide_eq_true (by first | (with_reducible assumption) | assumption)
             have q121 : x3_2 < (l0.length : Int) := of_decide_eq_true (by first | (with_reducible assumption) | assumption)
             obtain ⟨ad121, e121, hx121_0, hx121_1⟩ := at_T58 HR0.out x3_2 p121 q121
             cases e121
             replace p121 := eq_true p121
             replace q121 := eq_true q121
             go_wp2_with (first | ((with_reducible refine gate_callee (f := 57) rfl ?_); refine goesL_ (some 23) rfl rfl Tryd.func57 (by kernel_rfl) rfl #[.int .i64 ((rd_T58 l0 x3_2).f0), .int .i64 0, .int .i64 999] rfl (by (try simp only [List.map_toArray, List.map_cons, List.map_nil]); first | done | rfl | (simp only [List.length_drop, List.length_take]; rfl)) ?_; (with_reducible refine (spec_l1In.calls ((rd_T58 l0 x3_2).f0) 0 999 false _ A7.out).mono ?_); rintro e w' ⟨rfl, ⟨nd, rfl⟩⟩; refine ⟨_, rfl, ?_⟩))
             go_ret
             exact ⟨by first | rfl | (simp; done) | (simp [*]; done) | (simp; generalize ByteArray.toList _ = zq_; cases zq_ <;> rfl), by repeat (first | exact Drawn0.refl _ | apply Drawn0.step)⟩
         · rw [if_neg c5] at H
           have c5b0 : decide (x3_2 < (l0.length : Int)) = false := decide_eq_false c5
           clear c5
           obtain rfl := Option.some.inj H
           go_wp2
           go_ret
           exact ⟨by first | rfl | (simp; done) | (simp [*]; done) | (simp; generalize ByteArray.toList _ = zq_; cases zq_ <;> rfl), by repeat (first | exact Drawn0.refl _ | apply Drawn0.step)⟩

/-! ### spec_l2Char: function 114 -/
def spec_l2Char.f (a0 : Int) : Option (Bool) := (spec_l1In.f a0 0 55295).bind fun t125 => (if t125 = true then (some true) else ((spec_l1In.f a0 57344 65535).bind fun t126 => (some t126)))
set_option maxHeartbeats 8000000 in
set_option maxRecDepth 100000 in
theorem spec_l2Char.calls (a0 : Int) (r : Bool) (w : World) (h : spec_l2Char.f a0 = some r) :
 Calls Tryd.prog 114 #[.int .i64 a0] w fun e w' => e = .returned (.bool r) ∧ Drawn0 w w' := by
 have H : ((spec_l1In.f a0 0 55295).bind fun t125 => (if t125 = true then (some true) else ((spec_l1In.f a0 57344 65535).bind fun t126 => (some t126)))) = some r := h
 clear h
 replace H := Option.bind_eq_some_iff.mp H
 obtain ⟨t125, A20, H⟩ := H
 (try dsimp only at H)
 have A2 := Aside0.mk A20
 clear A20
 by_cases c3 : t125 = true
 · subst c3
   (try rw [if_pos rfl] at H)
   obtain rfl := Option.some.inj H
   go_enter Tryd.func114, Tryd.ntmps114
   go_wp2_with (first | ((with_reducible refine gate_callee (f := 57) rfl ?_); refine goesL_ (some 4) rfl rfl Tryd.func57 (by kernel_rfl) rfl #[.int .i64 a0, .int .i64 0, .int .i64 55295] rfl (by (try simp only [List.map_toArray, List.map_cons, List.map_nil]); first | done | rfl | (simp only [List.length_drop, List.length_take]; rfl)) ?_; (with_reducible refine (spec_l1In.calls a0 0 55295 true _ A2.out).mono ?_); rintro e w' ⟨rfl, ⟨nd, rfl⟩⟩; refine ⟨_, rfl, ?_⟩))
   go_ret
   exact ⟨by first | rfl | (simp; done) | (simp [*]; done) | (simp; generalize ByteArray.toList _ = zq_; cases zq_ <;> rfl), by repeat (first | exact Drawn0.refl _ | apply Drawn0.step)⟩
 · replace c3 := Bool.eq_false_iff.mpr c3
   subst c3
   (try rw [if_neg (show ¬ (false = true) by decide)] at H)
   replace H := Option.bind_eq_some_iff.mp H
   obtain ⟨t126, A40, H⟩ := H
   replace H : (some t126) = some r := H
   have A4 := Aside0.mk A40
   clear A40
   obtain rfl := Option.some.inj H
   go_enter Tryd.func114, Tryd.ntmps114
   go_wp2_with (first | ((with_reducible refine gate_callee (f := 57) rfl ?_); refine goesL_ (some 4) rfl rfl Tryd.func57 (by kernel_rfl) rfl #[.int .i64 a0, .int .i64 0, .int .i64 55295] rfl (by (try simp only [List.map_toArray, List.map_cons, List.map_nil]); first | done | rfl | (simp only [List.length_drop, List.length_take]; rfl)) ?_; (with_reducible refine (spec_l1In.calls a0 0 55295 false _ A2.out).mono ?_); rintro e w' ⟨rfl, ⟨nd, rfl⟩⟩; refine ⟨_, rfl, ?_⟩) | (go_at_call 57; (with_reducible refine (spec_l1In.calls a0 57344 65535 t126 _ A4.out).mono ?_); rintro e w' ⟨rfl, ⟨nd, rfl⟩⟩))
   go_ret
   exact ⟨by first | rfl | (simp; done) | (simp [*]; done) | (simp; generalize ByteArray.toList _ = zq_; cases zq_ <;> rfl), by repeat (first | exact Drawn0.refl _ | apply Drawn0.step)⟩

/-! ### spec_l12Codes: function 98 -/
def spec_l12Codes.l0 : Nat → List Int → Int → Option (Bool)
 | 0, _, _ => none
 | k + 1, x0, x3 => if x3 < (x0.length : Int) then (if 0 ≤ x3 then ((spec_l2Char.f (rd x0 x3)).bind fun t128 => (if t128 = true then (if (rd x0 x3) < 33 then (some false) else (if (rd x0 x3) = 127 then (some false) else (spec_l12Codes.l0 k x0 (wrap64 (x3 + 1))))) else (some false))) else (none)) else ((spec_l1In.f (x0.length : Int) 1 20).bind fun t131 => (some t131))
def spec_l12Codes.f (k : Nat) (l0 : List Int) : Option (Bool) := spec_l12Codes.l0 k l0 0
set_option maxHeartbeats 8000000 in
set_option maxRecDepth 100000 in
theorem spec_l12Codes.calls (k : Nat) (A0 : Option Addr) (c0 : Nat) (l0 : List Int) (r : Bool) (w : World) (hr0 : Kd.C (Kd.int .i64) w A0 l0.length l0) (hc0 : l0.length ≤ c0) (h : spec_l12Codes.f k l0 = some r) :
 Calls Tryd.prog 98 #[.slice A0 l0.length c0] w fun e w' => e = .returned (.bool r) ∧ Drawn0 w w' := by
 have HR0 := Aside0.mk hr0
 have HC0 := Aside0.mk hc0
 clear hr0 hc0
 have H : (spec_l12Codes.l0 k l0 0) = some r := h
 clear h
 have H' := Aside0.mk H
 clear H
 go_enter Tryd.func98, Tryd.ntmps98
 go_wp2
 go_loopg [3] k (fun kq v3 w' => ∃ (x3_1 : Int), v3 = .int .i64 x3_1 ∧ Aside0 (spec_l12Codes.l0 kq l0 x3_1 = some r) ∧ Aside0 (kq ≤ k) ∧ Drawn0 w w')
 case atStart => exact ⟨(0), (by first | rfl | (simp; done) | (simp [*]; done) | (simp; generalize ByteArray.toList _ = zq_; cases zq_ <;> rfl)), H', ⟨Nat.le_refl _⟩, by repeat (first | exact Drawn0.refl _ | apply Drawn0.step)⟩
 case round =>
  clear H'
  obtain ⟨x3_1, rfl, HA, HK1, ⟨m1, rfl⟩⟩ := hrel
  cases gk with
  | zero => exact absurd HA.out (by simp [spec_l12Codes.l0])
  | succ k1 =>
    have H := HA.out
    clear HA
    simp only [spec_l12Codes.l0] at H
    by_cases c2 : x3_1 < (l0.length : Int)
    · rw [if_pos c2] at H
      have c2b0 : decide (x3_1 < (l0.length : Int)) = true := decide_eq_true c2
      clear c2
      by_cases c3 : 0 ≤ x3_1
      case neg => rw [if_neg c3] at H; exact absurd H (by simp)
      rw [if_pos c3] at H
      have c3b0 : decide (0 ≤ x3_1) = true := decide_eq_true c3
      clear c3
      replace H := Option.bind_eq_some_iff.mp H
      obtain ⟨t128, A40, H⟩ := H
      (try dsimp only at H)
      have A4 := Aside0.mk A40
      clear A40
      by_cases c5 : t128 = true
      · subst c5
        (try rw [if_pos rfl] at H)
        by_cases c6 : (rd l0 x3_1) < 33
        · rw [if_pos c6] at H
          have c6b0 : decide ((rd l0 x3_1) < 33) = true := decide_eq_true c6
          clear c6
          obtain rfl := Option.some.inj H
          have p127 : 0 ≤ (x3_1 : Int) := of_decide_eq_true (by first | (with_reducible assumption) | assumption)
          have q127 : x3_1 < (l0.length : Int) := of_decide_eq_true (by first | (with_reducible assumption) | assumption)
          obtain ⟨ad127, e127, hx127_0⟩ := Kd.at_int HR0.out x3_1 p127 q127
          cases e127
          replace p127 := eq_true p127
          replace q127 := eq_true q127
          go_wp2_with (first | ((with_reducible refine gate_callee (f := 114) rfl ?_); refine goesL_ (some 14) rfl rfl Tryd.func114 (by kernel_rfl) rfl #[.int .i64 (rd l0 x3_1)] rfl (by (try simp only [List.map_toArray, List.map_cons, List.map_nil]); first | done | rfl | (simp only [List.length_drop, List.length_take]; rfl)) ?_; (with_reducible refine (spec_l2Char.calls (rd l0 x3_1) true _ A4.out).mono ?_); rintro e w' ⟨rfl, ⟨nd, rfl⟩⟩; refine ⟨_, rfl, ?_⟩; have p129 : 0 ≤ (x3_1 : Int) := of_decide_eq_true (by first | (with_reducible assumption) | assumption); have q129 : x3_1 < (l0.length : Int) := of_decide_eq_true (by first | (with_reducible assumption) | assumption); obtain ⟨ad129, e129, hx129_0⟩ := Kd.at_int HR0.out x3_1 p129 q129; obtain rfl : ad127 = ad129 := (by injection e129); replace p129 := eq_true p129; replace q129 := eq_true q129))
          go_ret
          exact ⟨by first | rfl | (simp; done) | (simp [*]; done) | (simp; generalize ByteArray.toList _ = zq_; cases zq_ <;> rfl), by repeat (first | exact Drawn0.refl _ | apply Drawn0.step)⟩
        · rw [if_neg c6] at H
          have c6b0 : decide ((rd l0 x3_1) < 33) = false := decide_eq_false c6
          clear c6
          by_cases c7 : (rd l0 x3_1) = 127
          · rw [if_pos c7] at H
            have c7b0 : ((rd l0 x3_1) == 127) = true := beq_iff_eq.mpr c7
            have c7b1 : ((rd l0 x3_1) != 127) = false := bne_eq_false_iff_eq.mpr c7
            clear c7
            obtain rfl := Option.some.inj H
            have p127 : 0 ≤ (x3_1 : Int) := of_decide_eq_true (by first | (with_reducible assumption) | assumption)
            have q127 : x3_1 < (l0.length : Int) := of_decide_eq_true (by first | (with_reducible assumption) | assumption)
            obtain ⟨ad127, e127, hx127_0⟩ := Kd.at_int HR0.out x3_1 p127 q127
            cases e127
            replace p127 := eq_true p127
            replace q127 := eq_true q127
            go_wp2_with (first | ((with_reducible refine gate_callee (f := 114) rfl ?_); refine goesL_ (some 14) rfl rfl Tryd.func114 (by kernel_rfl) rfl #[.int .i64 (rd l0 x3_1)] rfl (by (try simp only [List.map_toArray, List.map_cons, List.map_nil]); first | done | rfl | (simp only [List.length_drop, List.length_take]; rfl)) ?_; (with_reducible refine (spec_l2Char.calls (rd l0 x3_1) true _ A4.out).mono ?_); rintro e w' ⟨rfl, ⟨nd, rfl⟩⟩; refine ⟨_, rfl, ?_⟩; have p129 : 0 ≤ (x3_1 : Int) := of_decide_eq_true (by first | (with_reducible assumption) | assumption); have q129 : x3_1 < (l0.length : Int) := of_decide_eq_true (by first | (with_reducible assumption) | assumption); obtain ⟨ad129, e129, hx129_0⟩ := Kd.at_int HR0.out x3_1 p129 q129; obtain rfl : ad127 = ad129 := (by injection e129); replace p129 := eq_true p129; replace q129 := eq_true q129; have p130 : 0 ≤ (x3_1 : Int) := of_decide_eq_true (by first | (with_reducible assumption) | assumption); have q130 : x3_1 < (l0.length : Int) := of_decide_eq_true (by first | (with_reducible assumption) | assumption); obtain ⟨ad130, e130, hx130_0⟩ := Kd.at_int HR0.out x3_1 p130 q130; obtain rfl : ad127 = ad130 := (by injection e130); replace p130 := eq_true p130; replace q130 := eq_true q130))
            go_ret
            exact ⟨by first | rfl | (simp; done) | (simp [*]; done) | (simp; generalize ByteArray.toList _ = zq_; cases zq_ <;> rfl), by repeat (first | exact Drawn0.refl _ | apply Drawn0.step)⟩
          · rw [if_neg c7] at H
            have c7b0 : ((rd l0 x3_1) == 127) = false := beq_eq_false_iff_ne.mpr c7
            have c7b1 : ((rd l0 x3_1) != 127) = true := bne_iff_ne.mpr c7
            have H' := Aside0.mk H
            clear H
            have p127 : 0 ≤ (x3_1 : Int) := of_decide_eq_true (by first | (with_reducible assumption) | assumption)
            have q127 : x3_1 < (l0.length : Int) := of_decide_eq_true (by first | (with_reducible assumption) | assumption)
            obtain ⟨ad127, e127, hx127_0⟩ := Kd.at_int HR0.out x3_1 p127 q127
            cases e127
            replace p127 := eq_true p127
            replace q127 := eq_true q127
            go_wp2_with (first | ((with_reducible refine gate_callee (f := 114) rfl ?_); refine goesL_ (some 14) rfl rfl Tryd.func114 (by kernel_rfl) rfl #[.int .i64 (rd l0 x3_1)] rfl (by (try simp only [List.map_toArray, List.map_cons, List.map_nil]); first | done | rfl | (simp only [List.length_drop, List.length_take]; rfl)) ?_; (with_reducible refine (spec_l2Char.calls (rd l0 x3_1) true _ A4.out).mono ?_); rintro e w' ⟨rfl, ⟨nd, rfl⟩⟩; refine ⟨_, rfl, ?_⟩; have p129 : 0 ≤ (x3_1 : Int) := of_decide_eq_true (by first | (with_reducible assumption) | assumption); have q129 : x3_1 < (l0.length : Int) := of_decide_eq_true (by first | (with_reducible assumption) | assumption); obtain ⟨ad129, e129, hx129_0⟩ := Kd.at_int HR0.out x3_1 p129 q129; obtain rfl : ad127 = ad129 := (by injection e129); replace p129 := eq_true p129; replace q129 := eq_true q129; have p130 : 0 ≤ (x3_1 : Int) := of_decide_eq_true (by first | (with_reducible assumption) | assumption); have q130 : x3_1 < (l0.length : Int) := of_decide_eq_true (by first | (with_reducible assumption) | assumption); obtain ⟨ad130, e130, hx130_0⟩ := Kd.at_int HR0.out x3_1 p130 q130; obtain rfl : ad127 = ad130 := (by injection e130); replace p130 := eq_true p130; replace q130 := eq_true q130))
            go_roundg k1
            case measure => have := HK1.out; omega
            case rel => exact ⟨(wrap64 (x3_1 + 1)), (by first | rfl | (simp; done) | (simp [*]; done) | (simp; generalize ByteArray.toList _ = zq_; cases zq_ <;> rfl)), H', ⟨by have := HK1.out; omega⟩, by repeat (first | exact Drawn0.refl _ | apply Drawn0.step)⟩
      · replace c5 := Bool.eq_false_iff.mpr c5
        subst c5
        (try rw [if_neg (show ¬ (false = true) by decide)] at H)
        obtain rfl := Option.some.inj H
        have p127 : 0 ≤ (x3_1 : Int) := of_decide_eq_true (by first | (with_reducible assumption) | assumption)
        have q127 : x3_1 < (l0.length : Int) := of_decide_eq_true (by first | (with_reducible assumption) | assumption)
        obtain ⟨ad127, e127, hx127_0⟩ := Kd.at_int HR0.out x3_1 p127 q127
        cases e127
        replace p127 := eq_true p127
        replace q127 := eq_true q127
        go_wp2_with (first | ((with_reducible refine gate_callee (f := 114) rfl ?_); refine goesL_ (some 14) rfl rfl Tryd.func114 (by kernel_rfl) rfl #[.int .i64 (rd l0 x3_1)] rfl (by (try simp only [List.map_toArray, List.map_cons, List.map_nil]); first | done | rfl | (simp only [List.length_drop, List.length_take]; rfl)) ?_; (with_reducible refine (spec_l2Char.calls (rd l0 x3_1) false _ A4.out).mono ?_); rintro e w' ⟨rfl, ⟨nd, rfl⟩⟩; refine ⟨_, rfl, ?_⟩))
        go_ret
        exact ⟨by first | rfl | (simp; done) | (simp [*]; done) | (simp; generalize ByteArray.toList _ = zq_; cases zq_ <;> rfl), by repeat (first | exact Drawn0.refl _ | apply Drawn0.step)⟩
    · rw [if_neg c2] at H
      have c2b0 : decide (x3_1 < (l0.length : Int)) = false := decide_eq_false c2
      clear c2
      replace H := Option.bind_eq_some_iff.mp H
      obtain ⟨t131, A80, H⟩ := H
      replace H : (some t131) = some r := H
      have A8 := Aside0.mk A80
      clear A80
      obtain rfl := Option.some.inj H
      go_wp2_with (first | ((with_reducible refine gate_callee (f := 57) rfl ?_); refine goesL_ (some 32) rfl rfl Tryd.func57 (by kernel_rfl) rfl #[.int .i64 (l0.length : Int), .int .i64 1, .int .i64 20] rfl (by (try simp only [List.map_toArray, List.map_cons, List.map_nil]); first | done | rfl | (simp only [List.length_drop, List.length_take]; rfl)) ?_; (with_reducible refine (spec_l1In.calls (l0.length : Int) 1 20 t131 _ A8.out).mono ?_); rintro e w' ⟨rfl, ⟨nd, rfl⟩⟩; refine ⟨_, rfl, ?_⟩))
      go_ret
      exact ⟨by first | rfl | (simp; done) | (simp [*]; done) | (simp; generalize ByteArray.toList _ = zq_; cases zq_ <;> rfl), by repeat (first | exact Drawn0.refl _ | apply Drawn0.step)⟩

/-! ### spec_l12Value: function 71 -/
mutual
def spec_l12Value.j0 : Nat → List (S72) → Bool → Int → Bool → Option (Int)
 | 0, _, _, _, _ => none
 | k + 1, x0, x3, x7, x36 => if x36 = true then (if 0 < (x0.length : Int) then ((spec_l1In.f ((rd_T72 x0 0).f1) 0 9999).bind fun t135 => (if t135 = true then (some 0) else (some 3))) else (none)) else (if x7 = 5 then (if 0 < (x0.length : Int) then ((spec_l1In.f ((rd_T72 x0 0).f1) 0 400).bind fun t137 => (if t137 = true then (some 0) else (some 3))) else (none)) else (if x7 = 6 then (spec_l12Value.j1 k x0 x3 x7 (x7 == 6)) else (spec_l12Value.j1 k x0 x3 x7 (x7 == 7))))
def spec_l12Value.j1 : Nat → List (S72) → Bool → Int → Bool → Option (Int)
 | 0, _, _, _, _ => none
 | k + 1, x0, x3, x7, x51 => if x51 = true then (if 0 < (x0.length : Int) then ((spec_l12Codes.f k ((rd_T72 x0 0).f2)).bind fun t139 => (if t139 = true then (some 0) else (some 3))) else (none)) else (if x7 = 8 then (if 0 < (x0.length : Int) then ((spec_l11Fault.f k ((rd_T72 x0 0).f3)).bind fun t141 => (some t141)) else (none)) else (if x3 = true then (some 0) else (some 3)))
end
def spec_l12Value.f (k : Nat) (l0 : List (S72)) : Option (Int) := if 0 < (l0.length : Int) then (if ((rd_T72 l0 0).f0) = 2 then (if ((rd_T72 l0 0).f1) = 1 then (some 0) else (if ((rd_T72 l0 0).f1) = 2 then (some 0) else (if ((rd_T72 l0 0).f1) = 4 then (some 0) else (if (((rd_T72 l0 0).f1) = 8) then (some 0) else (some 3))))) else (if ((rd_T72 l0 0).f0) = 3 then (spec_l12Value.j0 k l0 true ((rd_T72 l0 0).f0) (((rd_T72 l0 0).f0) == 3)) else (spec_l12Value.j0 k l0 true ((rd_T72 l0 0).f0) (((rd_T72 l0 0).f0) == 4)))) else (none)
set_option maxHeartbeats 8000000 in
set_option maxRecDepth 100000 in
theorem spec_l12Value.calls (k : Nat) (A0 : Option Addr) (c0 : Nat) (l0 : List (S72)) (r : Int) (w : World) (hr0 : Kd.C k72 w A0 l0.length l0) (hc0 : l0.length ≤ c0) (h : spec_l12Value.f k l0 = some r) :
 Calls Tryd.prog 71 #[.pointer A0] w fun e w' => e = .returned (.int .i64 r) ∧ Drawn0 w w' := by
 have HR0 := Aside0.mk hr0
 have HC0 := Aside0.mk hc0
 clear hr0 hc0
 have H : (if 0 < (l0.length : Int) then (if ((rd_T72 l0 0).f0) = 2 then (if ((rd_T72 l0 0).f1) = 1 then (some 0) else (if ((rd_T72 l0 0).f1) = 2 then (some 0) else (if ((rd_T72 l0 0).f1) = 4 then (some 0) else (if (((rd_T72 l0 0).f1) = 8) then (some 0) else (some 3))))) else (if ((rd_T72 l0 0).f0) = 3 then (spec_l12Value.j0 k l0 true ((rd_T72 l0 0).f0) (((rd_T72 l0 0).f0) == 3)) else (spec_l12Value.j0 k l0 true ((rd_T72 l0 0).f0) (((rd_T72 l0 0).f0) == 4)))) else (none)) = some r := h
 clear h
 by_cases c2 : 0 < (l0.length : Int)
 · rw [if_pos c2] at H
   have c2b0 : decide (0 < (l0.length : Int)) = true := decide_eq_true c2
   have c2b1 : decide (0 < l0.length) = true := decide_eq_true (by omega)
   clear c2
   have p132 : 0 ≤ (0 : Int) := (by omega)
   have q132 : 0 < (l0.length : Int) := of_decide_eq_true (by first | (with_reducible assumption) | assumption)
   obtain ⟨ad132, A132_2, c132_2, A132_3, c132_3, e132, hx132_0, hx132_1, hx132_2, hx132_3, hx132_4, hx132_5, hl132_2, hi132_2, hl132_3, hi132_3⟩ := at_T72 HR0.out 0 p132 q132
   cases e132
   have qi132 : (0 < l0.length) = True := eq_true (by omega)
   (try simp only [Int.toNat_zero, Nat.zero_mul, Addr.add_zero'] at hx132_0 hx132_1 hx132_2 hx132_3 hx132_4 hx132_5)
   have HR132_2 := Aside0.mk hi132_2
   have HC132_2 := Aside0.mk hl132_2
   clear hi132_2 hl132_2
   have HR132_3 := Aside0.mk hi132_3
   have HC132_3 := Aside0.mk hl132_3
   clear hi132_3 hl132_3
   replace p132 := eq_true p132
   replace q132 := eq_true q132
   by_cases c3 : ((rd_T72 l0 0).f0) = 2
   · rw [if_pos c3] at H
     have c3b0 : (((rd_T72 l0 0).f0) == 2) = true := beq_iff_eq.mpr c3
     have c3b1 : (((rd_T72 l0 0).f0) != 2) = false := bne_eq_false_iff_eq.mpr c3
     clear c3
     (try simp only [c3b0, c3b1])
     have p133 : 0 ≤ (0 : Int) := (by omega)
     have q133 : 0 < (l0.length : Int) := of_decide_eq_true (by first | (with_reducible assumption) | assumption)
     obtain ⟨ad133, A133_2, c133_2, A133_3, c133_3, e133, hx133_0, hx133_1, hx133_2, hx133_3, hx133_4, hx133_5, hl133_2, hi133_2, hl133_3, hi133_3⟩ := at_T72 HR0.out 0 p133 q133
     obtain rfl : ad132 = ad133 := (by injection e133)
     have qi133 : (0 < l0.length) = True := eq_true (by omega)
     (try simp only [Int.toNat_zero, Nat.zero_mul, Addr.add_zero'] at hx133_0 hx133_1 hx133_2 hx133_3 hx133_4 hx133_5)
     have HR133_2 := Aside0.mk hi133_2
     have HC133_2 := Aside0.mk hl133_2
     clear hi133_2 hl133_2
     have HR133_3 := Aside0.mk hi133_3
     have HC133_3 := Aside0.mk hl133_3
     clear hi133_3 hl133_3
     replace p133 := eq_true p133
     replace q133 := eq_true q133
     have ea_ := Option.some.inj (hx132_2.symm.trans hx133_2)
     injection ea_ with ea_ en_ ec_
     subst ea_
     subst ec_
     clear en_
     have ea_ := Option.some.inj (hx132_3.symm.trans hx133_3)
     injection ea_ with ea_ en_ ec_
     subst ea_
     subst ec_
     clear en_
     (try clear hx133_0)
     (try clear hx133_1)
     (try clear hx133_2)
     (try clear hx133_3)
     (try clear hx133_4)
     (try clear hx133_5)
     (try clear qi133)
     go_enter Tryd.func71, Tryd.ntmps71
     by_cases c4 : ((rd_T72 l0 0).f1) = 1
     · rw [if_pos c4] at H
       have c4b0 : (((rd_T72 l0 0).f1) == 1) = true := beq_iff_eq.mpr c4
       have c4b1 : (((rd_T72 l0 0).f1) != 1) = false := bne_eq_false_iff_eq.mpr c4
       clear c4
       obtain rfl := Option.some.inj H
       (try simp only [c4b0, c4b1])
       go_wp2
       go_ret
       exact ⟨by first | rfl | (simp; done) | (simp [*]; done) | (simp; generalize ByteArray.toList _ = zq_; cases zq_ <;> rfl), by repeat (first | exact Drawn0.refl _ | apply Drawn0.step)⟩
     · rw [if_neg c4] at H
       have c4b0 : (((rd_T72 l0 0).f1) == 1) = false := beq_eq_false_iff_ne.mpr c4
       have c4b1 : (((rd_T72 l0 0).f1) != 1) = true := bne_iff_ne.mpr c4
       (try simp only [c4b0, c4b1])
       by_cases c5 : ((rd_T72 l0 0).f1) = 2
       · rw [if_pos c5] at H
         have c5b0 : (((rd_T72 l0 0).f1) == 2) = true := beq_iff_eq.mpr c5
         have c5b1 : (((rd_T72 l0 0).f1) != 2) = false := bne_eq_false_iff_eq.mpr c5
         clear c5
         obtain rfl := Option.some.inj H
         (try simp only [c5b0, c5b1])
         go_wp2
         go_ret
         exact ⟨by first | rfl | (simp; done) | (simp [*]; done) | (simp; generalize ByteArray.toList _ = zq_; cases zq_ <;> rfl), by repeat (first | exact Drawn0.refl _ | apply Drawn0.step)⟩
       · rw [if_neg c5] at H
         have c5b0 : (((rd_T72 l0 0).f1) == 2) = false := beq_eq_false_iff_ne.mpr c5
         have c5b1 : (((rd_T72 l0 0).f1) != 2) = true := bne_iff_ne.mpr c5
         (try simp only [c5b0, c5b1])
         by_cases c6 : ((rd_T72 l0 0).f1) = 4
         · rw [if_pos c6] at H
           have c6b0 : (((rd_T72 l0 0).f1) == 4) = true := beq_iff_eq.mpr c6
           have c6b1 : (((rd_T72 l0 0).f1) != 4) = false := bne_eq_false_iff_eq.mpr c6
           clear c6
           obtain rfl := Option.some.inj H
           (try simp only [c6b0, c6b1])
           go_wp2
           go_ret
           exact ⟨by first | rfl | (simp; done) | (simp [*]; done) | (simp; generalize ByteArray.toList _ = zq_; cases zq_ <;> rfl), by repeat (first | exact Drawn0.refl _ | apply Drawn0.step)⟩
         · rw [if_neg c6] at H
           have c6b0 : (((rd_T72 l0 0).f1) == 4) = false := beq_eq_false_iff_ne.mpr c6
           have c6b1 : (((rd_T72 l0 0).f1) != 4) = true := bne_iff_ne.mpr c6
           (try simp only [c6b0, c6b1])
           by_cases c7 : (((rd_T72 l0 0).f1) = 8)
           · rw [if_pos c7] at H
             have c7b0 : (((rd_T72 l0 0).f1) == 8) = true := beq_iff_eq.mpr c7
             have c7b1 : (((rd_T72 l0 0).f1) != 8) = false := bne_eq_false_iff_eq.mpr c7
             clear c7
             obtain rfl := Option.some.inj H
             (try simp only [c7b0, c7b1])
             go_wp2
             go_ret
             exact ⟨by first | rfl | (simp; done) | (simp [*]; done) | (simp; generalize ByteArray.toList _ = zq_; cases zq_ <;> rfl), by repeat (first | exact Drawn0.refl _ | apply Drawn0.step)⟩
           · rw [if_neg c7] at H
             have c7b0 : (((rd_T72 l0 0).f1) == 8) = false := beq_eq_false_iff_ne.mpr c7
             have c7b1 : (((rd_T72 l0 0).f1) != 8) = true := bne_iff_ne.mpr c7
             obtain rfl := Option.some.inj H
             (try simp only [c7b0, c7b1])
             go_wp2
             go_ret
             exact ⟨by first | rfl | (simp; done) | (simp [*]; done) | (simp; generalize ByteArray.toList _ = zq_; cases zq_ <;> rfl), by repeat (first | exact Drawn0.refl _ | apply Drawn0.step)⟩
   · rw [if_neg c3] at H
     have c3b0 : (((rd_T72 l0 0).f0) == 2) = false := beq_eq_false_iff_ne.mpr c3
     have c3b1 : (((rd_T72 l0 0).f0) != 2) = true := bne_iff_ne.mpr c3
     have HC8 := Aside0.mk H
     clear H
     (try simp only [c3b0, c3b1])
     go_enter Tryd.func71, Tryd.ntmps71
     go_upto_if 36 with (fail)
     go_cut [36] (fun v36 wc => ∃ (kq : Nat) (x36_7 : Bool), v36 = .bool x36_7 ∧ Aside0 (spec_l12Value.j0 kq l0 true ((rd_T72 l0 0).f0) x36_7 = some r) ∧ Aside0 (kq ≤ k) ∧ Drawn0 w wc)
     case first =>
      have H := HC8.out
      clear HC8
      by_cases c9 : ((rd_T72 l0 0).f0) = 3
      · rw [if_pos c9] at H
        have c9b0 : (((rd_T72 l0 0).f0) == 3) = true := beq_iff_eq.mpr c9
        have c9b1 : (((rd_T72 l0 0).f0) != 3) = false := bne_eq_false_iff_eq.mpr c9
        clear c9
        (first | rw [c9b0] | (simp only [i64_w, i32_w]; rw [c9b0]) | skip)
        have H' := Aside0.mk H
        clear H
        go_wp2
        go_meet
        case rel => exact ⟨_, ((((rd_T72 l0 0).f0) == 3)), (by first | rfl | (simp; done) | (simp [*]; done) | (simp; generalize ByteArray.toList _ = zq_; cases zq_ <;> rfl)), H', ⟨by first | omega | exact Nat.le_refl _⟩, by repeat (first | exact Drawn0.refl _ | apply Drawn0.step)⟩
      · rw [if_neg c9] at H
        have c9b0 : (((rd_T72 l0 0).f0) == 3) = false := beq_eq_false_iff_ne.mpr c9
        have c9b1 : (((rd_T72 l0 0).f0) != 3) = true := bne_iff_ne.mpr c9
        (first | rw [c9b0] | (simp only [i64_w, i32_w]; rw [c9b0]) | skip)
        have H' := Aside0.mk H
        clear H
        go_wp2
        go_meet
        case rel => exact ⟨_, ((((rd_T72 l0 0).f0) == 4)), (by first | rfl | (simp; done) | (simp [*]; done) | (simp; generalize ByteArray.toList _ = zq_; cases zq_ <;> rfl)), H', ⟨by first | omega | exact Nat.le_refl _⟩, by repeat (first | exact Drawn0.refl _ | apply Drawn0.step)⟩
     case rest =>
      clear HC8
      try clear q1
      try clear hx1
      try clear qi1
      try clear c2
      try clear c2b0
      try clear c2b1
      try clear c3
      try clear c3b0
      try clear c3b1
      try clear hx132_0
      try clear hx132_1
      try clear hx132_2
      try clear hx132_3
      try clear hx132_4
      try clear hx132_5
      try clear hx133_0
      try clear hx133_1
      try clear hx133_2
      try clear hx133_3
      try clear hx133_4
      try clear hx133_5
      try clear p132
      try clear q132
      try clear q133
      obtain ⟨kq, x36_7, rfl, HA, HJ7, ⟨mc7, rfl⟩⟩ := hcut
      cases kq with
      | zero => exact absurd HA.out (by simp [spec_l12Value.j0])
      | succ kj7 =>
        have H := HA.out
        clear HA
        simp only [spec_l12Value.j0] at H
        by_cases c10 : x36_7 = true
        · subst c10
          (try rw [if_pos rfl] at H)
          by_cases c11 : 0 < (l0.length : Int)
          case neg => rw [if_neg c11] at H; exact absurd H (by simp)
          rw [if_pos c11] at H
          have c11b0 : decide (0 < (l0.length : Int)) = true := decide_eq_true c11
          have c11b1 : decide (0 < l0.length) = true := decide_eq_true (by omega)
          clear c11
          replace H := Option.bind_eq_some_iff.mp H
          obtain ⟨t135, A120, H⟩ := H
          replace H : (if t135 = true then (some 0) else (some 3)) = some r := H
          have A12 := Aside0.mk A120
          clear A120
          by_cases c13 : t135 = true
          · subst c13
            (try rw [if_pos rfl] at H)
            obtain rfl := Option.some.inj H
            have p134 : 0 ≤ (0 : Int) := (by omega)
            have q134 : 0 < (l0.length : Int) := of_decide_eq_true (by first | (with_reducible assumption) | assumption)
            obtain ⟨ad134, A134_2, c134_2, A134_3, c134_3, e134, hx134_0, hx134_1, hx134_2, hx134_3, hx134_4, hx134_5, hl134_2, hi134_2, hl134_3, hi134_3⟩ := at_T72 HR0.out 0 p134 q134
            obtain rfl : ad132 = ad134 := (by injection e134)
            have qi134 : (0 < l0.length) = True := eq_true (by omega)
            (try simp only [Int.toNat_zero, Nat.zero_mul, Addr.add_zero'] at hx134_0 hx134_1 hx134_2 hx134_3 hx134_4 hx134_5)
            have HR134_2 := Aside0.mk hi134_2
            have HC134_2 := Aside0.mk hl134_2
            clear hi134_2 hl134_2
            have HR134_3 := Aside0.mk hi134_3
            have HC134_3 := Aside0.mk hl134_3
            clear hi134_3 hl134_3
            replace p134 := eq_true p134
            replace q134 := eq_true q134
            (try clear hx132_0 hx132_1 hx132_2 hx132_3 hx132_4 hx132_5)
            (try clear hx132_0 hx132_1 hx132_2 hx132_3 hx132_4 hx132_5)
            (try clear hx132_0 hx132_1 hx132_2 hx132_3 hx132_4 hx132_5)
            (try clear hx132_0 hx132_1 hx132_2 hx132_3 hx132_4 hx132_5)
            (try clear hx132_0 hx132_1 hx132_2 hx132_3 hx132_4 hx132_5)
            (try clear hx132_0 hx132_1 hx132_2 hx132_3 hx132_4 hx132_5)
            go_wp2_with (first | ((with_reducible refine gate_callee (f := 57) rfl ?_); refine goesL_ (some 43) rfl rfl Tryd.func57 (by kernel_rfl) rfl #[.int .i64 ((rd_T72 l0 0).f1), .int .i64 0, .int .i64 9999] rfl (by (try simp only [List.map_toArray, List.map_cons, List.map_nil]); first | done | rfl | (simp only [List.length_drop, List.length_take]; rfl)) ?_; (with_reducible refine (spec_l1In.calls ((rd_T72 l0 0).f1) 0 9999 true _ A12.out).mono ?_); rintro e w' ⟨rfl, ⟨nd, rfl⟩⟩; refine ⟨_, rfl, ?_⟩))
            go_ret
            exact ⟨by first | rfl | (simp; done) | (simp [*]; done) | (simp; generalize ByteArray.toList _ = zq_; cases zq_ <;> rfl), by repeat (first | exact Drawn0.refl _ | apply Drawn0.step)⟩
          · replace c13 := Bool.eq_false_iff.mpr c13
            subst c13
            (try rw [if_neg (show ¬ (false = true) by decide)] at H)
            obtain rfl := Option.some.inj H
            have p134 : 0 ≤ (0 : Int) := (by omega)
            have q134 : 0 < (l0.length : Int) := of_decide_eq_true (by first | (with_reducible assumption) | assumption)
            obtain ⟨ad134, A134_2, c134_2, A134_3, c134_3, e134, hx134_0, hx134_1, hx134_2, hx134_3, hx134_4, hx134_5, hl134_2, hi134_2, hl134_3, hi134_3⟩ := at_T72 HR0.out 0 p134 q134
            obtain rfl : ad132 = ad134 := (by injection e134)
            have qi134 : (0 < l0.length) = True := eq_true (by omega)
            (try simp only [Int.toNat_zero, Nat.zero_mul, Addr.add_zero'] at hx134_0 hx134_1 hx134_2 hx134_3 hx134_4 hx134_5)
            have HR134_2 := Aside0.mk hi134_2
            have HC134_2 := Aside0.mk hl134_2
            clear hi134_2 hl134_2
            have HR134_3 := Aside0.mk hi134_3
            have HC134_3 := Aside0.mk hl134_3
            clear hi134_3 hl134_3
            replace p134 := eq_true p134
            replace q134 := eq_true q134
            (try clear hx132_0 hx132_1 hx132_2 hx132_3 hx132_4 hx132_5)
            (try clear hx132_0 hx132_1 hx132_2 hx132_3 hx132_4 hx132_5)
            (try clear hx132_0 hx132_1 hx132_2 hx132_3 hx132_4 hx132_5)
            (try clear hx132_0 hx132_1 hx132_2 hx132_3 hx132_4 hx132_5)
            (try clear hx132_0 hx132_1 hx132_2 hx132_3 hx132_4 hx132_5)
            (try clear hx132_0 hx132_1 hx132_2 hx132_3 hx132_4 hx132_5)
            go_wp2_with (first | ((with_reducible refine gate_callee (f := 57) rfl ?_); refine goesL_ (some 43) rfl rfl Tryd.func57 (by kernel_rfl) rfl #[.int .i64 ((rd_T72 l0 0).f1), .int .i64 0, .int .i64 9999] rfl (by (try simp only [List.map_toArray, List.map_cons, List.map_nil]); first | done | rfl | (simp only [List.length_drop, List.length_take]; rfl)) ?_; (with_reducible refine (spec_l1In.calls ((rd_T72 l0 0).f1) 0 9999 false _ A12.out).mono ?_); rintro e w' ⟨rfl, ⟨nd, rfl⟩⟩; refine ⟨_, rfl, ?_⟩))
            go_ret
            exact ⟨by first | rfl | (simp; done) | (simp [*]; done) | (simp; generalize ByteArray.toList _ = zq_; cases zq_ <;> rfl), by repeat (first | exact Drawn0.refl _ | apply Drawn0.step)⟩
        · replace c10 := Bool.eq_false_iff.mpr c10
          subst c10
          (try rw [if_neg (show ¬ (false = true) by decide)] at H)
          by_cases c14 : ((rd_T72 l0 0).f0) = 5
          · rw [if_pos c14] at H
            have c14b0 : (((rd_T72 l0 0).f0) == 5) = true := beq_iff_eq.mpr c14
            have c14b1 : (((rd_T72 l0 0).f0) != 5) = false := bne_eq_false_iff_eq.mpr c14
            clear c14
            by_cases c15 : 0 < (l0.length : Int)
            case neg => rw [if_neg c15] at H; exact absurd H (by simp)
            rw [if_pos c15] at H
            have c15b0 : decide (0 < (l0.length : Int)) = true := decide_eq_true c15
            have c15b1 : decide (0 < l0.length) = true := decide_eq_true (by omega)
            clear c15
            replace H := Option.bind_eq_some_iff.mp H
            obtain ⟨t137, A160, H⟩ := H
            replace H : (if t137 = true then (some 0) else (some 3)) = some r := H
            have A16 := Aside0.mk A160
            clear A160
            by_cases c17 : t137 = true
            · subst c17
              (try rw [if_pos rfl] at H)
              obtain rfl := Option.some.inj H
              have p136 : 0 ≤ (0 : Int) := (by omega)
              have q136 : 0 < (l0.length : Int) := of_decide_eq_true (by first | (with_reducible assumption) | assumption)
              obtain ⟨ad136, A136_2, c136_2, A136_3, c136_3, e136, hx136_0, hx136_1, hx136_2, hx136_3, hx136_4, hx136_5, hl136_2, hi136_2, hl136_3, hi136_3⟩ := at_T72 HR0.out 0 p136 q136
              obtain rfl : ad132 = ad136 := (by injection e136)
              have qi136 : (0 < l0.length) = True := eq_true (by omega)
              (try simp only [Int.toNat_zero, Nat.zero_mul, Addr.add_zero'] at hx136_0 hx136_1 hx136_2 hx136_3 hx136_4 hx136_5)
              have HR136_2 := Aside0.mk hi136_2
              have HC136_2 := Aside0.mk hl136_2
              clear hi136_2 hl136_2
              have HR136_3 := Aside0.mk hi136_3
              have HC136_3 := Aside0.mk hl136_3
              clear hi136_3 hl136_3
              replace p136 := eq_true p136
              replace q136 := eq_true q136
              (try clear hx132_0 hx132_1 hx132_2 hx132_3 hx132_4 hx132_5)
              (try clear hx132_0 hx132_1 hx132_2 hx132_3 hx132_4 hx132_5)
              (try clear hx132_0 hx132_1 hx132_2 hx132_3 hx132_4 hx132_5)
              (try clear hx132_0 hx132_1 hx132_2 hx132_3 hx132_4 hx132_5)
              (try clear hx132_0 hx132_1 hx132_2 hx132_3 hx132_4 hx132_5)
              (try clear hx132_0 hx132_1 hx132_2 hx132_3 hx132_4 hx132_5)
              (try clear hx134_0 hx134_1 hx134_2 hx134_3 hx134_4 hx134_5)
              (try clear hx134_0 hx134_1 hx134_2 hx134_3 hx134_4 hx134_5)
              go_wp2_with (first | ((with_reducible refine gate_callee (f := 57) rfl ?_); refine goesL_ (some 50) rfl rfl Tryd.func57 (by kernel_rfl) rfl #[.int .i64 ((rd_T72 l0 0).f1), .int .i64 0, .int .i64 400] rfl (by (try simp only [List.map_toArray, List.map_cons, List.map_nil]); first | done | rfl | (simp only [List.length_drop, List.length_take]; rfl)) ?_; (with_reducible refine (spec_l1In.calls ((rd_T72 l0 0).f1) 0 400 true _ A16.out).mono ?_); rintro e w' ⟨rfl, ⟨nd, rfl⟩⟩; refine ⟨_, rfl, ?_⟩))
              go_ret
              exact ⟨by first | rfl | (simp; done) | (simp [*]; done) | (simp; generalize ByteArray.toList _ = zq_; cases zq_ <;> rfl), by repeat (first | exact Drawn0.refl _ | apply Drawn0.step)⟩
            · replace c17 := Bool.eq_false_iff.mpr c17
              subst c17
              (try rw [if_neg (show ¬ (false = true) by decide)] at H)
              obtain rfl := Option.some.inj H
              have p136 : 0 ≤ (0 : Int) := (by omega)
              have q136 : 0 < (l0.length : Int) := of_decide_eq_true (by first | (with_reducible assumption) | assumption)
              obtain ⟨ad136, A136_2, c136_2, A136_3, c136_3, e136, hx136_0, hx136_1, hx136_2, hx136_3, hx136_4, hx136_5, hl136_2, hi136_2, hl136_3, hi136_3⟩ := at_T72 HR0.out 0 p136 q136
              obtain rfl : ad132 = ad136 := (by injection e136)
              have qi136 : (0 < l0.length) = True := eq_true (by omega)
              (try simp only [Int.toNat_zero, Nat.zero_mul, Addr.add_zero'] at hx136_0 hx136_1 hx136_2 hx136_3 hx136_4 hx136_5)
              have HR136_2 := Aside0.mk hi136_2
              have HC136_2 := Aside0.mk hl136_2
              clear hi136_2 hl136_2
              have HR136_3 := Aside0.mk hi136_3
              have HC136_3 := Aside0.mk hl136_3
              clear hi136_3 hl136_3
              replace p136 := eq_true p136
              replace q136 := eq_true q136
              (try clear hx132_0 hx132_1 hx132_2 hx132_3 hx132_4 hx132_5)
              (try clear hx132_0 hx132_1 hx132_2 hx132_3 hx132_4 hx132_5)
              (try clear hx132_0 hx132_1 hx132_2 hx132_3 hx132_4 hx132_5)
              (try clear hx132_0 hx132_1 hx132_2 hx132_3 hx132_4 hx132_5)
              (try clear hx132_0 hx132_1 hx132_2 hx132_3 hx132_4 hx132_5)
              (try clear hx132_0 hx132_1 hx132_2 hx132_3 hx132_4 hx132_5)
              (try clear hx134_0 hx134_1 hx134_2 hx134_3 hx134_4 hx134_5)
              (try clear hx134_0 hx134_1 hx134_2 hx134_3 hx134_4 hx134_5)
              go_wp2_with (first | ((with_reducible refine gate_callee (f := 57) rfl ?_); refine goesL_ (some 50) rfl rfl Tryd.func57 (by kernel_rfl) rfl #[.int .i64 ((rd_T72 l0 0).f1), .int .i64 0, .int .i64 400] rfl (by (try simp only [List.map_toArray, List.map_cons, List.map_nil]); first | done | rfl | (simp only [List.length_drop, List.length_take]; rfl)) ?_; (with_reducible refine (spec_l1In.calls ((rd_T72 l0 0).f1) 0 400 false _ A16.out).mono ?_); rintro e w' ⟨rfl, ⟨nd, rfl⟩⟩; refine ⟨_, rfl, ?_⟩))
              go_ret
              exact ⟨by first | rfl | (simp; done) | (simp [*]; done) | (simp; generalize ByteArray.toList _ = zq_; cases zq_ <;> rfl), by repeat (first | exact Drawn0.refl _ | apply Drawn0.step)⟩
          · rw [if_neg c14] at H
            have c14b0 : (((rd_T72 l0 0).f0) == 5) = false := beq_eq_false_iff_ne.mpr c14
            have c14b1 : (((rd_T72 l0 0).f0) != 5) = true := bne_iff_ne.mpr c14
            have HC18 := Aside0.mk H
            clear H
            go_upto_if 51 with (fail)
            go_cut [51] (fun v51 wc => ∃ (kq : Nat) (x51_17 : Bool), v51 = .bool x51_17 ∧ Aside0 (spec_l12Value.j1 kq l0 true ((rd_T72 l0 0).f0) x51_17 = some r) ∧ Aside0 (kq ≤ kj7) ∧ Drawn0 w wc)
            case first =>
             have H := HC18.out
             clear HC18
             by_cases c19 : ((rd_T72 l0 0).f0) = 6
             · rw [if_pos c19] at H
               have c19b0 : (((rd_T72 l0 0).f0) == 6) = true := beq_iff_eq.mpr c19
               have c19b1 : (((rd_T72 l0 0).f0) != 6) = false := bne_eq_false_iff_eq.mpr c19
               clear c19
               (first | rw [c19b0] | (simp only [i64_w, i32_w]; rw [c19b0]) | skip)
               have H' := Aside0.mk H
               clear H
               go_wp2
               go_meet
               case rel => exact ⟨_, ((((rd_T72 l0 0).f0) == 6)), (by first | rfl | (simp; done) | (simp [*]; done) | (simp; generalize ByteArray.toList _ = zq_; cases zq_ <;> rfl)), H', ⟨by have := HJ7.out; first | omega | exact Nat.le_refl _⟩, by repeat (first | exact Drawn0.refl _ | apply Drawn0.step)⟩
             · rw [if_neg c19] at H
               have c19b0 : (((rd_T72 l0 0).f0) == 6) = false := beq_eq_false_iff_ne.mpr c19
               have c19b1 : (((rd_T72 l0 0).f0) != 6) = true := bne_iff_ne.mpr c19
               (first | rw [c19b0] | (simp only [i64_w, i32_w]; rw [c19b0]) | skip)
               have H' := Aside0.mk H
               clear H
               go_wp2
               go_meet
               case rel => exact ⟨_, ((((rd_T72 l0 0).f0) == 7)), (by first | rfl | (simp; done) | (simp [*]; done) | (simp; generalize ByteArray.toList _ = zq_; cases zq_ <;> rfl)), H', ⟨by have := HJ7.out; first | omega | exact Nat.le_refl _⟩, by repeat (first | exact Drawn0.refl _ | apply Drawn0.step)⟩
            case rest =>
             clear HC18
             try clear q1
             try clear hx1
             try clear qi1
             try clear c2
             try clear c2b0
             try clear c2b1
             try clear c3
             try clear c3b0
             try clear c3b1
             try clear c10
             try clear q13
             try clear hx13
             try clear qi13
             try clear c14
             try clear c14b0
             try clear c14b1
             try clear hx132_0
             try clear hx132_1
             try clear hx132_2
             try clear hx132_3
             try clear hx132_4
             try clear hx132_5
             try clear hx133_0
             try clear hx133_1
             try clear hx133_2
             try clear hx133_3
             try clear hx133_4
             try clear hx133_5
             try clear hx134_0
             try clear hx134_1
             try clear hx134_2
             try clear hx134_3
             try clear hx134_4
             try clear hx134_5
             try clear hx136_0
             try clear hx136_1
             try clear hx136_2
             try clear hx136_3
             try clear hx136_4
             try clear hx136_5
             try clear p132
             try clear q1
             try clear q132
             try clear q133
             try clear q134
             try clear q136
             obtain ⟨kq, x51_17, rfl, HA, HJ17, ⟨mc17, rfl⟩⟩ := hcut
             cases kq with
             | zero => exact absurd HA.out (by simp [spec_l12Value.j1])
             | succ kj17 =>
               have H := HA.out
               clear HA
               simp only [spec_l12Value.j1] at H
               by_cases c20 : x51_17 = true
               · subst c20
                 (try rw [if_pos rfl] at H)
                 by_cases c21 : 0 < (l0.length : Int)
                 case neg => rw [if_neg c21] at H; exact absurd H (by simp)
                 rw [if_pos c21] at H
                 have c21b0 : decide (0 < (l0.length : Int)) = true := decide_eq_true c21
                 have c21b1 : decide (0 < l0.length) = true := decide_eq_true (by omega)
                 clear c21
                 replace H := Option.bind_eq_some_iff.mp H
                 obtain ⟨t139, A220, H⟩ := H
                 replace H : (if t139 = true then (some 0) else (some 3)) = some r := H
                 have A22 := Aside0.mk A220
                 clear A220
                 by_cases c23 : t139 = true
                 · subst c23
                   (try rw [if_pos rfl] at H)
                   obtain rfl := Option.some.inj H
                   have p138 : 0 ≤ (0 : Int) := (by omega)
                   have q138 : 0 < (l0.length : Int) := of_decide_eq_true (by first | (with_reducible assumption) | assumption)
                   obtain ⟨ad138, A138_2, c138_2, A138_3, c138_3, e138, hx138_0, hx138_1, hx138_2, hx138_3, hx138_4, hx138_5, hl138_2, hi138_2, hl138_3, hi138_3⟩ := at_T72 HR0.out 0 p138 q138
                   obtain rfl : ad132 = ad138 := (by injection e138)
                   have qi138 : (0 < l0.length) = True := eq_true (by omega)
                   (try simp only [Int.toNat_zero, Nat.zero_mul, Addr.add_zero'] at hx138_0 hx138_1 hx138_2 hx138_3 hx138_4 hx138_5)
                   have HR138_2 := Aside0.mk hi138_2
                   have HC138_2 := Aside0.mk hl138_2
                   clear hi138_2 hl138_2
                   have HR138_3 := Aside0.mk hi138_3
                   have HC138_3 := Aside0.mk hl138_3
                   clear hi138_3 hl138_3
                   replace p138 := eq_true p138
                   replace q138 := eq_true q138
                   (try clear hx132_0 hx132_1 hx132_2 hx132_3 hx132_4 hx132_5)
                   (try clear hx132_0 hx132_1 hx132_2 hx132_3 hx132_4 hx132_5)
                   (try clear hx132_0 hx132_1 hx132_2 hx132_3 hx132_4 hx132_5)
                   (try clear hx132_0 hx132_1 hx132_2 hx132_3 hx132_4 hx132_5)
                   (try clear hx132_0 hx132_1 hx132_2 hx132_3 hx132_4 hx132_5)
                   (try clear hx132_0 hx132_1 hx132_2 hx132_3 hx132_4 hx132_5)
                   (try clear hx134_0 hx134_1 hx134_2 hx134_3 hx134_4 hx134_5)
                   (try clear hx134_0 hx134_1 hx134_2 hx134_3 hx134_4 hx134_5)
                   (try clear hx136_0 hx136_1 hx136_2 hx136_3 hx136_4 hx136_5)
                   (try clear hx136_0 hx136_1 hx136_2 hx136_3 hx136_4 hx136_5)
                   go_wp2_with (first | ((with_reducible refine gate_callee (f := 98) rfl ?_); refine goesL_ (some 58) rfl rfl Tryd.func98 (by kernel_rfl) rfl #[.slice A138_2 ((rd_T72 l0 0).f2).length c138_2] rfl (by (try simp only [List.map_toArray, List.map_cons, List.map_nil]); first | done | rfl | (simp only [List.length_drop, List.length_take]; rfl)) ?_; (with_reducible refine (spec_l12Codes.calls kj17 _ _ ((rd_T72 l0 0).f2) true _ ?side1 ?side2 A22.out).mono ?_); (case side1 => exact C_up HR138_2.out); (case side2 => exact HC138_2.out); rintro e w' ⟨rfl, ⟨nd, rfl⟩⟩; refine ⟨_, rfl, ?_⟩))
                   go_ret
                   exact ⟨by first | rfl | (simp; done) | (simp [*]; done) | (simp; generalize ByteArray.toList _ = zq_; cases zq_ <;> rfl), by repeat (first | exact Drawn0.refl _ | apply Drawn0.step)⟩
                 · replace c23 := Bool.eq_false_iff.mpr c23
                   subst c23
                   (try rw [if_neg (show ¬ (false = true) by decide)] at H)
                   obtain rfl := Option.some.inj H
                   have p138 : 0 ≤ (0 : Int) := (by omega)
                   have q138 : 0 < (l0.length : Int) := of_decide_eq_true (by first | (with_reducible assumption) | assumption)
                   obtain ⟨ad138, A138_2, c138_2, A138_3, c138_3, e138, hx138_0, hx138_1, hx138_2, hx138_3, hx138_4, hx138_5, hl138_2, hi138_2, hl138_3, hi138_3⟩ := at_T72 HR0.out 0 p138 q138
                   obtain rfl : ad132 = ad138 := (by injection e138)
                   have qi138 : (0 < l0.length) = True := eq_true (by omega)
                   (try simp only [Int.toNat_zero, Nat.zero_mul, Addr.add_zero'] at hx138_0 hx138_1 hx138_2 hx138_3 hx138_4 hx138_5)
                   have HR138_2 := Aside0.mk hi138_2
                   have HC138_2 := Aside0.mk hl138_2
                   clear hi138_2 hl138_2
                   have HR138_3 := Aside0.mk hi138_3
                   have HC138_3 := Aside0.mk hl138_3
                   clear hi138_3 hl138_3
                   replace p138 := eq_true p138
                   replace q138 := eq_true q138
                   (try clear hx132_0 hx132_1 hx132_2 hx132_3 hx132_4 hx132_5)
                   (try clear hx132_0 hx132_1 hx132_2 hx132_3 hx132_4 hx132_5)
                   (try clear hx132_0 hx132_1 hx132_2 hx132_3 hx132_4 hx132_5)
                   (try clear hx132_0 hx132_1 hx132_2 hx132_3 hx132_4 hx132_5)
                   (try clear hx132_0 hx132_1 hx132_2 hx132_3 hx132_4 hx132_5)
                   (try clear hx132_0 hx132_1 hx132_2 hx132_3 hx132_4 hx132_5)
                   (try clear hx134_0 hx134_1 hx134_2 hx134_3 hx134_4 hx134_5)
                   (try clear hx134_0 hx134_1 hx134_2 hx134_3 hx134_4 hx134_5)
                   (try clear hx136_0 hx136_1 hx136_2 hx136_3 hx136_4 hx136_5)
                   (try clear hx136_0 hx136_1 hx136_2 hx136_3 hx136_4 hx136_5)
                   go_wp2_with (first | ((with_reducible refine gate_callee (f := 98) rfl ?_); refine goesL_ (some 58) rfl rfl Tryd.func98 (by kernel_rfl) rfl #[.slice A138_2 ((rd_T72 l0 0).f2).length c138_2] rfl (by (try simp only [List.map_toArray, List.map_cons, List.map_nil]); first | done | rfl | (simp only [List.length_drop, List.length_take]; rfl)) ?_; (with_reducible refine (spec_l12Codes.calls kj17 _ _ ((rd_T72 l0 0).f2) false _ ?side1 ?side2 A22.out).mono ?_); (case side1 => exact C_up HR138_2.out); (case side2 => exact HC138_2.out); rintro e w' ⟨rfl, ⟨nd, rfl⟩⟩; refine ⟨_, rfl, ?_⟩))
                   go_ret
                   exact ⟨by first | rfl | (simp; done) | (simp [*]; done) | (simp; generalize ByteArray.toList _ = zq_; cases zq_ <;> rfl), by repeat (first | exact Drawn0.refl _ | apply Drawn0.step)⟩
               · replace c20 := Bool.eq_false_iff.mpr c20
                 subst c20
                 (try rw [if_neg (show ¬ (false = true) by decide)] at H)
                 by_cases c24 : ((rd_T72 l0 0).f0) = 8
                 · rw [if_pos c24] at H
                   have c24b0 : (((rd_T72 l0 0).f0) == 8) = true := beq_iff_eq.mpr c24
                   have c24b1 : (((rd_T72 l0 0).f0) != 8) = false := bne_eq_false_iff_eq.mpr c24
                   clear c24
                   by_cases c25 : 0 < (l0.length : Int)
                   case neg => rw [if_neg c25] at H; exact absurd H (by simp)
                   rw [if_pos c25] at H
                   have c25b0 : decide (0 < (l0.length : Int)) = true := decide_eq_true c25
                   have c25b1 : decide (0 < l0.length) = true := decide_eq_true (by omega)
                   clear c25
                   replace H := Option.bind_eq_some_iff.mp H
                   obtain ⟨t141, A260, H⟩ := H
                   replace H : (some t141) = some r := H
                   have A26 := Aside0.mk A260
                   clear A260
                   obtain rfl := Option.some.inj H
                   have p140 : 0 ≤ (0 : Int) := (by omega)
                   have q140 : 0 < (l0.length : Int) := of_decide_eq_true (by first | (with_reducible assumption) | assumption)
                   obtain ⟨ad140, A140_2, c140_2, A140_3, c140_3, e140, hx140_0, hx140_1, hx140_2, hx140_3, hx140_4, hx140_5, hl140_2, hi140_2, hl140_3, hi140_3⟩ := at_T72 HR0.out 0 p140 q140
                   obtain rfl : ad132 = ad140 := (by injection e140)
                   have qi140 : (0 < l0.length) = True := eq_true (by omega)
                   (try simp only [Int.toNat_zero, Nat.zero_mul, Addr.add_zero'] at hx140_0 hx140_1 hx140_2 hx140_3 hx140_4 hx140_5)
                   have HR140_2 := Aside0.mk hi140_2
                   have HC140_2 := Aside0.mk hl140_2
                   clear hi140_2 hl140_2
                   have HR140_3 := Aside0.mk hi140_3
                   have HC140_3 := Aside0.mk hl140_3
                   clear hi140_3 hl140_3
                   replace p140 := eq_true p140
                   replace q140 := eq_true q140
                   (try clear hx132_0 hx132_1 hx132_2 hx132_3 hx132_4 hx132_5)
                   (try clear hx132_0 hx132_1 hx132_2 hx132_3 hx132_4 hx132_5)
                   (try clear hx132_0 hx132_1 hx132_2 hx132_3 hx132_4 hx132_5)
                   (try clear hx132_0 hx132_1 hx132_2 hx132_3 hx132_4 hx132_5)
                   (try clear hx132_0 hx132_1 hx132_2 hx132_3 hx132_4 hx132_5)
                   (try clear hx132_0 hx132_1 hx132_2 hx132_3 hx132_4 hx132_5)
                   (try clear hx134_0 hx134_1 hx134_2 hx134_3 hx134_4 hx134_5)
                   (try clear hx134_0 hx134_1 hx134_2 hx134_3 hx134_4 hx134_5)
                   (try clear hx136_0 hx136_1 hx136_2 hx136_3 hx136_4 hx136_5)
                   (try clear hx136_0 hx136_1 hx136_2 hx136_3 hx136_4 hx136_5)
                   (try clear hx138_0 hx138_1 hx138_2 hx138_3 hx138_4 hx138_5)
                   (try clear hx138_0 hx138_1 hx138_2 hx138_3 hx138_4 hx138_5)
                   go_wp2_with (first | ((with_reducible refine gate_callee (f := 32) rfl ?_); refine goesL_ (some 65) rfl rfl Tryd.func32 (by kernel_rfl) rfl #[.slice A140_3 ((rd_T72 l0 0).f3).length c140_3] rfl (by (try simp only [List.map_toArray, List.map_cons, List.map_nil]); first | done | rfl | (simp only [List.length_drop, List.length_take]; rfl)) ?_; (with_reducible refine (spec_l11Fault.calls kj17 _ _ ((rd_T72 l0 0).f3) t141 _ ?side1 ?side2 A26.out).mono ?_); (case side1 => exact C_up HR140_3.out); (case side2 => exact HC140_3.out); rintro e w' ⟨rfl, ⟨nd, rfl⟩⟩; refine ⟨_, rfl, ?_⟩))
                   go_ret
                   exact ⟨by first | rfl | (simp; done) | (simp [*]; done) | (simp; generalize ByteArray.toList _ = zq_; cases zq_ <;> rfl), by repeat (first | exact Drawn0.refl _ | apply Drawn0.step)⟩
                 · rw [if_neg c24] at H
                   have c24b0 : (((rd_T72 l0 0).f0) == 8) = false := beq_eq_false_iff_ne.mpr c24
                   have c24b1 : (((rd_T72 l0 0).f0) != 8) = true := bne_iff_ne.mpr c24
                   by_cases c27 : true = true
                   · clear c27
                     (try rw [if_pos rfl] at H)
                     obtain rfl := Option.some.inj H
                     go_wp2
                     go_ret
                     exact ⟨by first | rfl | (simp; done) | (simp [*]; done) | (simp; generalize ByteArray.toList _ = zq_; cases zq_ <;> rfl), by repeat (first | exact Drawn0.refl _ | apply Drawn0.step)⟩
                   · exact absurd rfl c27
 · rw [if_neg c2] at H
   exact absurd H (by simp)

end Go.Proofs.YtnehephjliankaaDoor.PFnExactTermsText

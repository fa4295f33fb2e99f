/- Functions of the program, each with what its call comes to. Conditions: each theorem's. -/
import Derived.Test.YtehdbobpbcjmeaaVFnJournalsZ
import Derived.Test.YtehdbobpbcjmeaaPFnJournalsx0
import Derived.Test.YtehdbobpbcjmeaaPFnJournalsx4
namespace Go.Proofs.Ytehdbobpbcjmeaa.PFnJournals
open Go.RowKit Go.Proofs.YtehdbobpbcjmeaaW.PrintWords Go.Proofs.YtehdbobpbcjmeaaW.PrintLast Go.Proofs.YtehdbobpbcjmeaaW.PrintMore
attribute [local go_sem] max2_int min2_int max_two min_two max_three min_three max_four min_four   -- for this text's walks alone
set_option linter.unusedVariables false
set_option linter.unusedSimpArgs false
set_option maxHeartbeats 8000000
set_option maxRecDepth 100000

/-! ### impl_isSmallWord: function 101 -/
def impl_isSmallWord.l0 : Nat → ByteArray → Int → Int → Int → Option (Bool)
 | 0, _, _, _, _ => none
 | k + 1, x0, x1, x7, x8 => if x8 < x7 then (if 0 ≤ x8 then (if x8 < (x0.size : Int) then (if (bt x0 x8) < 97 then (some false) else (if (bt x0 x8) > 122 then (some false) else (impl_isSmallWord.l0 k x0 x1 x7 (wrap64 (x8 + 1))))) else (none)) else (none)) else (if (x0.size : Int) ≥ 1 then (some (decide ((x0.size : Int) ≤ x1))) else (some false))
def impl_isSmallWord.f (k : Nat) (a0 : ByteArray) (a1 : Int) : Option (Bool) := impl_isSmallWord.l0 k a0 a1 (a0.size : Int) 0
theorem impl_isSmallWord.calls (k : Nat) (a0 : ByteArray) (a1 : Int) (r : Bool) (w : World) (h : impl_isSmallWord.f k a0 a1 = some r) :
 Calls Try.prog 101 #[.string a0, .int .i64 a1] w fun e w' => e = .returned (.bool r) ∧ Drawn0 w w' := by
 have H := h; unfold impl_isSmallWord.f at H; clear h; have H' := Aside0.mk H; clear H
 go_enter Try.func101, Try.ntmps101
 go_wp2
 go_loopg [8] k (fun kq v8 w' => ∃ (x8_1 : Int), v8 = .int .i64 x8_1 ∧ Aside0 (impl_isSmallWord.l0 kq a0 a1 (a0.size : Int) x8_1 = some r) ∧ Aside0 (kq ≤ k) ∧ Drawn0 w w')
 case atStart => exact ⟨(0), vl_, H', ⟨Nat.le_refl _⟩, dr_⟩
 case round =>
  clear H'; obtain ⟨x8_1, rfl, HA, HK1, ⟨m1, rfl⟩⟩ := hrel
  cases gk with
  | zero => exact absurd HA.out (by simp [impl_isSmallWord.l0])
  | succ k1 =>
    have H := HA.out; clear HA; simp only [impl_isSmallWord.l0] at H
    by_cases c3 : x8_1 < (a0.size : Int)
    ·
     rw [if_pos c3] at H; have c3b0 : decide (x8_1 < (a0.size : Int)) = true := decide_eq_true c3; clear c3; obtain ⟨c4, H⟩ := ifc_ H; have c4b0 : decide (0 ≤ x8_1) = true := decide_eq_true c4; clear c4; obtain ⟨c5, H⟩ := ifc_ H; have c5b0 : decide (x8_1 < (a0.size : Int)) = true := decide_eq_true c5; clear c5; have p6 : 0 ≤ (x8_1 : Int) := od_; have q6 : x8_1 < (a0.size : Int) := od_; have hx6 := bt_at a0 x8_1; replace p6 := eq_true p6; replace q6 := eq_true q6
     by_cases c7 : (bt a0 x8_1) < 97
     ·
      rw [if_pos c7] at H; have c7b0 : decide ((bt a0 x8_1) < 97) = true := decide_eq_true c7; clear c7; obtain rfl := Option.some.inj H
      go_wp2
      go_ret
      exact ⟨vl_, dr_⟩
     ·
      rw [if_neg c7] at H; have c7b0 : decide ((bt a0 x8_1) < 97) = false := decide_eq_false c7; clear c7; have p8 : 0 ≤ (x8_1 : Int) := od_; have q8 : x8_1 < (a0.size : Int) := od_; have hx8 := bt_at a0 x8_1; replace p8 := eq_true p8; replace q8 := eq_true q8
      by_cases c9 : (bt a0 x8_1) > 122
      ·
       rw [if_pos c9] at H; have c9b0 : decide (122 < (bt a0 x8_1)) = true := decide_eq_true c9; clear c9; obtain rfl := Option.some.inj H
       go_wp2
       go_ret
       exact ⟨vl_, dr_⟩
      ·
       rw [if_neg c9] at H; have c9b0 : decide (122 < (bt a0 x8_1)) = false := decide_eq_false c9; clear c9; have H' := Aside0.mk H; clear H
       go_wp2
       go_roundg k1
       case measure => have := HK1.out; omega
       case rel => exact ⟨(wrap64 (x8_1 + 1)), vl_, H', ⟨by have := HK1.out; omega⟩, dr_⟩
    ·
     rw [if_neg c3] at H; have c3b0 : decide (x8_1 < (a0.size : Int)) = false := decide_eq_false c3; clear c3
     by_cases c10 : (a0.size : Int) ≥ 1
     ·
      rw [if_pos c10] at H; have c10b0 : decide (1 ≤ (a0.size : Int)) = true := decide_eq_true c10; have c10b1 : decide (1 ≤ a0.size) = true := decide_eq_true (by omega); clear c10; obtain rfl := Option.some.inj H
      go_wp2
      go_ret
      exact ⟨vl_, dr_⟩
     ·
      rw [if_neg c10] at H; have c10b0 : decide (1 ≤ (a0.size : Int)) = false := decide_eq_false c10; have c10b1 : decide (1 ≤ a0.size) = false := decide_eq_false (by omega); clear c10; obtain rfl := Option.some.inj H
      go_wp2
      go_ret
      exact ⟨vl_, dr_⟩

/-! ### impl_isName: function 78 -/
def impl_isName.f (k : Nat) (a0 : ByteArray) : Option (Bool) := (impl_isSmallWord.f k a0 8).bind fun t229 => (some t229)
theorem impl_isName.calls (k : Nat) (a0 : ByteArray) (r : Bool) (w : World) (h : impl_isName.f k a0 = some r) :
 Calls Try.prog 78 #[.string a0] w fun e w' => e = .returned (.bool r) ∧ Drawn0 w w' := by
 have H := h; unfold impl_isName.f at H; clear h; replace H := Option.bind_eq_some_iff.mp H; obtain ⟨t229, A20, H⟩ := H; replace H : (some t229) = some r := H; have A2 := Aside0.mk A20; clear A20; obtain rfl := Option.some.inj H
 go_enter Try.func78, Try.ntmps78
 go_wp2_with (first | ((with_reducible refine gate_callee (f := 101) rfl ?_); refine goesY_ (some 4) Try.func101 #[.string a0, .int .i64 8] rfl ?_; (with_reducible refine (impl_isSmallWord.calls k a0 8 t229 _ A2.out).mono ?_); rintro e w' ⟨rfl, ⟨nd, rfl⟩⟩; refine ⟨_, rfl, ?_⟩))
 go_ret
 exact ⟨vl_, dr_⟩

/-! ### impl_isUid: function 102 -/
def impl_isUid.f (a0 : Int) : Option (Bool) := (impl_within.f a0 1 999).bind fun t230 => (some t230)
theorem impl_isUid.calls (a0 : Int) (r : Bool) (w : World) (h : impl_isUid.f a0 = some r) :
 Calls Try.prog 102 #[.int .i64 a0] w fun e w' => e = .returned (.bool r) ∧ Drawn0 w w' := by
 have H := h; unfold impl_isUid.f at H; clear h; replace H := Option.bind_eq_some_iff.mp H; obtain ⟨t230, A20, H⟩ := H; replace H : (some t230) = some r := H; have A2 := Aside0.mk A20; clear A20; obtain rfl := Option.some.inj H
 go_enter Try.func102, Try.ntmps102
 go_wp2_with (first | ((with_reducible refine gate_callee (f := 76) rfl ?_); refine goesY_ (some 4) Try.func76 #[.int .i64 a0, .int .i64 1, .int .i64 999] rfl ?_; (with_reducible refine (impl_within.calls a0 1 999 t230 _ A2.out).mono ?_); rintro e w' ⟨rfl, ⟨nd, rfl⟩⟩; refine ⟨_, rfl, ?_⟩))
 go_ret
 exact ⟨vl_, dr_⟩

/-! ### impl_areUids: function 80 -/
def impl_areUids.l0 : Nat → List Int → List Int → Int → Int → Option (Bool)
 | 0, _, _, _, _ => none
 | k + 1, x0, x5, x6, x7 => if x7 < x6 then (if 0 ≤ x7 then (if x7 < (x5.length : Int) then ((impl_isUid.f (rd x5 x7)).bind fun t232 => (if t232 = true then (if x7 > 0 then (if 0 ≤ (wrap64 (x7 - 1)) then (if (wrap64 (x7 - 1)) < (x0.length : Int) then (if (rd x0 (wrap64 (x7 - 1))) ≥ (rd x5 x7) then (some false) else (impl_areUids.l0 k x0 x5 x6 (wrap64 (x7 + 1)))) else (none)) else (none)) else (impl_areUids.l0 k x0 x5 x6 (wrap64 (x7 + 1)))) else (some false))) else (none)) else (none)) else (some true)
def impl_areUids.f (k : Nat) (l0 : List Int) : Option (Bool) := impl_areUids.l0 k l0 l0 (l0.length : Int) 0
theorem impl_areUids.calls (k : Nat) (A0 : Option Addr) (c0 : Nat) (l0 : List Int) (r : Bool) (w : World) (hr0 : Kd.C (Kd.int .i64) w A0 l0.length l0) (hc0 : l0.length ≤ c0) (h : impl_areUids.f k l0 = some r) :
 Calls Try.prog 80 #[.slice A0 l0.length c0] w fun e w' => e = .returned (.bool r) ∧ Drawn0 w w' := by
 have HR0 := Aside0.mk hr0; have HC0 := Aside0.mk hc0; clear hr0 hc0; have H := h; unfold impl_areUids.f at H; clear h; have H' := Aside0.mk H; clear H
 go_enter Try.func80, Try.ntmps80
 go_wp2
 go_loopg [7] k (fun kq v7 w' => ∃ (x7_1 : Int), v7 = .int .i64 x7_1 ∧ Aside0 (impl_areUids.l0 kq l0 l0 (l0.length : Int) x7_1 = some r) ∧ Aside0 (kq ≤ k) ∧ Drawn0 w w')
 case atStart => exact ⟨(0), vl_, H', ⟨Nat.le_refl _⟩, dr_⟩
 case round =>
  clear H'; obtain ⟨x7_1, rfl, HA, HK1, ⟨m1, rfl⟩⟩ := hrel
  cases gk with
  | zero => exact absurd HA.out (by simp [impl_areUids.l0])
  | succ k1 =>
    have H := HA.out; clear HA; simp only [impl_areUids.l0] at H
    by_cases c2 : x7_1 < (l0.length : Int)
    ·
     rw [if_pos c2] at H; have c2b0 : decide (x7_1 < (l0.length : Int)) = true := decide_eq_true c2; clear c2; obtain ⟨c3, H⟩ := ifc_ H; have c3b0 : decide (0 ≤ x7_1) = true := decide_eq_true c3; clear c3; obtain ⟨c4, H⟩ := ifc_ H; have c4b0 : decide (x7_1 < (l0.length : Int)) = true := decide_eq_true c4; clear c4; obtain ⟨t232, A5, H⟩ := bd_ H; (try dsimp only at H)
     by_cases c6 : t232 = true
     ·
      subst c6; (try rw [if_pos rfl] at H)
      by_cases c7 : x7_1 > 0
      ·
       rw [if_pos c7] at H; have c7b0 : decide (0 < x7_1) = true := decide_eq_true c7; clear c7; obtain ⟨ji8, hji8⟩ : ∃ j_ : Int, (wrap64 (x7_1 - 1)) = j_ := ⟨_, rfl⟩
       replace H : (if 0 ≤ (ji8) then (if (ji8) < (l0.length : Int) then (if (rd l0 (ji8)) ≥ (rd l0 x7_1) then (some false) else (impl_areUids.l0 k1 l0 l0 (l0.length : Int) (wrap64 (x7_1 + 1)))) else (none)) else (none)) = some r := by first | (rw [hji8] at H; exact H) | (simp only [hji8] at H ⊢; exact H)
       (try rw [hji8] at A5); have hji8w : (IntKind.i64.wrap (x7_1 - 1)) = ji8 := (i64_w _).trans hji8; obtain ⟨c9, H⟩ := ifc_ H; have c9b0 : decide (0 ≤ (ji8)) = true := decide_eq_true c9; clear c9; obtain ⟨c10, H⟩ := ifc_ H; have c10b0 : decide ((ji8) < (l0.length : Int)) = true := decide_eq_true c10; clear c10; have p231 : 0 ≤ (x7_1 : Int) := od_; have q231 : x7_1 < (l0.length : Int) := od_; obtain ⟨ad231, e231, hx231_0⟩ := Kd.at_int HR0.out x7_1 p231 q231
       cases e231
       replace p231 := eq_true p231; replace q231 := eq_true q231
       by_cases c11 : (rd l0 (ji8)) ≥ (rd l0 x7_1)
       ·
        rw [if_pos c11] at H; have c11b0 : decide ((rd l0 x7_1) ≤ (rd l0 (ji8))) = true := decide_eq_true c11; clear c11; obtain rfl := Option.some.inj H
        go_wp2_with (first | ((with_reducible refine gate_callee (f := 102) rfl ?_); refine goesY_ (some 13) Try.func102 #[.int .i64 (rd l0 x7_1)] rfl ?_; (with_reducible refine (impl_isUid.calls (rd l0 x7_1) true _ A5.out).mono ?_); rintro e w' ⟨rfl, ⟨nd, rfl⟩⟩; refine ⟨_, rfl, ?_⟩; have p233 : 0 ≤ ((ji8) : Int) := od_; have q233 : (ji8) < (l0.length : Int) := od_; obtain ⟨ad233, e233, hx233_0⟩ := Kd.at_int HR0.out (ji8) p233 q233; obtain rfl : ad231 = ad233 := (by injection e233); replace p233 := eq_true p233; replace q233 := eq_true q233))
        go_ret
        exact ⟨by first | rfl | (simp; done) | (simp only [← hji8] <;> (first | rfl | simp)) | (simp [*]; done) | (simp; generalize ByteArray.toList _ = zq_; cases zq_ <;> rfl), dr_⟩
       ·
        rw [if_neg c11] at H; have c11b0 : decide ((rd l0 x7_1) ≤ (rd l0 (ji8))) = false := decide_eq_false c11; clear c11; have H' := Aside0.mk H; clear H
        go_wp2_with (first | ((with_reducible refine gate_callee (f := 102) rfl ?_); refine goesY_ (some 13) Try.func102 #[.int .i64 (rd l0 x7_1)] rfl ?_; (with_reducible refine (impl_isUid.calls (rd l0 x7_1) true _ A5.out).mono ?_); rintro e w' ⟨rfl, ⟨nd, rfl⟩⟩; refine ⟨_, rfl, ?_⟩; have p233 : 0 ≤ ((ji8) : Int) := od_; have q233 : (ji8) < (l0.length : Int) := od_; obtain ⟨ad233, e233, hx233_0⟩ := Kd.at_int HR0.out (ji8) p233 q233; obtain rfl : ad231 = ad233 := (by injection e233); replace p233 := eq_true p233; replace q233 := eq_true q233))
        go_roundg k1
        case measure => have := HK1.out; omega
        case rel => exact ⟨(wrap64 (x7_1 + 1)), vl_, H', ⟨by have := HK1.out; omega⟩, dr_⟩
      ·
       rw [if_neg c7] at H; have c7b0 : decide (0 < x7_1) = false := decide_eq_false c7; clear c7; have H' := Aside0.mk H; clear H; have p231 : 0 ≤ (x7_1 : Int) := od_; have q231 : x7_1 < (l0.length : Int) := od_; obtain ⟨ad231, e231, hx231_0⟩ := Kd.at_int HR0.out x7_1 p231 q231
       cases e231
       replace p231 := eq_true p231; replace q231 := eq_true q231
       go_wp2_with (first | ((with_reducible refine gate_callee (f := 102) rfl ?_); refine goesY_ (some 13) Try.func102 #[.int .i64 (rd l0 x7_1)] rfl ?_; (with_reducible refine (impl_isUid.calls (rd l0 x7_1) true _ A5.out).mono ?_); rintro e w' ⟨rfl, ⟨nd, rfl⟩⟩; refine ⟨_, rfl, ?_⟩))
       go_roundg k1
       case measure => have := HK1.out; omega
       case rel => exact ⟨(wrap64 (x7_1 + 1)), vl_, H', ⟨by have := HK1.out; omega⟩, dr_⟩
     ·
      replace c6 := Bool.eq_false_iff.mpr c6; subst c6; (try rw [if_neg (show ¬ (false = true) by decide)] at H); obtain rfl := Option.some.inj H; have p231 : 0 ≤ (x7_1 : Int) := od_; have q231 : x7_1 < (l0.length : Int) := od_; obtain ⟨ad231, e231, hx231_0⟩ := Kd.at_int HR0.out x7_1 p231 q231
      cases e231
      replace p231 := eq_true p231; replace q231 := eq_true q231
      go_wp2_with (first | ((with_reducible refine gate_callee (f := 102) rfl ?_); refine goesY_ (some 13) Try.func102 #[.int .i64 (rd l0 x7_1)] rfl ?_; (with_reducible refine (impl_isUid.calls (rd l0 x7_1) false _ A5.out).mono ?_); rintro e w' ⟨rfl, ⟨nd, rfl⟩⟩; refine ⟨_, rfl, ?_⟩))
      go_ret
      exact ⟨vl_, dr_⟩
    ·
     rw [if_neg c2] at H; have c2b0 : decide (x7_1 < (l0.length : Int)) = false := decide_eq_false c2; clear c2; obtain rfl := Option.some.inj H
     go_wp2
     go_ret
     exact ⟨vl_, dr_⟩

/-! ### impl_areFlags: function 81 -/
def impl_areFlags.f (a0 : Int) : Option (Bool) := (impl_within.f a0 0 15).bind fun t234 => (some t234)
theorem impl_areFlags.calls (a0 : Int) (r : Bool) (w : World) (h : impl_areFlags.f a0 = some r) :
 Calls Try.prog 81 #[.int .i64 a0] w fun e w' => e = .returned (.bool r) ∧ Drawn0 w w' := by
 have H := h; unfold impl_areFlags.f at H; clear h; replace H := Option.bind_eq_some_iff.mp H; obtain ⟨t234, A20, H⟩ := H; replace H : (some t234) = some r := H; have A2 := Aside0.mk A20; clear A20; obtain rfl := Option.some.inj H
 go_enter Try.func81, Try.ntmps81
 go_wp2_with (first | ((with_reducible refine gate_callee (f := 76) rfl ?_); refine goesY_ (some 4) Try.func76 #[.int .i64 a0, .int .i64 0, .int .i64 15] rfl ?_; (with_reducible refine (impl_within.calls a0 0 15 t234 _ A2.out).mono ?_); rintro e w' ⟨rfl, ⟨nd, rfl⟩⟩; refine ⟨_, rfl, ?_⟩))
 go_ret
 exact ⟨vl_, dr_⟩

/-! ### impl_isDate: function 82 -/
def impl_isDate.f (a0 : Int) : Option (Bool) := (impl_within.f a0 0 9999).bind fun t235 => (some t235)
theorem impl_isDate.calls (a0 : Int) (r : Bool) (w : World) (h : impl_isDate.f a0 = some r) :
 Calls Try.prog 82 #[.int .i64 a0] w fun e w' => e = .returned (.bool r) ∧ Drawn0 w w' := by
 have H := h; unfold impl_isDate.f at H; clear h; replace H := Option.bind_eq_some_iff.mp H; obtain ⟨t235, A20, H⟩ := H; replace H : (some t235) = some r := H; have A2 := Aside0.mk A20; clear A20; obtain rfl := Option.some.inj H
 go_enter Try.func82, Try.ntmps82
 go_wp2_with (first | ((with_reducible refine gate_callee (f := 76) rfl ?_); refine goesY_ (some 4) Try.func76 #[.int .i64 a0, .int .i64 0, .int .i64 9999] rfl ?_; (with_reducible refine (impl_within.calls a0 0 9999 t235 _ A2.out).mono ?_); rintro e w' ⟨rfl, ⟨nd, rfl⟩⟩; refine ⟨_, rfl, ?_⟩))
 go_ret
 exact ⟨vl_, dr_⟩

/-! ### impl_OpFault: function 44 -/
mutual
def impl_OpFault.j0 : Nat → Bool → Int → ByteArray → ByteArray → List Int → Int → Int → Int → List Int → Option (Int)
 | 0, _, _, _, _, _, _, _, _, _ => none
 | k + 1, x3, x237000, x237001, x237002, x237003, x237004, x237005, x237006, x237007 => if x3 = true then (some 1) else ((impl_isName.f k x237001).bind fun t239 => (if t239 = true then ((impl_Op_hasTo.f x237000 x237001 x237002 x237003 x237004 x237005 x237006 x237007).bind fun t240 => (if t240 = true then ((impl_isName.f k x237002).bind fun t241 => (impl_OpFault.j1 k (!t241) x237000 x237001 x237002 x237003 x237004 x237005 x237006 x237007)) else (impl_OpFault.j1 k false x237000 x237001 x237002 x237003 x237004 x237005 x237006 x237007))) else (impl_OpFault.j1 k true x237000 x237001 x237002 x237003 x237004 x237005 x237006 x237007)))
def impl_OpFault.j1 : Nat → Bool → Int → ByteArray → ByteArray → List Int → Int → Int → Int → List Int → Option (Int)
 | 0, _, _, _, _, _, _, _, _, _ => none
 | k + 1, x13, x237000, x237001, x237002, x237003, x237004, x237005, x237006, x237007 => if x13 = true then (some 5) else (if (x237003.length : Int) > 6 then (some 2) else ((impl_areUids.f k x237003).bind fun t242 => (if t242 = true then (if x237000 = 4 then ((impl_within.f x237004 1 3).bind fun t243 => (if t243 = true then ((impl_areFlags.f x237005).bind fun t244 => (if t244 = true then ((impl_isDate.f x237006).bind fun t245 => (impl_OpFault.j2 k (!t245) x237000 x237001 x237002 x237003 x237004 x237005 x237006 x237007)) else (impl_OpFault.j2 k true x237000 x237001 x237002 x237003 x237004 x237005 x237006 x237007))) else (impl_OpFault.j2 k true x237000 x237001 x237002 x237003 x237004 x237005 x237006 x237007))) else ((impl_areFlags.f x237005).bind fun t246 => (if t246 = true then ((impl_isDate.f x237006).bind fun t247 => (impl_OpFault.j2 k (!t247) x237000 x237001 x237002 x237003 x237004 x237005 x237006 x237007)) else (impl_OpFault.j2 k true x237000 x237001 x237002 x237003 x237004 x237005 x237006 x237007)))) else (impl_OpFault.j2 k true x237000 x237001 x237002 x237003 x237004 x237005 x237006 x237007))))
def impl_OpFault.j2 : Nat → Bool → Int → ByteArray → ByteArray → List Int → Int → Int → Int → List Int → Option (Int)
 | 0, _, _, _, _, _, _, _, _, _ => none
 | k + 1, x33, x237000, x237001, x237002, x237003, x237004, x237005, x237006, x237007 => if x33 = true then (some 3) else (if (x237007.length : Int) > 400 then (some 2) else (some 0))
end
def impl_OpFault.f (k : Nat) (a0_0 : Int) (a0_1 : ByteArray) (a0_2 : ByteArray) (l0_3 : List Int) (a0_4 : Int) (a0_5 : Int) (a0_6 : Int) (l0_7 : List Int) : Option (Int) := (impl_within.f a0_0 1 7).bind fun t237 => (if t237 = true then ((impl_Op_isOnly.f a0_0 a0_1 a0_2 l0_3 a0_4 a0_5 a0_6 l0_7).bind fun t238 => (impl_OpFault.j0 k (!t238) a0_0 a0_1 a0_2 l0_3 a0_4 a0_5 a0_6 l0_7)) else (impl_OpFault.j0 k true a0_0 a0_1 a0_2 l0_3 a0_4 a0_5 a0_6 l0_7))
theorem impl_OpFault.calls (k : Nat) (a0_0 : Int) (a0_1 : ByteArray) (a0_2 : ByteArray) (A0_3 : Option Addr) (c0_3 : Nat) (l0_3 : List Int) (a0_4 : Int) (a0_5 : Int) (a0_6 : Int) (A0_7 : Option Addr) (c0_7 : Nat) (l0_7 : List Int) (r : Int) (w : World) (hr0_3 : Kd.C (Kd.int .i64) w A0_3 l0_3.length l0_3) (hc0_3 : l0_3.length ≤ c0_3) (hr0_7 : Kd.C (Kd.int .u8) w A0_7 l0_7.length l0_7) (hc0_7 : l0_7.length ≤ c0_7) (h : impl_OpFault.f k a0_0 a0_1 a0_2 l0_3 a0_4 a0_5 a0_6 l0_7 = some r) :
 Calls Try.prog 44 #[.agg #[.int .i64 a0_0, .string a0_1, .string a0_2, .slice A0_3 l0_3.length c0_3, .int .i64 a0_4, .int .i64 a0_5, .int .i64 a0_6, .slice A0_7 l0_7.length c0_7]] w fun e w' => e = .returned (.int .i64 r) ∧ Below w.heap.size w w' := by
 have hu37 := Try.underlying37; have HR0_3 := Aside0.mk hr0_3; have HC0_3 := Aside0.mk hc0_3; clear hr0_3 hc0_3; have HR0_7 := Aside0.mk hr0_7; have HC0_7 := Aside0.mk hc0_7; clear hr0_7 hc0_7; have HB := Aside0.mk (Below.refl w.heap.size w); have H := h; unfold impl_OpFault.f at H; clear h; have HC2 := Aside0.mk H; clear H
 go_enter Try.func44, Try.ntmps44
 go_upto_region 1 with (first | ((with_reducible refine gate_dst (N := 1) rfl ?_); refine box_event ?hg (N := 1) ?hd (cs := #[.int .i64 a0_0, .string a0_1, .string a0_2, .slice A0_3 l0_3.length c0_3, .int .i64 a0_4, .int .i64 a0_5, .int .i64 a0_6, .slice A0_7 l0_7.length c0_7]) (t := 37) ?hr ?_; (case hd => rfl); (case hg => rfl); (case hr => first | (go_simp; done) | (go_simp; rfl)); intro gb236 hg w3 hbox hb; have BK236 := Aside0.mk hbox; have GW236 := gu_ hg HB; have GE236 := gu_ hg HB; replace HB := bs_ HB hb; clear hb hbox hg))
 (try simp only [Act.put, List.setIfInBounds_toArray, List.set_cons_zero, List.set_cons_succ])
 go_cut [3] (fun v3 wc => ∃ (kq : Nat) (x3_1 : Bool), v3 = .bool x3_1 ∧ Aside0 (impl_OpFault.j0 kq x3_1 a0_0 a0_1 a0_2 l0_3 a0_4 a0_5 a0_6 l0_7 = some r) ∧ Aside0 (kq ≤ k) ∧ Aside0 (wc.heap[gb236]? = some (.cells #[.int .i64 a0_0, .string a0_1, .string a0_2, (.slice A0_3 l0_3.length c0_3), .int .i64 a0_4, .int .i64 a0_5, .int .i64 a0_6, (.slice A0_7 l0_7.length c0_7)] 37 (0, 0))) ∧ Aside0 (Below w.heap.size w wc))
 case first =>
  have H := HC2.out; clear HC2; obtain ⟨t237, A4, H⟩ := bd_ H; (try dsimp only at H)
  by_cases c5 : t237 = true
  ·
   subst c5; (try rw [if_pos rfl] at H); obtain ⟨t238, A6, H⟩ := bd_ H; (try dsimp only at H); have H' := Aside0.mk H; clear H; obtain ⟨_, _, _, _, _, _, _, _⟩ := blk_cells8 BK236.out; obtain ⟨_, _, _, _, _, _, _, _⟩ := blk_frozen8 BK236.out
   go_wp2_with (first | ((with_reducible refine gate_callee (f := 76) rfl ?_); refine goesY_ (some 6) Try.func76 #[.int .i64 a0_0, .int .i64 1, .int .i64 7] rfl ?_; (with_reducible refine (impl_within.calls a0_0 1 7 true _ A4.out).mono ?_); rintro e w' ⟨rfl, ⟨nd, rfl⟩⟩; refine ⟨_, rfl, ?_⟩) | (go_at_call 77; (with_reducible refine (impl_Op_isOnly.calls a0_0 a0_1 a0_2 _ _ l0_3 a0_4 a0_5 a0_6 _ _ l0_7 t238 _ ?_ ?_ ?_ ?_ A6.out).mono ?_); exact Kd.C_below HR0_3.out (HB_up HB.out); exact HC0_3.out; exact Kd.C_below HR0_7.out (HB_up HB.out); exact HC0_7.out; rintro e w8 ⟨rfl, hb⟩; replace BK236 := bb_ BK236 hb; replace HB := bs_ HB hb; (try clear hb)))
   go_meet
   case rel => exact ⟨_, (!t238), vl_, H', ⟨le_⟩, ⟨blk_up BK236.out⟩, ⟨hs_⟩⟩
  ·
   replace c5 := Bool.eq_false_iff.mpr c5; subst c5; (try rw [if_neg (show ¬ (false = true) by decide)] at H); have H' := Aside0.mk H; clear H; obtain ⟨_, _, _, _, _, _, _, _⟩ := blk_cells8 BK236.out; obtain ⟨_, _, _, _, _, _, _, _⟩ := blk_frozen8 BK236.out
   go_wp2_with (first | ((with_reducible refine gate_callee (f := 76) rfl ?_); refine goesY_ (some 6) Try.func76 #[.int .i64 a0_0, .int .i64 1, .int .i64 7] rfl ?_; (with_reducible refine (impl_within.calls a0_0 1 7 false _ A4.out).mono ?_); rintro e w' ⟨rfl, ⟨nd, rfl⟩⟩; refine ⟨_, rfl, ?_⟩))
   go_meet
   case rel => exact ⟨_, (true), vl_, H', ⟨le_⟩, ⟨blk_up BK236.out⟩, ⟨hs_⟩⟩
 case rest =>
  clear HC2; obtain ⟨kq, x3_1, rfl, HA, HJ1, BK236, HB⟩ := hcut
  cases kq with
  | zero => exact absurd HA.out (by simp [impl_OpFault.j0])
  | succ kj1 =>
    have H := HA.out; clear HA; simp only [impl_OpFault.j0] at H
    by_cases c10 : x3_1 = true
    ·
     subst c10; (try rw [if_pos rfl] at H); obtain rfl := Option.some.inj H
     go_wp2
     go_ret
     exact ⟨ve_, hs_⟩
    ·
     replace c10 := Bool.eq_false_iff.mpr c10; subst c10; (try rw [if_neg (show ¬ (false = true) by decide)] at H); have HC11 := Aside0.mk H; clear H
     go_upto_region 3 with (fail)
     (try simp only [Act.put, List.setIfInBounds_toArray, List.set_cons_zero, List.set_cons_succ])
     go_cut [13] (fun v13 wc => ∃ (kq : Nat) (x13_10 : Bool), v13 = .bool x13_10 ∧ Aside0 (impl_OpFault.j1 kq x13_10 a0_0 a0_1 a0_2 l0_3 a0_4 a0_5 a0_6 l0_7 = some r) ∧ Aside0 (kq ≤ kj1) ∧ Aside0 (wc.heap[gb236]? = some (.cells #[.int .i64 a0_0, .string a0_1, .string a0_2, (.slice A0_3 l0_3.length c0_3), .int .i64 a0_4, .int .i64 a0_5, .int .i64 a0_6, (.slice A0_7 l0_7.length c0_7)] 37 (0, 0))) ∧ Aside0 (Below w.heap.size w wc))
     case first =>
      have H := HC11.out; clear HC11; obtain ⟨t239, A12, H⟩ := bd_ H; (try dsimp only at H)
      by_cases c13 : t239 = true
      ·
       subst c13; (try rw [if_pos rfl] at H); obtain ⟨t240, A14, H⟩ := bd_ H; (try dsimp only at H)
       by_cases c15 : t240 = true
       ·
        subst c15; (try rw [if_pos rfl] at H); obtain ⟨t241, A16, H⟩ := bd_ H; (try dsimp only at H); have H' := Aside0.mk H; clear H; obtain ⟨_, _, _, _, _, _, _, _⟩ := blk_cells8 BK236.out; obtain ⟨_, _, _, _, _, _, _, _⟩ := blk_frozen8 BK236.out
        go_wp2_with (first | ((with_reducible refine gate_callee (f := 78) rfl ?_); refine goesY_ (some 16) Try.func78 #[.string a0_1] rfl ?_; (with_reducible refine (impl_isName.calls kj1 a0_1 true _ A12.out).mono ?_); rintro e w' ⟨rfl, ⟨nd, rfl⟩⟩; refine ⟨_, rfl, ?_⟩) | (go_at_call 79; (with_reducible refine (impl_Op_hasTo.calls a0_0 a0_1 a0_2 _ _ l0_3 a0_4 a0_5 a0_6 _ _ l0_7 true _ ?_ ?_ ?_ ?_ A14.out).mono ?_); exact Kd.C_below HR0_3.out (HB_up HB.out); exact HC0_3.out; exact Kd.C_below HR0_7.out (HB_up HB.out); exact HC0_7.out; rintro e w18 ⟨rfl, hb⟩; replace BK236 := bb_ BK236 hb; replace HB := bs_ HB hb; (try clear hb); obtain ⟨_, _, _, _, _, _, _, _⟩ := blk_cells8 BK236.out; obtain ⟨_, _, _, _, _, _, _, _⟩ := blk_frozen8 BK236.out) | (go_at_call 78; (with_reducible refine (impl_isName.calls kj1 a0_2 t241 _ A16.out).mono ?_); rintro e w' ⟨rfl, ⟨nd, rfl⟩⟩))
        go_meet
        case rel => exact ⟨_, (!t241), vl_, H', ⟨by have := HJ1.out; first | omega | exact Nat.le_refl _⟩, ⟨blk_up BK236.out⟩, ⟨hs_⟩⟩
       ·
        replace c15 := Bool.eq_false_iff.mpr c15; subst c15; (try rw [if_neg (show ¬ (false = true) by decide)] at H); have H' := Aside0.mk H; clear H; obtain ⟨_, _, _, _, _, _, _, _⟩ := blk_cells8 BK236.out; obtain ⟨_, _, _, _, _, _, _, _⟩ := blk_frozen8 BK236.out
        go_wp2_with (first | ((with_reducible refine gate_callee (f := 78) rfl ?_); refine goesY_ (some 16) Try.func78 #[.string a0_1] rfl ?_; (with_reducible refine (impl_isName.calls kj1 a0_1 true _ A12.out).mono ?_); rintro e w' ⟨rfl, ⟨nd, rfl⟩⟩; refine ⟨_, rfl, ?_⟩) | (go_at_call 79; (with_reducible refine (impl_Op_hasTo.calls a0_0 a0_1 a0_2 _ _ l0_3 a0_4 a0_5 a0_6 _ _ l0_7 false _ ?_ ?_ ?_ ?_ A14.out).mono ?_); exact Kd.C_below HR0_3.out (HB_up HB.out); exact HC0_3.out; exact Kd.C_below HR0_7.out (HB_up HB.out); exact HC0_7.out; rintro e w21 ⟨rfl, hb⟩; replace BK236 := bb_ BK236 hb; replace HB := bs_ HB hb; (try clear hb)))
        go_meet
        case rel => exact ⟨_, (false), vl_, H', ⟨by have := HJ1.out; first | omega | exact Nat.le_refl _⟩, ⟨blk_up BK236.out⟩, ⟨hs_⟩⟩
      ·
       replace c13 := Bool.eq_false_iff.mpr c13; subst c13; (try rw [if_neg (show ¬ (false = true) by decide)] at H); have H' := Aside0.mk H; clear H; obtain ⟨_, _, _, _, _, _, _, _⟩ := blk_cells8 BK236.out; obtain ⟨_, _, _, _, _, _, _, _⟩ := blk_frozen8 BK236.out
       go_wp2_with (first | ((with_reducible refine gate_callee (f := 78) rfl ?_); refine goesY_ (some 16) Try.func78 #[.string a0_1] rfl ?_; (with_reducible refine (impl_isName.calls kj1 a0_1 false _ A12.out).mono ?_); rintro e w' ⟨rfl, ⟨nd, rfl⟩⟩; refine ⟨_, rfl, ?_⟩))
       go_meet
       case rel => exact ⟨_, (true), vl_, H', ⟨by have := HJ1.out; first | omega | exact Nat.le_refl _⟩, ⟨blk_up BK236.out⟩, ⟨hs_⟩⟩
     case rest =>
      clear HC11; (try clear c10); obtain ⟨kq, x13_10, rfl, HA, HJ10, BK236, HB⟩ := hcut
      cases kq with
      | zero => exact absurd HA.out (by simp [impl_OpFault.j1])
      | succ kj10 =>
        have H := HA.out; clear HA; simp only [impl_OpFault.j1] at H
        by_cases c23 : x13_10 = true
        ·
         subst c23; (try rw [if_pos rfl] at H); obtain rfl := Option.some.inj H
         go_wp2
         go_ret
         exact ⟨ve_, hs_⟩
        ·
         replace c23 := Bool.eq_false_iff.mpr c23; subst c23; (try rw [if_neg (show ¬ (false = true) by decide)] at H)
         by_cases c24 : (l0_3.length : Int) > 6
         ·
          rw [if_pos c24] at H; have c24b0 : decide (6 < (l0_3.length : Int)) = true := decide_eq_true c24; have c24b1 : decide (6 < l0_3.length) = true := decide_eq_true (by omega); clear c24; obtain rfl := Option.some.inj H; obtain ⟨_, _, _, _, _, _, _, _⟩ := blk_cells8 BK236.out; obtain ⟨_, _, _, _, _, _, _, _⟩ := blk_frozen8 BK236.out
          go_wp2
          go_ret
          exact ⟨ve_, hs_⟩
         ·
          rw [if_neg c24] at H; have c24b0 : decide (6 < (l0_3.length : Int)) = false := decide_eq_false c24; have c24b1 : decide (6 < l0_3.length) = false := decide_eq_false (by omega); clear c24; have HC26 := Aside0.mk H; clear H; obtain ⟨hcz27_0, hcz27_1, hcz27_2, hcz27_3, hcz27_4, hcz27_5, hcz27_6, hcz27_7⟩ := blk_cells8 BK236.out; obtain ⟨hfz27_0, hfz27_1, hfz27_2, hfz27_3, hfz27_4, hfz27_5, hfz27_6, hfz27_7⟩ := blk_frozen8 BK236.out
          go_upto_region 7 with (fail)
          (try simp only [Act.put, List.setIfInBounds_toArray, List.set_cons_zero, List.set_cons_succ])
          go_cut [33] (fun v33 wc => ∃ (kq : Nat) (x33_25 : Bool), v33 = .bool x33_25 ∧ Aside0 (impl_OpFault.j2 kq x33_25 a0_0 a0_1 a0_2 l0_3 a0_4 a0_5 a0_6 l0_7 = some r) ∧ Aside0 (kq ≤ kj10) ∧ Aside0 (wc.heap[gb236]? = some (.cells #[.int .i64 a0_0, .string a0_1, .string a0_2, (.slice A0_3 l0_3.length c0_3), .int .i64 a0_4, .int .i64 a0_5, .int .i64 a0_6, (.slice A0_7 l0_7.length c0_7)] 37 (0, 0))) ∧ Aside0 (Below w.heap.size w wc))
          case first =>
           have H := HC26.out; clear HC26; obtain ⟨t242, A28, H⟩ := bd_ H; (try dsimp only at H)
           by_cases c29 : t242 = true
           ·
            subst c29; (try rw [if_pos rfl] at H)
            by_cases c30 : a0_0 = 4
            ·
             rw [if_pos c30] at H; have c30b0 : (a0_0 == 4) = true := beq_iff_eq.mpr c30; have c30b1 : (a0_0 != 4) = false := bne_eq_false_iff_eq.mpr c30; clear c30; (first | rw [c30b0] | (simp only [i64_w, i32_w]; rw [c30b0]) | skip); obtain ⟨t243, A31, H⟩ := bd_ H; (try dsimp only at H)
             by_cases c32 : t243 = true
             ·
              subst c32; (try rw [if_pos rfl] at H); obtain ⟨t244, A33, H⟩ := bd_ H; (try dsimp only at H)
              by_cases c34 : t244 = true
              ·
               subst c34; (try rw [if_pos rfl] at H); obtain ⟨t245, A35, H⟩ := bd_ H; (try dsimp only at H); have H' := Aside0.mk H; clear H; obtain ⟨_, _, _, _, _, _, _, _⟩ := blk_cells8 BK236.out; obtain ⟨_, _, _, _, _, _, _, _⟩ := blk_frozen8 BK236.out
               go_wp2_with (first | ((with_reducible refine gate_callee (f := 80) rfl ?_); refine goesY_ (some 36) Try.func80 #[.slice A0_3 l0_3.length c0_3] rfl ?_; (with_reducible refine (impl_areUids.calls kj10 _ _ l0_3 true _ ?_ ?_ A28.out).mono ?_); exact cu_ HR0_3 HB; exact HC0_3.out; rintro e w' ⟨rfl, ⟨nd, rfl⟩⟩; refine ⟨_, rfl, ?_⟩) | (go_at_call 76; (with_reducible refine (impl_within.calls a0_4 1 3 true _ A31.out).mono ?_); rintro e w' ⟨rfl, ⟨nd, rfl⟩⟩) | (go_at_call 81; (with_reducible refine (impl_areFlags.calls a0_5 true _ A33.out).mono ?_); rintro e w' ⟨rfl, ⟨nd, rfl⟩⟩) | (go_at_call 82; (with_reducible refine (impl_isDate.calls a0_6 t245 _ A35.out).mono ?_); rintro e w' ⟨rfl, ⟨nd, rfl⟩⟩))
               go_meet
               case rel => exact ⟨_, (!t245), vl_, H', ⟨by have := HJ1.out; have := HJ10.out; first | omega | exact Nat.le_refl _⟩, ⟨blk_up BK236.out⟩, ⟨hs_⟩⟩
              ·
               replace c34 := Bool.eq_false_iff.mpr c34; subst c34; (try rw [if_neg (show ¬ (false = true) by decide)] at H); have H' := Aside0.mk H; clear H; obtain ⟨_, _, _, _, _, _, _, _⟩ := blk_cells8 BK236.out; obtain ⟨_, _, _, _, _, _, _, _⟩ := blk_frozen8 BK236.out
               go_wp2_with (first | ((with_reducible refine gate_callee (f := 80) rfl ?_); refine goesY_ (some 36) Try.func80 #[.slice A0_3 l0_3.length c0_3] rfl ?_; (with_reducible refine (impl_areUids.calls kj10 _ _ l0_3 true _ ?_ ?_ A28.out).mono ?_); exact cu_ HR0_3 HB; exact HC0_3.out; rintro e w' ⟨rfl, ⟨nd, rfl⟩⟩; refine ⟨_, rfl, ?_⟩) | (go_at_call 76; (with_reducible refine (impl_within.calls a0_4 1 3 true _ A31.out).mono ?_); rintro e w' ⟨rfl, ⟨nd, rfl⟩⟩) | (go_at_call 81; (with_reducible refine (impl_areFlags.calls a0_5 false _ A33.out).mono ?_); rintro e w' ⟨rfl, ⟨nd, rfl⟩⟩))
               go_meet
               case rel => exact ⟨_, (true), vl_, H', ⟨by have := HJ1.out; have := HJ10.out; first | omega | exact Nat.le_refl _⟩, ⟨blk_up BK236.out⟩, ⟨hs_⟩⟩
             ·
              replace c32 := Bool.eq_false_iff.mpr c32; subst c32; (try rw [if_neg (show ¬ (false = true) by decide)] at H); have H' := Aside0.mk H; clear H; obtain ⟨_, _, _, _, _, _, _, _⟩ := blk_cells8 BK236.out; obtain ⟨_, _, _, _, _, _, _, _⟩ := blk_frozen8 BK236.out
              go_wp2_with (first | ((with_reducible refine gate_callee (f := 80) rfl ?_); refine goesY_ (some 36) Try.func80 #[.slice A0_3 l0_3.length c0_3] rfl ?_; (with_reducible refine (impl_areUids.calls kj10 _ _ l0_3 true _ ?_ ?_ A28.out).mono ?_); exact cu_ HR0_3 HB; exact HC0_3.out; rintro e w' ⟨rfl, ⟨nd, rfl⟩⟩; refine ⟨_, rfl, ?_⟩) | (go_at_call 76; (with_reducible refine (impl_within.calls a0_4 1 3 false _ A31.out).mono ?_); rintro e w' ⟨rfl, ⟨nd, rfl⟩⟩))
              go_meet
              case rel => exact ⟨_, (true), vl_, H', ⟨by have := HJ1.out; have := HJ10.out; first | omega | exact Nat.le_refl _⟩, ⟨blk_up BK236.out⟩, ⟨hs_⟩⟩
            ·
             rw [if_neg c30] at H; have c30b0 : (a0_0 == 4) = false := beq_eq_false_iff_ne.mpr c30; have c30b1 : (a0_0 != 4) = true := bne_iff_ne.mpr c30; (first | rw [c30b0] | (simp only [i64_w, i32_w]; rw [c30b0]) | skip); obtain ⟨t246, A39, H⟩ := bd_ H; (try dsimp only at H)
             by_cases c40 : t246 = true
             ·
              subst c40; (try rw [if_pos rfl] at H); obtain ⟨t247, A41, H⟩ := bd_ H; (try dsimp only at H); have H' := Aside0.mk H; clear H; obtain ⟨_, _, _, _, _, _, _, _⟩ := blk_cells8 BK236.out; obtain ⟨_, _, _, _, _, _, _, _⟩ := blk_frozen8 BK236.out
              go_wp2_with (first | ((with_reducible refine gate_callee (f := 80) rfl ?_); refine goesY_ (some 36) Try.func80 #[.slice A0_3 l0_3.length c0_3] rfl ?_; (with_reducible refine (impl_areUids.calls kj10 _ _ l0_3 true _ ?_ ?_ A28.out).mono ?_); exact cu_ HR0_3 HB; exact HC0_3.out; rintro e w' ⟨rfl, ⟨nd, rfl⟩⟩; refine ⟨_, rfl, ?_⟩) | (go_at_call 81; (with_reducible refine (impl_areFlags.calls a0_5 true _ A39.out).mono ?_); rintro e w' ⟨rfl, ⟨nd, rfl⟩⟩) | (go_at_call 82; (with_reducible refine (impl_isDate.calls a0_6 t247 _ A41.out).mono ?_); rintro e w' ⟨rfl, ⟨nd, rfl⟩⟩))
              go_meet
              case rel => exact ⟨_, (!t247), vl_, H', ⟨by have := HJ1.out; have := HJ10.out; first | omega | exact Nat.le_refl _⟩, ⟨blk_up BK236.out⟩, ⟨hs_⟩⟩
             ·
              replace c40 := Bool.eq_false_iff.mpr c40; subst c40; (try rw [if_neg (show ¬ (false = true) by decide)] at H); have H' := Aside0.mk H; clear H; obtain ⟨_, _, _, _, _, _, _, _⟩ := blk_cells8 BK236.out; obtain ⟨_, _, _, _, _, _, _, _⟩ := blk_frozen8 BK236.out
              go_wp2_with (first | ((with_reducible refine gate_callee (f := 80) rfl ?_); refine goesY_ (some 36) Try.func80 #[.slice A0_3 l0_3.length c0_3] rfl ?_; (with_reducible refine (impl_areUids.calls kj10 _ _ l0_3 true _ ?_ ?_ A28.out).mono ?_); exact cu_ HR0_3 HB; exact HC0_3.out; rintro e w' ⟨rfl, ⟨nd, rfl⟩⟩; refine ⟨_, rfl, ?_⟩) | (go_at_call 81; (with_reducible refine (impl_areFlags.calls a0_5 false _ A39.out).mono ?_); rintro e w' ⟨rfl, ⟨nd, rfl⟩⟩))
              go_meet
              case rel => exact ⟨_, (true), vl_, H', ⟨by have := HJ1.out; have := HJ10.out; first | omega | exact Nat.le_refl _⟩, ⟨blk_up BK236.out⟩, ⟨hs_⟩⟩
           ·
            replace c29 := Bool.eq_false_iff.mpr c29; subst c29; (try rw [if_neg (show ¬ (false = true) by decide)] at H); have H' := Aside0.mk H; clear H; obtain ⟨_, _, _, _, _, _, _, _⟩ := blk_cells8 BK236.out; obtain ⟨_, _, _, _, _, _, _, _⟩ := blk_frozen8 BK236.out
            go_wp2_with (first | ((with_reducible refine gate_callee (f := 80) rfl ?_); refine goesY_ (some 36) Try.func80 #[.slice A0_3 l0_3.length c0_3] rfl ?_; (with_reducible refine (impl_areUids.calls kj10 _ _ l0_3 false _ ?_ ?_ A28.out).mono ?_); exact cu_ HR0_3 HB; exact HC0_3.out; rintro e w' ⟨rfl, ⟨nd, rfl⟩⟩; refine ⟨_, rfl, ?_⟩))
            go_meet
            case rel => exact ⟨_, (true), vl_, H', ⟨by have := HJ1.out; have := HJ10.out; first | omega | exact Nat.le_refl _⟩, ⟨blk_up BK236.out⟩, ⟨hs_⟩⟩
          case rest =>
           clear HC26; (try clear c10); (try clear c23); (try clear c24); (try clear c24b0); (try clear c24b1); (try clear hcz27_0); (try clear hcz27_1); (try clear hcz27_2); (try clear hcz27_3); (try clear hcz27_4); (try clear hcz27_5); (try clear hcz27_6); (try clear hcz27_7); (try clear hfz27_0); (try clear hfz27_1); (try clear hfz27_2); (try clear hfz27_3); (try clear hfz27_4); (try clear hfz27_5); (try clear hfz27_6); (try clear hfz27_7); obtain ⟨kq, x33_25, rfl, HA, HJ25, BK236, HB⟩ := hcut
           cases kq with
           | zero => exact absurd HA.out (by simp [impl_OpFault.j2])
           | succ kj25 =>
             have H := HA.out; clear HA; simp only [impl_OpFault.j2] at H
             by_cases c45 : x33_25 = true
             ·
              subst c45; (try rw [if_pos rfl] at H); obtain rfl := Option.some.inj H
              go_wp2
              go_ret
              exact ⟨ve_, hs_⟩
             ·
              replace c45 := Bool.eq_false_iff.mpr c45; subst c45; (try rw [if_neg (show ¬ (false = true) by decide)] at H)
              by_cases c46 : (l0_7.length : Int) > 400
              ·
               rw [if_pos c46] at H; have c46b0 : decide (400 < (l0_7.length : Int)) = true := decide_eq_true c46; have c46b1 : decide (400 < l0_7.length) = true := decide_eq_true (by omega); clear c46; obtain rfl := Option.some.inj H; obtain ⟨_, _, _, _, _, _, _, _⟩ := blk_cells8 BK236.out; obtain ⟨_, _, _, _, _, _, _, _⟩ := blk_frozen8 BK236.out
               go_wp2
               go_ret
               exact ⟨ve_, hs_⟩
              ·
               rw [if_neg c46] at H; have c46b0 : decide (400 < (l0_7.length : Int)) = false := decide_eq_false c46; have c46b1 : decide (400 < l0_7.length) = false := decide_eq_false (by omega); clear c46; obtain rfl := Option.some.inj H; obtain ⟨_, _, _, _, _, _, _, _⟩ := blk_cells8 BK236.out; obtain ⟨_, _, _, _, _, _, _, _⟩ := blk_frozen8 BK236.out
               go_wp2
               go_ret
               exact ⟨ve_, hs_⟩

/-! ### impl_length_byte: function 88 -/
def impl_length_byte.f (l0 : List Int) : Option (Int) := some (l0.length : Int)
theorem impl_length_byte.calls (A0 : Option Addr) (c0 : Nat) (l0 : List Int) (r : Int) (w : World) (hr0 : Kd.C (Kd.int .u8) w A0 l0.length l0) (hc0 : l0.length ≤ c0) (h : impl_length_byte.f l0 = some r) :
 Calls Try.prog 88 #[.slice A0 l0.length c0] w fun e w' => e = .returned (.int .i64 r) ∧ Drawn0 w w' := by
 have HR0 := Aside0.mk hr0; have HC0 := Aside0.mk hc0; clear hr0 hc0; have H := h; unfold impl_length_byte.f at H; clear h; obtain rfl := Option.some.inj H
 go_enter Try.func88, Try.ntmps88
 go_wp2
 go_ret
 exact ⟨vl_, dr_⟩

/-! ### impl_two: function 96 -/
def impl_two.f (a0 : Int) : Option (List Int) := some (([(wrap64 (Int.tdiv a0 256)) % 256, (Int.tmod a0 256) % 256] : List Int))
theorem impl_two.calls (a0 : Int) (r : List Int) (w : World) (h : impl_two.f a0 = some r) :
 Calls Try.prog 96 #[.int .i64 a0] w fun e w' => ∃ v0_ : Value, e = .returned (v0_) ∧ Kd.R (Kd.int .u8) 5 w' w.heap.size (fun _ => True) v0_ r ∧ Below w.heap.size w w' := by
 have HB := Aside0.mk (Below.refl w.heap.size w); have H := h; unfold impl_two.f at H; clear h; generalize hy248 : (([(wrap64 (Int.tdiv a0 256)) % 256, (Int.tmod a0 256) % 256] : List Int)) = y248 at H; have Ny248 := Aside0.mk hy248.symm; clear hy248; obtain rfl := Option.some.inj H
 go_enter Try.func96, Try.ntmps96
 go_wp2_with (first | ((with_reducible refine gate_dst (N := 9) rfl ?_); refine Kd.R_lit (Kd.int .u8) _ 5 ?hg (N := 9) ?hd (xs := ([(wrap64 (Int.tdiv a0 256)) % 256, (Int.tmod a0 256) % 256] : List Int)) (inner := [.int .u8 ((wrap64 (Int.tdiv a0 256)) % 256), .int .u8 ((Int.tmod a0 256) % 256)]) (ok := fun _ => True) (okp := fun _ => True) ?hr ?hp (fun _ hk => hk) trivial (Below.refl _ _) (Nat.le_refl _) (by simp) ?_; (case hd => rfl); (case hg => rfl); (case hr => first | (go_simp; done) | (go_simp; rfl)); (case hp => exact (Reps.one (show Kd.M (Kd.int .u8) _ _ _ ((wrap64 (Int.tdiv a0 256)) % 256) [.int .u8 ((wrap64 (Int.tdiv a0 256)) % 256)] from rfl) (Reps.one (show Kd.M (Kd.int .u8) _ _ _ ((Int.tmod a0 256) % 256) [.int .u8 ((Int.tmod a0 256) % 256)] from rfl) (Reps.none _ _)))); intro v249 w2 ho3 hb hg_ hnew_; clear hg_ hnew_; (first | rw [← Ny248.out] at ho3 | (simp only [Int.reduceToNat] at ho3; rw [← Ny248.out] at ho3)); have HO250 := rl_ ho3 HB; replace HB := bs_ HB hb; clear hb ho3))
 go_ret
 exact ⟨_, ve_, R_up HO250.out, hb_⟩

/-! ### impl_sumOf: function 97 -/
def impl_sumOf.l0 : Nat → Int → List Int → Int → Int → Option (Int)
 | 0, _, _, _, _ => none
 | k + 1, x3, x6, x7, x8 => if x8 < x7 then (if 0 ≤ x8 then (if x8 < (x6.length : Int) then (impl_sumOf.l0 k (Int.tmod (wrap64 ((wrap64 (x3 * 31)) + (wrap64 (rd x6 x8)))) 65521) x6 x7 (wrap64 (x8 + 1))) else (none)) else (none)) else (some x3)
def impl_sumOf.f (k : Nat) (l0 : List Int) : Option (Int) := impl_sumOf.l0 k 1 l0 (l0.length : Int) 0
theorem impl_sumOf.calls (k : Nat) (A0 : Option Addr) (c0 : Nat) (l0 : List Int) (r : Int) (w : World) (hr0 : Kd.C (Kd.int .u8) w A0 l0.length l0) (hc0 : l0.length ≤ c0) (h : impl_sumOf.f k l0 = some r) :
 Calls Try.prog 97 #[.slice A0 l0.length c0] w fun e w' => e = .returned (.int .i64 r) ∧ Drawn0 w w' := by
 have HR0 := Aside0.mk hr0; have HC0 := Aside0.mk hc0; clear hr0 hc0; have H := h; unfold impl_sumOf.f at H; clear h; have H' := Aside0.mk H; clear H
 go_enter Try.func97, Try.ntmps97
 go_wp2
 go_loopg [3, 8] k (fun kq v3 v8 w' => ∃ (x3_1 : Int) (x8_1 : Int), v3 = .int .i64 x3_1 ∧ v8 = .int .i64 x8_1 ∧ Aside0 (impl_sumOf.l0 kq x3_1 l0 (l0.length : Int) x8_1 = some r) ∧ Aside0 (kq ≤ k) ∧ Drawn0 w w')
 case atStart => exact ⟨(1), (0), vl_, vl_, H', ⟨Nat.le_refl _⟩, dr_⟩
 case round =>
  clear H'; obtain ⟨x3_1, x8_1, rfl, rfl, HA, HK1, ⟨m1, rfl⟩⟩ := hrel
  cases gk with
  | zero => exact absurd HA.out (by simp [impl_sumOf.l0])
  | succ k1 =>
    have H := HA.out; clear HA; simp only [impl_sumOf.l0] at H
    by_cases c2 : x8_1 < (l0.length : Int)
    ·
     rw [if_pos c2] at H; have c2b0 : decide (x8_1 < (l0.length : Int)) = true := decide_eq_true c2; clear c2
     by_cases c3 : 0 ≤ x8_1
     ·
      rw [if_pos c3] at H; have c3b0 : decide (0 ≤ x8_1) = true := decide_eq_true c3; clear c3
      by_cases c4 : x8_1 < (l0.length : Int)
      ·
       rw [if_pos c4] at H; have c4b0 : decide (x8_1 < (l0.length : Int)) = true := decide_eq_true c4; clear c4; have H' := Aside0.mk H; clear H; have p251 : 0 ≤ (x8_1 : Int) := od_; have q251 : x8_1 < (l0.length : Int) := od_; obtain ⟨ad251, e251, hx251_0⟩ := Kd.at_int HR0.out x8_1 p251 q251
       cases e251
       replace p251 := eq_true p251; replace q251 := eq_true q251
       go_wp2
       go_roundg k1
       case measure => have := HK1.out; omega
       case rel => exact ⟨(Int.tmod (wrap64 ((wrap64 (x3_1 * 31)) + (wrap64 (rd l0 x8_1)))) 65521), (wrap64 (x8_1 + 1)), vl_, vl_, H', ⟨by have := HK1.out; omega⟩, dr_⟩
      · rw [if_neg c4] at H
        exact absurd H (by simp)
     · rw [if_neg c3] at H
       exact absurd H (by simp)
    ·
     rw [if_neg c2] at H; have c2b0 : decide (x8_1 < (l0.length : Int)) = false := decide_eq_false c2; clear c2; obtain rfl := Option.some.inj H
     go_wp2
     go_ret
     exact ⟨vl_, dr_⟩

end Go.Proofs.Ytehdbobpbcjmeaa.PFnJournals

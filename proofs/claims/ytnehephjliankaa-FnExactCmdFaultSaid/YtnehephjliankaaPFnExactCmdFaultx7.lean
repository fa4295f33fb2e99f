/- Functions of the program as Lean functions, each with the proof that its call comes to what that function says (texts written by a program of this session). Conditions: those that stand in each theorem. -/
import Derived.Test.YtnehephjliankaaPFnExactCmdFaultx0
import Derived.Test.YtnehephjliankaaPFnExactCmdFaultx1
import Derived.Test.YtnehephjliankaaPFnExactCmdFaultx2
import Derived.Test.YtnehephjliankaaPFnExactCmdFaultx3
import Derived.Test.YtnehephjliankaaPFnExactCmdFaultx4
import Derived.Test.YtnehephjliankaaPFnExactCmdFaultx5
import Derived.Test.YtnehephjliankaaPFnExactCmdFaultx6
namespace Go.Proofs.Ytnehephjliankaa.PFnExactCmdFault
open Go.RowKit Go.Proofs.YtnehephjliankaaW.PrintWords Go.Proofs.YtnehephjliankaaW.PrintLast Go.Proofs.YtnehephjliankaaW.PrintMore
attribute [local go_sem] max2_int min2_int max_two min_two max_three min_three max_four min_four   -- for this text's walks alone
set_option linter.unusedVariables false
set_option linter.unusedSimpArgs false

/-! ### spec_l12Fault: function 76 -/
mutual
def spec_l12Fault.j0 : Nat → List (S104) → Bool → Option (Int)
 | 0, _, _ => none
 | k + 1, x0, x12 => if x12 = true then (some 2) else (spec_l12Fault.l0 k x0 0)
def spec_l12Fault.l0 : Nat → List (S104) → Int → Option (Int)
 | 0, _, _ => none
 | k + 1, x0, x3 => if x3 < (x0.length : Int) then (if 0 ≤ x3 then ((spec_l12Form.f k (x0.drop (x3 : Int).toNat)).bind fun t197 => (if t197 = true then ((spec_l12Value.f k (x0.drop (x3 : Int).toNat)).bind fun t200 => (if t200 = 0 then ((spec_l12Behind.f k x0 x3).bind fun t201 => (if t201 = true then (spec_l12Fault.l0 k x0 (wrap64 (x3 + 1))) else (some 1))) else (some t200))) else (some 1))) else (none)) else ((spec_l12First.f k x0 (wrap64 ((x0.length : Int) - 1))).bind fun t194 => (if t194 = 0 then (some 0) else (some 1)))
end
def spec_l12Fault.f (k : Nat) (l0 : List (S104)) : Option (Int) := if (l0.length : Int) < 1 then (spec_l12Fault.j0 k l0 true) else (spec_l12Fault.j0 k l0 (decide ((l0.length : Int) > 12)))
set_option maxHeartbeats 8000000 in
set_option maxRecDepth 100000 in
theorem spec_l12Fault.calls (k : Nat) (A0 : Option Addr) (c0 : Nat) (l0 : List (S104)) (r : Int) (w : World) (hr0 : Kd.C k104 w A0 l0.length l0) (hc0 : l0.length ≤ c0) (h : spec_l12Fault.f k l0 = some r) :
 Calls Try.prog 76 #[.slice A0 l0.length c0] w fun e w' => e = .returned (.int .i64 r) ∧ Below w.heap.size w w' := by
 have HR0 := Aside0.mk hr0
 have HC0 := Aside0.mk hc0
 clear hr0 hc0
 have HB := Aside0.mk (Below.refl w.heap.size w)
 have H : (if (l0.length : Int) < 1 then (spec_l12Fault.j0 k l0 true) else (spec_l12Fault.j0 k l0 (decide ((l0.length : Int) > 12)))) = some r := h
 clear h
 have HC2 := Aside0.mk H
 clear H
 go_enter Try.func76, Try.ntmps76
 go_upto_region 1 with (fail)
 go_cut [12] (fun v12 wc => ∃ (kq : Nat) (x12_1 : Bool), v12 = .bool x12_1 ∧ Aside0 (spec_l12Fault.j0 kq l0 x12_1 = some r) ∧ Aside0 (kq ≤ k) ∧ Aside0 (Below w.heap.size w wc))
 case first =>
  have H := HC2.out
  clear HC2
  by_cases c3 : (l0.length : Int) < 1
  ·
   rw [if_pos c3] at H
   have c3b0 : decide ((l0.length : Int) < 1) = true := decide_eq_true c3
   have c3b1 : decide (l0.length < 1) = true := decide_eq_true (by omega)
   clear c3
   (first | rw [c3b0] | (simp only [i64_w, i32_w]; rw [c3b0]) | skip)
   have H' := Aside0.mk H
   clear H
   go_wp2
   go_meet
   case rel => exact ⟨_, (true), vl_, H', ⟨le_⟩, ⟨hb_⟩⟩
  ·
   rw [if_neg c3] at H
   have c3b0 : decide ((l0.length : Int) < 1) = false := decide_eq_false c3
   have c3b1 : decide (l0.length < 1) = false := decide_eq_false (by omega)
   clear c3
   (first | rw [c3b0] | (simp only [i64_w, i32_w]; rw [c3b0]) | skip)
   have H' := Aside0.mk H
   clear H
   go_wp2
   go_meet
   case rel => exact ⟨_, (decide ((l0.length : Int) > 12)), vl_, H', ⟨le_⟩, ⟨hb_⟩⟩
 case rest =>
  clear HC2
  obtain ⟨kq, x12_1, rfl, HA, HJ1, HB⟩ := hcut
  cases kq with
  | zero => exact absurd HA.out (by simp [spec_l12Fault.j0])
  | succ kj1 =>
    have H := HA.out
    clear HA
    simp only [spec_l12Fault.j0] at H
    by_cases c4 : x12_1 = true
    ·
     subst c4
     (try rw [if_pos rfl] at H)
     obtain rfl := Option.some.inj H
     go_wp2
     go_ret
     exact ⟨ve_, hb_⟩
    ·
     replace c4 := Bool.eq_false_iff.mpr c4
     subst c4
     (try rw [if_neg (show ¬ (false = true) by decide)] at H)
     have H' := Aside0.mk H
     clear H
     go_wp2
     go_loopg [3] kj1 (fun kq v3 w' => ∃ (x3_2 : Int), v3 = .int .i64 x3_2 ∧ Aside0 (spec_l12Fault.l0 kq l0 x3_2 = some r) ∧ Aside0 (kq ≤ kj1) ∧ Aside0 (Below w.heap.size w w'))
     case atStart => exact ⟨(0), vl_, H', ⟨Nat.le_refl _⟩, ⟨hb_⟩⟩
     case round =>
      clear H'
      try clear c4
      obtain ⟨x3_2, rfl, HA, HK2, HB⟩ := hrel
      cases gk with
      | zero => exact absurd HA.out (by simp [spec_l12Fault.l0])
      | succ k2 =>
        have H := HA.out
        clear HA
        simp only [spec_l12Fault.l0] at H
        by_cases c5 : x3_2 < (l0.length : Int)
        ·
         rw [if_pos c5] at H
         have c5b0 : decide (x3_2 < (l0.length : Int)) = true := decide_eq_true c5
         clear c5
         by_cases c6 : 0 ≤ x3_2
         case neg => rw [if_neg c6] at H; exact absurd H (by simp)
         rw [if_pos c6] at H
         have c6b0 : decide (0 ≤ x3_2) = true := decide_eq_true c6
         clear c6
         replace H := Option.bind_eq_some_iff.mp H
         obtain ⟨t197, A70, H⟩ := H
         (try dsimp only at H)
         have A7 := Aside0.mk A70
         clear A70
         have p195 : 0 ≤ (x3_2 : Int) := od_
         have q195 : x3_2 < (l0.length : Int) := od_
         obtain ⟨ad195, A195_2, c195_2, A195_3, c195_3, e195, hx195_0, hx195_1, hx195_2, hx195_3, hx195_4, hx195_5, hl195_2, hi195_2, hl195_3, hi195_3⟩ := at_T104 HR0.out x3_2 p195 q195
         cases e195
         replace hx195_0 := ck_ HB.out hx195_0
         replace hx195_1 := ck_ HB.out hx195_1
         replace hx195_2 := ck_ HB.out hx195_2
         replace hx195_3 := ck_ HB.out hx195_3
         replace hx195_4 := ck_ HB.out hx195_4
         replace hx195_5 := ck_ HB.out hx195_5
         have HR195_2 := Aside0.mk hi195_2
         have HC195_2 := Aside0.mk hl195_2
         clear hi195_2 hl195_2
         have HR195_3 := Aside0.mk hi195_3
         have HC195_3 := Aside0.mk hl195_3
         clear hi195_3 hl195_3
         replace p195 := eq_true p195
         replace q195 := eq_true q195
         by_cases c8 : t197 = true
         ·
          subst c8
          (try rw [if_pos rfl] at H)
          replace H := Option.bind_eq_some_iff.mp H
          obtain ⟨t200, A90, H⟩ := H
          (try dsimp only at H)
          have A9 := Aside0.mk A90
          clear A90
          by_cases c10 : t200 = 0
          ·
           rw [if_pos c10] at H
           have c10b0 : (t200 == 0) = true := beq_iff_eq.mpr c10
           have c10b1 : (t200 != 0) = false := bne_eq_false_iff_eq.mpr c10
           clear c10
           replace H := Option.bind_eq_some_iff.mp H
           obtain ⟨t201, A110, H⟩ := H
           (try dsimp only at H)
           have A11 := Aside0.mk A110
           clear A110
           by_cases c12 : t201 = true
           ·
            subst c12
            (try rw [if_pos rfl] at H)
            have H' := Aside0.mk H
            clear H
            have HRa196 := Aside0.mk (Kd.C_elem HR0.out (x3_2 : Int) (od_) (od_))
            go_wp2_with (first | ((with_reducible refine gate_callee (f := 124) rfl ?_); refine goesY_ (some 22) Try.func124 #[.pointer (some (ad195.add ((x3_2 : Int).toNat * 6)))] rfl ?_; (with_reducible refine (spec_l12Form.calls k2 _ (l0.drop (x3_2 : Int).toNat).length (l0.drop (x3_2 : Int).toNat) true _ ?_ ?_ A7.out).mono ?_); exact C_up (Kd.C_below HRa196.out HB.out); exact Nat.le_refl _; rintro e w' ⟨rfl, ⟨nd, rfl⟩⟩; refine ⟨_, rfl, ?_⟩; have HRa199 := Aside0.mk (Kd.C_elem HR0.out (x3_2 : Int) (od_) (od_))) | ((with_reducible refine gate_callee (f := 125) rfl ?_); refine goesY_ (some 27) Try.func125 #[.pointer (some (ad195.add ((x3_2 : Int).toNat * 6)))] rfl ?_; (with_reducible refine (spec_l12Value.calls k2 _ (l0.drop (x3_2 : Int).toNat).length (l0.drop (x3_2 : Int).toNat) t200 _ ?_ ?_ A9.out).mono ?_); exact Kd.C_below HRa199.out (HB_up HB.out); exact Nat.le_refl _; rintro e w' ⟨rfl, ⟨nd, rfl⟩⟩; refine ⟨_, rfl, ?_⟩) | ((with_reducible refine gate_callee (f := 126) rfl ?_); refine goesY_ (some 33) Try.func126 #[.slice (some ad195) l0.length c0, .int .i64 x3_2] rfl ?_; (with_reducible refine (spec_l12Behind.calls k2 _ _ l0 x3_2 true _ ?_ ?_ A11.out).mono ?_); exact Kd.C_below HR0.out (HB_up HB.out); exact HC0.out; rintro e w13 ⟨rfl, hb⟩; refine ⟨_, rfl, ?_⟩; replace HB := Aside0.mk (below_step (HB_up HB.out) hb); (try clear hb)))
            go_roundg k2
            case measure => have := HJ1.out; have := HK2.out; omega
            case rel => exact ⟨(wrap64 (x3_2 + 1)), vl_, H', ⟨by have := HJ1.out; have := HK2.out; omega⟩, ⟨hb_⟩⟩
           ·
            replace c12 := Bool.eq_false_iff.mpr c12
            subst c12
            (try rw [if_neg (show ¬ (false = true) by decide)] at H)
            obtain rfl := Option.some.inj H
            have HRa196 := Aside0.mk (Kd.C_elem HR0.out (x3_2 : Int) (od_) (od_))
            go_wp2_with (first | ((with_reducible refine gate_callee (f := 124) rfl ?_); refine goesY_ (some 22) Try.func124 #[.pointer (some (ad195.add ((x3_2 : Int).toNat * 6)))] rfl ?_; (with_reducible refine (spec_l12Form.calls k2 _ (l0.drop (x3_2 : Int).toNat).length (l0.drop (x3_2 : Int).toNat) true _ ?_ ?_ A7.out).mono ?_); exact C_up (Kd.C_below HRa196.out HB.out); exact Nat.le_refl _; rintro e w' ⟨rfl, ⟨nd, rfl⟩⟩; refine ⟨_, rfl, ?_⟩; have HRa199 := Aside0.mk (Kd.C_elem HR0.out (x3_2 : Int) (od_) (od_))) | ((with_reducible refine gate_callee (f := 125) rfl ?_); refine goesY_ (some 27) Try.func125 #[.pointer (some (ad195.add ((x3_2 : Int).toNat * 6)))] rfl ?_; (with_reducible refine (spec_l12Value.calls k2 _ (l0.drop (x3_2 : Int).toNat).length (l0.drop (x3_2 : Int).toNat) t200 _ ?_ ?_ A9.out).mono ?_); exact Kd.C_below HRa199.out (HB_up HB.out); exact Nat.le_refl _; rintro e w' ⟨rfl, ⟨nd, rfl⟩⟩; refine ⟨_, rfl, ?_⟩) | ((with_reducible refine gate_callee (f := 126) rfl ?_); refine goesY_ (some 33) Try.func126 #[.slice (some ad195) l0.length c0, .int .i64 x3_2] rfl ?_; (with_reducible refine (spec_l12Behind.calls k2 _ _ l0 x3_2 false _ ?_ ?_ A11.out).mono ?_); exact Kd.C_below HR0.out (HB_up HB.out); exact HC0.out; rintro e w14 ⟨rfl, hb⟩; refine ⟨_, rfl, ?_⟩; replace HB := Aside0.mk (below_step (HB_up HB.out) hb); (try clear hb)))
            go_ret
            exact ⟨ve_, hb_⟩
          ·
           rw [if_neg c10] at H
           have c10b0 : (t200 == 0) = false := beq_eq_false_iff_ne.mpr c10
           have c10b1 : (t200 != 0) = true := bne_iff_ne.mpr c10
           obtain rfl := Option.some.inj H
           have HRa196 := Aside0.mk (Kd.C_elem HR0.out (x3_2 : Int) (od_) (od_))
           go_wp2_with (first | ((with_reducible refine gate_callee (f := 124) rfl ?_); refine goesY_ (some 22) Try.func124 #[.pointer (some (ad195.add ((x3_2 : Int).toNat * 6)))] rfl ?_; (with_reducible refine (spec_l12Form.calls k2 _ (l0.drop (x3_2 : Int).toNat).length (l0.drop (x3_2 : Int).toNat) true _ ?_ ?_ A7.out).mono ?_); exact C_up (Kd.C_below HRa196.out HB.out); exact Nat.le_refl _; rintro e w' ⟨rfl, ⟨nd, rfl⟩⟩; refine ⟨_, rfl, ?_⟩; have HRa199 := Aside0.mk (Kd.C_elem HR0.out (x3_2 : Int) (od_) (od_))) | ((with_reducible refine gate_callee (f := 125) rfl ?_); refine goesY_ (some 27) Try.func125 #[.pointer (some (ad195.add ((x3_2 : Int).toNat * 6)))] rfl ?_; (with_reducible refine (spec_l12Value.calls k2 _ (l0.drop (x3_2 : Int).toNat).length (l0.drop (x3_2 : Int).toNat) t200 _ ?_ ?_ A9.out).mono ?_); exact Kd.C_below HRa199.out (HB_up HB.out); exact Nat.le_refl _; rintro e w' ⟨rfl, ⟨nd, rfl⟩⟩; refine ⟨_, rfl, ?_⟩))
           go_ret
           exact ⟨ve_, hb_⟩
         ·
          replace c8 := Bool.eq_false_iff.mpr c8
          subst c8
          (try rw [if_neg (show ¬ (false = true) by decide)] at H)
          obtain rfl := Option.some.inj H
          have HRa196 := Aside0.mk (Kd.C_elem HR0.out (x3_2 : Int) (od_) (od_))
          go_wp2_with (first | ((with_reducible refine gate_callee (f := 124) rfl ?_); refine goesY_ (some 22) Try.func124 #[.pointer (some (ad195.add ((x3_2 : Int).toNat * 6)))] rfl ?_; (with_reducible refine (spec_l12Form.calls k2 _ (l0.drop (x3_2 : Int).toNat).length (l0.drop (x3_2 : Int).toNat) false _ ?_ ?_ A7.out).mono ?_); exact C_up (Kd.C_below HRa196.out HB.out); exact Nat.le_refl _; rintro e w' ⟨rfl, ⟨nd, rfl⟩⟩; refine ⟨_, rfl, ?_⟩))
          go_ret
          exact ⟨ve_, hb_⟩
        ·
         rw [if_neg c5] at H
         have c5b0 : decide (x3_2 < (l0.length : Int)) = false := decide_eq_false c5
         clear c5
         replace H := Option.bind_eq_some_iff.mp H
         obtain ⟨t194, A150, H⟩ := H
         replace H : (if t194 = 0 then (some 0) else (some 1)) = some r := H
         have A15 := Aside0.mk A150
         clear A150
         by_cases c16 : t194 = 0
         ·
          rw [if_pos c16] at H
          have c16b0 : (t194 == 0) = true := beq_iff_eq.mpr c16
          have c16b1 : (t194 != 0) = false := bne_eq_false_iff_eq.mpr c16
          clear c16
          obtain rfl := Option.some.inj H
          go_wp2_with (first | ((with_reducible refine gate_callee (f := 127) rfl ?_); refine goesY_ (some 39) Try.func127 #[.slice A0 l0.length c0, .int .i64 (wrap64 ((l0.length : Int) - 1))] rfl ?_; (with_reducible refine (spec_l12First.calls k2 _ _ l0 (wrap64 ((l0.length : Int) - 1)) t194 _ ?_ ?_ A15.out).mono ?_); exact C_up (Kd.C_below HR0.out HB.out); exact HC0.out; rintro e w17 ⟨rfl, hb⟩; refine ⟨_, rfl, ?_⟩; replace HB := Aside0.mk (below_step (HB_up HB.out) hb); (try clear hb)))
          go_ret
          exact ⟨ve_, hb_⟩
         ·
          rw [if_neg c16] at H
          have c16b0 : (t194 == 0) = false := beq_eq_false_iff_ne.mpr c16
          have c16b1 : (t194 != 0) = true := bne_iff_ne.mpr c16
          obtain rfl := Option.some.inj H
          go_wp2_with (first | ((with_reducible refine gate_callee (f := 127) rfl ?_); refine goesY_ (some 39) Try.func127 #[.slice A0 l0.length c0, .int .i64 (wrap64 ((l0.length : Int) - 1))] rfl ?_; (with_reducible refine (spec_l12First.calls k2 _ _ l0 (wrap64 ((l0.length : Int) - 1)) t194 _ ?_ ?_ A15.out).mono ?_); exact C_up (Kd.C_below HR0.out HB.out); exact HC0.out; rintro e w18 ⟨rfl, hb⟩; refine ⟨_, rfl, ?_⟩; replace HB := Aside0.mk (below_step (HB_up HB.out) hb); (try clear hb)))
          go_ret
          exact ⟨ve_, hb_⟩

/-! ### spec_l14Fault: function 31 -/
mutual
def spec_l14Fault.j0 : Nat → List (S33) → Bool → Option (Int)
 | 0, _, _ => none
 | k + 1, x0, x25 => if x25 = true then (some 5) else (if 0 < (x0.length : Int) then ((spec_l14Ranged.f ((rd_T33 x0 0).f1)).bind fun t209 => (if t209 = true then ((spec_l11Fault.f k ((rd_T33 x0 0).f3)).bind fun t211 => (if t211 = 0 then (spec_l14Fault.j1 k x0) else (some t211))) else (spec_l14Fault.j1 k x0))) else (none))
def spec_l14Fault.j1 : Nat → List (S33) → Option (Int)
 | 0, _ => none
 | k + 1, x0 => (spec_l14Numbers.f k x0).bind fun t212 => (if t212 = true then (if 0 < (x0.length : Int) then ((spec_l14Termed.f ((rd_T33 x0 0).f1)).bind fun t214 => (if t214 = true then ((spec_l12Fault.f k ((rd_T33 x0 0).f12)).bind fun t216 => (some t216)) else (some 0))) else (none)) else (some 3))
end
def spec_l14Fault.f (k : Nat) (l0 : List (S33)) : Option (Int) := if 0 < (l0.length : Int) then ((spec_l14Tag.f k ((rd_T33 l0 0).f0)).bind fun t203 => (if t203 = true then ((spec_l14Form.f k l0).bind fun t204 => (if t204 = true then ((spec_l14Named.f ((rd_T33 l0 0).f1)).bind fun t206 => (if t206 = true then ((spec_l7Name.f k ((rd_T33 l0 0).f2)).bind fun t207 => (spec_l14Fault.j0 k l0 (!t207))) else (spec_l14Fault.j0 k l0 false))) else (some 1))) else (some 5))) else (none)
set_option maxHeartbeats 8000000 in
set_option maxRecDepth 100000 in
theorem spec_l14Fault.calls (k : Nat) (A0 : Option Addr) (c0 : Nat) (l0 : List (S33)) (r : Int) (w : World) (hr0 : Kd.C k33 w A0 l0.length l0) (hc0 : l0.length ≤ c0) (h : spec_l14Fault.f k l0 = some r) :
 Calls Try.prog 31 #[.pointer A0] w fun e w' => e = .returned (.int .i64 r) ∧ Below w.heap.size w w' := by
 have HR0 := Aside0.mk hr0
 have HC0 := Aside0.mk hc0
 clear hr0 hc0
 have HB := Aside0.mk (Below.refl w.heap.size w)
 have H : (if 0 < (l0.length : Int) then ((spec_l14Tag.f k ((rd_T33 l0 0).f0)).bind fun t203 => (if t203 = true then ((spec_l14Form.f k l0).bind fun t204 => (if t204 = true then ((spec_l14Named.f ((rd_T33 l0 0).f1)).bind fun t206 => (if t206 = true then ((spec_l7Name.f k ((rd_T33 l0 0).f2)).bind fun t207 => (spec_l14Fault.j0 k l0 (!t207))) else (spec_l14Fault.j0 k l0 false))) else (some 1))) else (some 5))) else (none)) = some r := h
 clear h
 by_cases c2 : 0 < (l0.length : Int)
 ·
  rw [if_pos c2] at H
  have c2b0 : decide (0 < (l0.length : Int)) = true := decide_eq_true c2
  have c2b1 : decide (0 < l0.length) = true := decide_eq_true (by omega)
  clear c2
  replace H := Option.bind_eq_some_iff.mp H
  obtain ⟨t203, A30, H⟩ := H
  (try dsimp only at H)
  have A3 := Aside0.mk A30
  clear A30
  by_cases c4 : t203 = true
  ·
   subst c4
   (try rw [if_pos rfl] at H)
   replace H := Option.bind_eq_some_iff.mp H
   obtain ⟨t204, A50, H⟩ := H
   (try dsimp only at H)
   have A5 := Aside0.mk A50
   clear A50
   by_cases c6 : t204 = true
   ·
    subst c6
    (try rw [if_pos rfl] at H)
    have HC7 := Aside0.mk H
    clear H
    have p202 : 0 ≤ (0 : Int) := (by omega)
    have q202 : 0 < (l0.length : Int) := od_
    obtain ⟨ad202, A202_3, c202_3, A202_7, c202_7, A202_9, c202_9, A202_12, c202_12, e202, hx202_0, hx202_1, hx202_2, hx202_3, hx202_4, hx202_5, hx202_6, hx202_7, hx202_8, hx202_9, hx202_10, hx202_11, hx202_12, hx202_13, hl202_3, hi202_3, hl202_7, hi202_7, hl202_9, hi202_9, hl202_12, hi202_12⟩ := at_T33 HR0.out 0 p202 q202
    cases e202
    have qi202 : (0 < l0.length) = True := eq_true (by omega)
    (try simp only [Int.toNat_zero, Nat.zero_mul, Addr.add_zero'] at hx202_0 hx202_1 hx202_2 hx202_3 hx202_4 hx202_5 hx202_6 hx202_7 hx202_8 hx202_9 hx202_10 hx202_11 hx202_12 hx202_13)
    have HR202_3 := Aside0.mk hi202_3
    have HC202_3 := Aside0.mk hl202_3
    clear hi202_3 hl202_3
    have HR202_7 := Aside0.mk hi202_7
    have HC202_7 := Aside0.mk hl202_7
    clear hi202_7 hl202_7
    have HR202_9 := Aside0.mk hi202_9
    have HC202_9 := Aside0.mk hl202_9
    clear hi202_9 hl202_9
    have HR202_12 := Aside0.mk hi202_12
    have HC202_12 := Aside0.mk hl202_12
    clear hi202_12 hl202_12
    replace p202 := eq_true p202
    replace q202 := eq_true q202
    go_enter Try.func31, Try.ntmps31
    go_upto_region 5 with (first | ((with_reducible refine gate_callee (f := 68) rfl ?_); refine goesY_ (some 8) Try.func68 #[.string ((rd_T33 l0 0).f0)] rfl ?_; (with_reducible refine (spec_l14Tag.calls k ((rd_T33 l0 0).f0) true _ A3.out).mono ?_); rintro e w' ⟨rfl, ⟨nd, rfl⟩⟩; refine ⟨_, rfl, ?_⟩) | ((with_reducible refine gate_callee (f := 69) rfl ?_); refine goesY_ (some 11) Try.func69 #[.pointer (some ad202)] rfl ?_; (with_reducible refine (spec_l14Form.calls k _ (l0).length l0 true _ ?_ ?_ A5.out).mono ?_); exact C_up HR0.out; exact Nat.le_refl _; rintro e w' ⟨rfl, ⟨nd, rfl⟩⟩; refine ⟨_, rfl, ?_⟩))
    (try simp only [Act.put, List.setIfInBounds_toArray, List.set_cons_zero, List.set_cons_succ])
    go_cut [25] (fun v25 wc => ∃ (kq : Nat) (x25_6 : Bool), v25 = .bool x25_6 ∧ Aside0 (spec_l14Fault.j0 kq l0 x25_6 = some r) ∧ Aside0 (kq ≤ k) ∧ Aside0 (Below w.heap.size w wc))
    case first =>
     have H := HC7.out
     clear HC7
     replace H := Option.bind_eq_some_iff.mp H
     obtain ⟨t206, A80, H⟩ := H
     (try dsimp only at H)
     have A8 := Aside0.mk A80
     clear A80
     have p205 : 0 ≤ (0 : Int) := (by omega)
     have q205 : 0 < (l0.length : Int) := od_
     obtain ⟨ad205, A205_3, c205_3, A205_7, c205_7, A205_9, c205_9, A205_12, c205_12, e205, hx205_0, hx205_1, hx205_2, hx205_3, hx205_4, hx205_5, hx205_6, hx205_7, hx205_8, hx205_9, hx205_10, hx205_11, hx205_12, hx205_13, hl205_3, hi205_3, hl205_7, hi205_7, hl205_9, hi205_9, hl205_12, hi205_12⟩ := at_T33 HR0.out 0 p205 q205
     obtain rfl : ad202 = ad205 := (by injection e205)
     have qi205 : (0 < l0.length) = True := eq_true (by omega)
     (try simp only [Int.toNat_zero, Nat.zero_mul, Addr.add_zero'] at hx205_0 hx205_1 hx205_2 hx205_3 hx205_4 hx205_5 hx205_6 hx205_7 hx205_8 hx205_9 hx205_10 hx205_11 hx205_12 hx205_13)
     replace hx205_0 := ck_ HB.out hx205_0
     replace hx205_1 := ck_ HB.out hx205_1
     replace hx205_2 := ck_ HB.out hx205_2
     replace hx205_3 := ck_ HB.out hx205_3
     replace hx205_4 := ck_ HB.out hx205_4
     replace hx205_5 := ck_ HB.out hx205_5
     replace hx205_6 := ck_ HB.out hx205_6
     replace hx205_7 := ck_ HB.out hx205_7
     replace hx205_8 := ck_ HB.out hx205_8
     replace hx205_9 := ck_ HB.out hx205_9
     replace hx205_10 := ck_ HB.out hx205_10
     replace hx205_11 := ck_ HB.out hx205_11
     replace hx205_12 := ck_ HB.out hx205_12
     replace hx205_13 := ck_ HB.out hx205_13
     have HR205_3 := Aside0.mk hi205_3
     have HC205_3 := Aside0.mk hl205_3
     clear hi205_3 hl205_3
     have HR205_7 := Aside0.mk hi205_7
     have HC205_7 := Aside0.mk hl205_7
     clear hi205_7 hl205_7
     have HR205_9 := Aside0.mk hi205_9
     have HC205_9 := Aside0.mk hl205_9
     clear hi205_9 hl205_9
     have HR205_12 := Aside0.mk hi205_12
     have HC205_12 := Aside0.mk hl205_12
     clear hi205_12 hl205_12
     replace p205 := eq_true p205
     replace q205 := eq_true q205
     by_cases c9 : t206 = true
     ·
      subst c9
      (try rw [if_pos rfl] at H)
      replace H := Option.bind_eq_some_iff.mp H
      obtain ⟨t207, A100, H⟩ := H
      replace H : (spec_l14Fault.j0 k l0 (!t207)) = some r := H
      have A10 := Aside0.mk A100
      clear A100
      have H' := Aside0.mk H
      clear H
      (try clear hx202_0 hx202_1 hx202_2 hx202_3 hx202_4 hx202_5 hx202_6 hx202_7 hx202_8 hx202_9 hx202_10 hx202_11 hx202_12 hx202_13)
      go_wp2_with (first | ((with_reducible refine gate_callee (f := 70) rfl ?_); refine goesY_ (some 17) Try.func70 #[.int .i64 ((rd_T33 l0 0).f1)] rfl ?_; (with_reducible refine (spec_l14Named.calls ((rd_T33 l0 0).f1) true _ A8.out).mono ?_); rintro e w' ⟨rfl, ⟨nd, rfl⟩⟩; refine ⟨_, rfl, ?_⟩) | (go_at_call 71; (with_reducible refine (spec_l7Name.calls k ((rd_T33 l0 0).f2) t207 _ A10.out).mono ?_); rintro e w' ⟨rfl, ⟨nd, rfl⟩⟩))
      go_meet
      case rel => exact ⟨_, (!t207), vl_, H', ⟨le_⟩, ⟨hb_⟩⟩
     ·
      replace c9 := Bool.eq_false_iff.mpr c9
      subst c9
      (try rw [if_neg (show ¬ (false = true) by decide)] at H)
      have H' := Aside0.mk H
      clear H
      (try clear hx202_0 hx202_1 hx202_2 hx202_3 hx202_4 hx202_5 hx202_6 hx202_7 hx202_8 hx202_9 hx202_10 hx202_11 hx202_12 hx202_13)
      go_wp2_with (first | ((with_reducible refine gate_callee (f := 70) rfl ?_); refine goesY_ (some 17) Try.func70 #[.int .i64 ((rd_T33 l0 0).f1)] rfl ?_; (with_reducible refine (spec_l14Named.calls ((rd_T33 l0 0).f1) false _ A8.out).mono ?_); rintro e w' ⟨rfl, ⟨nd, rfl⟩⟩; refine ⟨_, rfl, ?_⟩))
      go_meet
      case rel => exact ⟨_, (false), vl_, H', ⟨le_⟩, ⟨hb_⟩⟩
    case rest =>
     clear HC7
     try clear c2
     try clear c2b0
     try clear c2b1
     try clear q2
     try clear hx2
     try clear qi2
     try clear c4
     try clear c6
     try clear hx202_0
     try clear hx202_1
     try clear hx202_10
     try clear hx202_11
     try clear hx202_12
     try clear hx202_13
     try clear hx202_2
     try clear hx202_3
     try clear hx202_4
     try clear hx202_5
     try clear hx202_6
     try clear hx202_7
     try clear hx202_8
     try clear hx202_9
     try clear hx205_0
     try clear hx205_1
     try clear hx205_10
     try clear hx205_11
     try clear hx205_12
     try clear hx205_13
     try clear hx205_2
     try clear hx205_3
     try clear hx205_4
     try clear hx205_5
     try clear hx205_6
     try clear hx205_7
     try clear hx205_8
     try clear hx205_9
     try clear p202
     try clear q202
     try clear q205
     obtain ⟨kq, x25_6, rfl, HA, HJ6, HB⟩ := hcut
     cases kq with
     | zero => exact absurd HA.out (by simp [spec_l14Fault.j0])
     | succ kj6 =>
       have H := HA.out
       clear HA
       simp only [spec_l14Fault.j0] at H
       by_cases c11 : x25_6 = true
       ·
        subst c11
        (try rw [if_pos rfl] at H)
        obtain rfl := Option.some.inj H
        go_wp2
        go_ret
        exact ⟨ve_, hb_⟩
       ·
        replace c11 := Bool.eq_false_iff.mpr c11
        subst c11
        (try rw [if_neg (show ¬ (false = true) by decide)] at H)
        by_cases c12 : 0 < (l0.length : Int)
        case neg => rw [if_neg c12] at H; exact absurd H (by simp)
        rw [if_pos c12] at H
        have c12b0 : decide (0 < (l0.length : Int)) = true := decide_eq_true c12
        have c12b1 : decide (0 < l0.length) = true := decide_eq_true (by omega)
        clear c12
        replace H := Option.bind_eq_some_iff.mp H
        obtain ⟨t209, A130, H⟩ := H
        (try dsimp only at H)
        have A13 := Aside0.mk A130
        clear A130
        have HC14 := Aside0.mk H
        clear H
        have p208 : 0 ≤ (0 : Int) := (by omega)
        have q208 : 0 < (l0.length : Int) := od_
        obtain ⟨ad208, A208_3, c208_3, A208_7, c208_7, A208_9, c208_9, A208_12, c208_12, e208, hx208_0, hx208_1, hx208_2, hx208_3, hx208_4, hx208_5, hx208_6, hx208_7, hx208_8, hx208_9, hx208_10, hx208_11, hx208_12, hx208_13, hl208_3, hi208_3, hl208_7, hi208_7, hl208_9, hi208_9, hl208_12, hi208_12⟩ := at_T33 HR0.out 0 p208 q208
        obtain rfl : ad202 = ad208 := (by injection e208)
        have qi208 : (0 < l0.length) = True := eq_true (by omega)
        (try simp only [Int.toNat_zero, Nat.zero_mul, Addr.add_zero'] at hx208_0 hx208_1 hx208_2 hx208_3 hx208_4 hx208_5 hx208_6 hx208_7 hx208_8 hx208_9 hx208_10 hx208_11 hx208_12 hx208_13)
        replace hx208_0 := ck_ HB.out hx208_0
        replace hx208_1 := ck_ HB.out hx208_1
        replace hx208_2 := ck_ HB.out hx208_2
        replace hx208_3 := ck_ HB.out hx208_3
        replace hx208_4 := ck_ HB.out hx208_4
        replace hx208_5 := ck_ HB.out hx208_5
        replace hx208_6 := ck_ HB.out hx208_6
        replace hx208_7 := ck_ HB.out hx208_7
        replace hx208_8 := ck_ HB.out hx208_8
        replace hx208_9 := ck_ HB.out hx208_9
        replace hx208_10 := ck_ HB.out hx208_10
        replace hx208_11 := ck_ HB.out hx208_11
        replace hx208_12 := ck_ HB.out hx208_12
        replace hx208_13 := ck_ HB.out hx208_13
        have HR208_3 := Aside0.mk hi208_3
        have HC208_3 := Aside0.mk hl208_3
        clear hi208_3 hl208_3
        have HR208_7 := Aside0.mk hi208_7
        have HC208_7 := Aside0.mk hl208_7
        clear hi208_7 hl208_7
        have HR208_9 := Aside0.mk hi208_9
        have HC208_9 := Aside0.mk hl208_9
        clear hi208_9 hl208_9
        have HR208_12 := Aside0.mk hi208_12
        have HC208_12 := Aside0.mk hl208_12
        clear hi208_12 hl208_12
        replace p208 := eq_true p208
        replace q208 := eq_true q208
        (try clear hx202_0 hx202_1 hx202_2 hx202_3 hx202_4 hx202_5 hx202_6 hx202_7 hx202_8 hx202_9 hx202_10 hx202_11 hx202_12 hx202_13)
        (try clear hx205_0 hx205_1 hx205_2 hx205_3 hx205_4 hx205_5 hx205_6 hx205_7 hx205_8 hx205_9 hx205_10 hx205_11 hx205_12 hx205_13)
        (try clear hx205_0 hx205_1 hx205_2 hx205_3 hx205_4 hx205_5 hx205_6 hx205_7 hx205_8 hx205_9 hx205_10 hx205_11 hx205_12 hx205_13)
        go_upto_if 30 with (first | ((with_reducible refine gate_callee (f := 72) rfl ?_); refine goesY_ (some 30) Try.func72 #[.int .i64 ((rd_T33 l0 0).f1)] rfl ?_; (with_reducible refine (spec_l14Ranged.calls ((rd_T33 l0 0).f1) t209 _ A13.out).mono ?_); rintro e w' ⟨rfl, ⟨nd, rfl⟩⟩; refine ⟨_, rfl, ?_⟩))
        (try simp only [Act.put, List.setIfInBounds_toArray, List.set_cons_zero, List.set_cons_succ])
        go_cut [] (fun wc => ∃ (kq : Nat), Aside0 (spec_l14Fault.j1 kq l0 = some r) ∧ Aside0 (kq ≤ kj6) ∧ Aside0 (Below w.heap.size w wc))
        case first =>
         have H := HC14.out
         clear HC14
         by_cases c15 : t209 = true
         ·
          subst c15
          (try rw [if_pos rfl] at H)
          replace H := Option.bind_eq_some_iff.mp H
          obtain ⟨t211, A160, H⟩ := H
          (try dsimp only at H)
          have A16 := Aside0.mk A160
          clear A160
          by_cases c17 : t211 = 0
          ·
           rw [if_pos c17] at H
           have c17b0 : (t211 == 0) = true := beq_iff_eq.mpr c17
           have c17b1 : (t211 != 0) = false := bne_eq_false_iff_eq.mpr c17
           clear c17
           (first | rw [c17b0] | (simp only [i64_w, i32_w]; rw [c17b0]) | skip)
           have H' := Aside0.mk H
           clear H
           have p210 : 0 ≤ (0 : Int) := (by omega)
           have q210 : 0 < (l0.length : Int) := od_
           obtain ⟨ad210, A210_3, c210_3, A210_7, c210_7, A210_9, c210_9, A210_12, c210_12, e210, hx210_0, hx210_1, hx210_2, hx210_3, hx210_4, hx210_5, hx210_6, hx210_7, hx210_8, hx210_9, hx210_10, hx210_11, hx210_12, hx210_13, hl210_3, hi210_3, hl210_7, hi210_7, hl210_9, hi210_9, hl210_12, hi210_12⟩ := at_T33 HR0.out 0 p210 q210
           obtain rfl : ad202 = ad210 := (by injection e210)
           have qi210 : (0 < l0.length) = True := eq_true (by omega)
           (try simp only [Int.toNat_zero, Nat.zero_mul, Addr.add_zero'] at hx210_0 hx210_1 hx210_2 hx210_3 hx210_4 hx210_5 hx210_6 hx210_7 hx210_8 hx210_9 hx210_10 hx210_11 hx210_12 hx210_13)
           replace hx210_0 := ck_ HB.out hx210_0
           replace hx210_1 := ck_ HB.out hx210_1
           replace hx210_2 := ck_ HB.out hx210_2
           replace hx210_3 := ck_ HB.out hx210_3
           replace hx210_4 := ck_ HB.out hx210_4
           replace hx210_5 := ck_ HB.out hx210_5
           replace hx210_6 := ck_ HB.out hx210_6
           replace hx210_7 := ck_ HB.out hx210_7
           replace hx210_8 := ck_ HB.out hx210_8
           replace hx210_9 := ck_ HB.out hx210_9
           replace hx210_10 := ck_ HB.out hx210_10
           replace hx210_11 := ck_ HB.out hx210_11
           replace hx210_12 := ck_ HB.out hx210_12
           replace hx210_13 := ck_ HB.out hx210_13
           have HR210_3 := Aside0.mk hi210_3
           have HC210_3 := Aside0.mk hl210_3
           clear hi210_3 hl210_3
           have HR210_7 := Aside0.mk hi210_7
           have HC210_7 := Aside0.mk hl210_7
           clear hi210_7 hl210_7
           have HR210_9 := Aside0.mk hi210_9
           have HC210_9 := Aside0.mk hl210_9
           clear hi210_9 hl210_9
           have HR210_12 := Aside0.mk hi210_12
           have HC210_12 := Aside0.mk hl210_12
           clear hi210_12 hl210_12
           replace p210 := eq_true p210
           replace q210 := eq_true q210
           (try clear hx202_0 hx202_1 hx202_2 hx202_3 hx202_4 hx202_5 hx202_6 hx202_7 hx202_8 hx202_9 hx202_10 hx202_11 hx202_12 hx202_13)
           (try clear hx205_0 hx205_1 hx205_2 hx205_3 hx205_4 hx205_5 hx205_6 hx205_7 hx205_8 hx205_9 hx205_10 hx205_11 hx205_12 hx205_13)
           (try clear hx205_0 hx205_1 hx205_2 hx205_3 hx205_4 hx205_5 hx205_6 hx205_7 hx205_8 hx205_9 hx205_10 hx205_11 hx205_12 hx205_13)
           (try clear hx208_0 hx208_1 hx208_2 hx208_3 hx208_4 hx208_5 hx208_6 hx208_7 hx208_8 hx208_9 hx208_10 hx208_11 hx208_12 hx208_13)
           go_wp2_with (first | ((with_reducible refine gate_callee (f := 73) rfl ?_); refine goesY_ (some 35) Try.func73 #[.slice A210_3 ((rd_T33 l0 0).f3).length c210_3] rfl ?_; (with_reducible refine (spec_l11Fault.calls kj6 _ _ ((rd_T33 l0 0).f3) t211 _ ?_ ?_ A16.out).mono ?_); exact C_up (Kd.C_below HR210_3.out HB.out); exact HC210_3.out; rintro e w' ⟨rfl, ⟨nd, rfl⟩⟩; refine ⟨_, rfl, ?_⟩))
           go_meet
           case rel => exact ⟨_, H', ⟨by have := HJ6.out; first | omega | exact Nat.le_refl _⟩, ⟨hb_⟩⟩
          ·
           rw [if_neg c17] at H
           have c17b0 : (t211 == 0) = false := beq_eq_false_iff_ne.mpr c17
           have c17b1 : (t211 != 0) = true := bne_iff_ne.mpr c17
           (first | rw [c17b0] | (simp only [i64_w, i32_w]; rw [c17b0]) | skip)
           obtain rfl := Option.some.inj H
           have p210 : 0 ≤ (0 : Int) := (by omega)
           have q210 : 0 < (l0.length : Int) := od_
           obtain ⟨ad210, A210_3, c210_3, A210_7, c210_7, A210_9, c210_9, A210_12, c210_12, e210, hx210_0, hx210_1, hx210_2, hx210_3, hx210_4, hx210_5, hx210_6, hx210_7, hx210_8, hx210_9, hx210_10, hx210_11, hx210_12, hx210_13, hl210_3, hi210_3, hl210_7, hi210_7, hl210_9, hi210_9, hl210_12, hi210_12⟩ := at_T33 HR0.out 0 p210 q210
           obtain rfl : ad202 = ad210 := (by injection e210)
           have qi210 : (0 < l0.length) = True := eq_true (by omega)
           (try simp only [Int.toNat_zero, Nat.zero_mul, Addr.add_zero'] at hx210_0 hx210_1 hx210_2 hx210_3 hx210_4 hx210_5 hx210_6 hx210_7 hx210_8 hx210_9 hx210_10 hx210_11 hx210_12 hx210_13)
           replace hx210_0 := ck_ HB.out hx210_0
           replace hx210_1 := ck_ HB.out hx210_1
           replace hx210_2 := ck_ HB.out hx210_2
           replace hx210_3 := ck_ HB.out hx210_3
           replace hx210_4 := ck_ HB.out hx210_4
           replace hx210_5 := ck_ HB.out hx210_5
           replace hx210_6 := ck_ HB.out hx210_6
           replace hx210_7 := ck_ HB.out hx210_7
           replace hx210_8 := ck_ HB.out hx210_8
           replace hx210_9 := ck_ HB.out hx210_9
           replace hx210_10 := ck_ HB.out hx210_10
           replace hx210_11 := ck_ HB.out hx210_11
           replace hx210_12 := ck_ HB.out hx210_12
           replace hx210_13 := ck_ HB.out hx210_13
           have HR210_3 := Aside0.mk hi210_3
           have HC210_3 := Aside0.mk hl210_3
           clear hi210_3 hl210_3
           have HR210_7 := Aside0.mk hi210_7
           have HC210_7 := Aside0.mk hl210_7
           clear hi210_7 hl210_7
           have HR210_9 := Aside0.mk hi210_9
           have HC210_9 := Aside0.mk hl210_9
           clear hi210_9 hl210_9
           have HR210_12 := Aside0.mk hi210_12
           have HC210_12 := Aside0.mk hl210_12
           clear hi210_12 hl210_12
           replace p210 := eq_true p210
           replace q210 := eq_true q210
           (try clear hx202_0 hx202_1 hx202_2 hx202_3 hx202_4 hx202_5 hx202_6 hx202_7 hx202_8 hx202_9 hx202_10 hx202_11 hx202_12 hx202_13)
           (try clear hx205_0 hx205_1 hx205_2 hx205_3 hx205_4 hx205_5 hx205_6 hx205_7 hx205_8 hx205_9 hx205_10 hx205_11 hx205_12 hx205_13)
           (try clear hx205_0 hx205_1 hx205_2 hx205_3 hx205_4 hx205_5 hx205_6 hx205_7 hx205_8 hx205_9 hx205_10 hx205_11 hx205_12 hx205_13)
           (try clear hx208_0 hx208_1 hx208_2 hx208_3 hx208_4 hx208_5 hx208_6 hx208_7 hx208_8 hx208_9 hx208_10 hx208_11 hx208_12 hx208_13)
           go_wp2_with (first | ((with_reducible refine gate_callee (f := 73) rfl ?_); refine goesY_ (some 35) Try.func73 #[.slice A210_3 ((rd_T33 l0 0).f3).length c210_3] rfl ?_; (with_reducible refine (spec_l11Fault.calls kj6 _ _ ((rd_T33 l0 0).f3) t211 _ ?_ ?_ A16.out).mono ?_); exact C_up (Kd.C_below HR210_3.out HB.out); exact HC210_3.out; rintro e w' ⟨rfl, ⟨nd, rfl⟩⟩; refine ⟨_, rfl, ?_⟩))
           go_ret
           exact ⟨ve_, hb_⟩
         ·
          replace c15 := Bool.eq_false_iff.mpr c15
          subst c15
          (try rw [if_neg (show ¬ (false = true) by decide)] at H)
          have H' := Aside0.mk H
          clear H
          go_wp2
          go_meet
          case rel => exact ⟨_, H', ⟨by have := HJ6.out; first | omega | exact Nat.le_refl _⟩, ⟨hb_⟩⟩
        case rest =>
         clear HC14
         try clear c2
         try clear c2b0
         try clear c2b1
         try clear q2
         try clear hx2
         try clear qi2
         try clear c4
         try clear c6
         try clear c11
         try clear c12
         try clear c12b0
         try clear c12b1
         try clear hx202_0
         try clear hx202_1
         try clear hx202_10
         try clear hx202_11
         try clear hx202_12
         try clear hx202_13
         try clear hx202_2
         try clear hx202_3
         try clear hx202_4
         try clear hx202_5
         try clear hx202_6
         try clear hx202_7
         try clear hx202_8
         try clear hx202_9
         try clear hx205_0
         try clear hx205_1
         try clear hx205_10
         try clear hx205_11
         try clear hx205_12
         try clear hx205_13
         try clear hx205_2
         try clear hx205_3
         try clear hx205_4
         try clear hx205_5
         try clear hx205_6
         try clear hx205_7
         try clear hx205_8
         try clear hx205_9
         try clear hx208_0
         try clear hx208_1
         try clear hx208_10
         try clear hx208_11
         try clear hx208_12
         try clear hx208_13
         try clear hx208_2
         try clear hx208_3
         try clear hx208_4
         try clear hx208_5
         try clear hx208_6
         try clear hx208_7
         try clear hx208_8
         try clear hx208_9
         try clear hx210_0
         try clear hx210_1
         try clear hx210_10
         try clear hx210_11
         try clear hx210_12
         try clear hx210_13
         try clear hx210_2
         try clear hx210_3
         try clear hx210_4
         try clear hx210_5
         try clear hx210_6
         try clear hx210_7
         try clear hx210_8
         try clear hx210_9
         try clear p202
         try clear p208
         try clear q2
         try clear q202
         try clear q205
         try clear q208
         try clear q210
         obtain ⟨kq, HA, HJ13, HB⟩ := hcut
         cases kq with
         | zero => exact absurd HA.out (by simp [spec_l14Fault.j1])
         | succ kj13 =>
           have H := HA.out
           clear HA
           simp only [spec_l14Fault.j1] at H
           replace H := Option.bind_eq_some_iff.mp H
           obtain ⟨t212, A180, H⟩ := H
           (try dsimp only at H)
           have A18 := Aside0.mk A180
           clear A180
           by_cases c19 : t212 = true
           ·
            subst c19
            (try rw [if_pos rfl] at H)
            by_cases c20 : 0 < (l0.length : Int)
            case neg => rw [if_neg c20] at H; exact absurd H (by simp)
            rw [if_pos c20] at H
            have c20b0 : decide (0 < (l0.length : Int)) = true := decide_eq_true c20
            have c20b1 : decide (0 < l0.length) = true := decide_eq_true (by omega)
            clear c20
            replace H := Option.bind_eq_some_iff.mp H
            obtain ⟨t214, A210, H⟩ := H
            (try dsimp only at H)
            have A21 := Aside0.mk A210
            clear A210
            by_cases c22 : t214 = true
            ·
             subst c22
             (try rw [if_pos rfl] at H)
             replace H := Option.bind_eq_some_iff.mp H
             obtain ⟨t216, A230, H⟩ := H
             replace H : (some t216) = some r := H
             have A23 := Aside0.mk A230
             clear A230
             obtain rfl := Option.some.inj H
             go_wp2_with (first | ((with_reducible refine gate_callee (f := 74) rfl ?_); refine goesY_ (some 40) Try.func74 #[.pointer (some ad202)] rfl ?_; (with_reducible refine (spec_l14Numbers.calls kj13 _ (l0).length l0 true _ ?_ ?_ A18.out).mono ?_); exact C_up (Kd.C_below HR0.out HB.out); exact Nat.le_refl _; rintro e w' ⟨rfl, ⟨nd, rfl⟩⟩; refine ⟨_, rfl, ?_⟩; have p213 : 0 ≤ (0 : Int) := (by omega); have q213 : 0 < (l0.length : Int) := od_; obtain ⟨ad213, A213_3, c213_3, A213_7, c213_7, A213_9, c213_9, A213_12, c213_12, e213, hx213_0, hx213_1, hx213_2, hx213_3, hx213_4, hx213_5, hx213_6, hx213_7, hx213_8, hx213_9, hx213_10, hx213_11, hx213_12, hx213_13, hl213_3, hi213_3, hl213_7, hi213_7, hl213_9, hi213_9, hl213_12, hi213_12⟩ := at_T33 HR0.out 0 p213 q213; obtain rfl : ad202 = ad213 := (by injection e213); have qi213 : (0 < l0.length) = True := eq_true (by omega); (try rw [show ((0 : Int)).toNat = 0 from rfl] at hx213_0); (try rw [show 0 * 14 = 0 from rfl] at hx213_0); (try rw [Addr.add_zero'] at hx213_0); (try rw [show ((0 : Int)).toNat = 0 from rfl] at hx213_1); (try rw [show 0 * 14 = 0 from rfl] at hx213_1); (try rw [Addr.add_zero'] at hx213_1); (try rw [show ((0 : Int)).toNat = 0 from rfl] at hx213_2); (try rw [show 0 * 14 = 0 from rfl] at hx213_2); (try rw [Addr.add_zero'] at hx213_2); (try rw [show ((0 : Int)).toNat = 0 from rfl] at hx213_3); (try rw [show 0 * 14 = 0 from rfl] at hx213_3); (try rw [Addr.add_zero'] at hx213_3); (try rw [show ((0 : Int)).toNat = 0 from rfl] at hx213_4); (try rw [show 0 * 14 = 0 from rfl] at hx213_4); (try rw [Addr.add_zero'] at hx213_4); (try rw [show ((0 : Int)).toNat = 0 from rfl] at hx213_5); (try rw [show 0 * 14 = 0 from rfl] at hx213_5); (try rw [Addr.add_zero'] at hx213_5); (try rw [show ((0 : Int)).toNat = 0 from rfl] at hx213_6); (try rw [show 0 * 14 = 0 from rfl] at hx213_6); (try rw [Addr.add_zero'] at hx213_6); (try rw [show ((0 : Int)).toNat = 0 from rfl] at hx213_7); (try rw [show 0 * 14 = 0 from rfl] at hx213_7); (try rw [Addr.add_zero'] at hx213_7); (try rw [show ((0 : Int)).toNat = 0 from rfl] at hx213_8); (try rw [show 0 * 14 = 0 from rfl] at hx213_8); (try rw [Addr.add_zero'] at hx213_8); (try rw [show ((0 : Int)).toNat = 0 from rfl] at hx213_9); (try rw [show 0 * 14 = 0 from rfl] at hx213_9); (try rw [Addr.add_zero'] at hx213_9); (try rw [show ((0 : Int)).toNat = 0 from rfl] at hx213_10); (try rw [show 0 * 14 = 0 from rfl] at hx213_10); (try rw [Addr.add_zero'] at hx213_10); (try rw [show ((0 : Int)).toNat = 0 from rfl] at hx213_11); (try rw [show 0 * 14 = 0 from rfl] at hx213_11); (try rw [Addr.add_zero'] at hx213_11); (try rw [show ((0 : Int)).toNat = 0 from rfl] at hx213_12); (try rw [show 0 * 14 = 0 from rfl] at hx213_12); (try rw [Addr.add_zero'] at hx213_12); (try rw [show ((0 : Int)).toNat = 0 from rfl] at hx213_13); (try rw [show 0 * 14 = 0 from rfl] at hx213_13); (try rw [Addr.add_zero'] at hx213_13); replace hx213_0 := ck_ HB.out hx213_0; replace hx213_1 := ck_ HB.out hx213_1; replace hx213_2 := ck_ HB.out hx213_2; replace hx213_3 := ck_ HB.out hx213_3; replace hx213_4 := ck_ HB.out hx213_4; replace hx213_5 := ck_ HB.out hx213_5; replace hx213_6 := ck_ HB.out hx213_6; replace hx213_7 := ck_ HB.out hx213_7; replace hx213_8 := ck_ HB.out hx213_8; replace hx213_9 := ck_ HB.out hx213_9; replace hx213_10 := ck_ HB.out hx213_10; replace hx213_11 := ck_ HB.out hx213_11; replace hx213_12 := ck_ HB.out hx213_12; replace hx213_13 := ck_ HB.out hx213_13; have HR213_3 := Aside0.mk hi213_3; have HC213_3 := Aside0.mk hl213_3; clear hi213_3 hl213_3; have HR213_7 := Aside0.mk hi213_7; have HC213_7 := Aside0.mk hl213_7; clear hi213_7 hl213_7; have HR213_9 := Aside0.mk hi213_9; have HC213_9 := Aside0.mk hl213_9; clear hi213_9 hl213_9; have HR213_12 := Aside0.mk hi213_12; have HC213_12 := Aside0.mk hl213_12; clear hi213_12 hl213_12; replace p213 := eq_true p213; replace q213 := eq_true q213; (try clear hx202_0 hx202_1 hx202_2 hx202_3 hx202_4 hx202_5 hx202_6 hx202_7 hx202_8 hx202_9 hx202_10 hx202_11 hx202_12 hx202_13); (try clear hx205_0 hx205_1 hx205_2 hx205_3 hx205_4 hx205_5 hx205_6 hx205_7 hx205_8 hx205_9 hx205_10 hx205_11 hx205_12 hx205_13); (try clear hx205_0 hx205_1 hx205_2 hx205_3 hx205_4 hx205_5 hx205_6 hx205_7 hx205_8 hx205_9 hx205_10 hx205_11 hx205_12 hx205_13); (try clear hx208_0 hx208_1 hx208_2 hx208_3 hx208_4 hx208_5 hx208_6 hx208_7 hx208_8 hx208_9 hx208_10 hx208_11 hx208_12 hx208_13); (try clear hx210_0 hx210_1 hx210_2 hx210_3 hx210_4 hx210_5 hx210_6 hx210_7 hx210_8 hx210_9 hx210_10 hx210_11 hx210_12 hx210_13); (try clear hx210_0 hx210_1 hx210_2 hx210_3 hx210_4 hx210_5 hx210_6 hx210_7 hx210_8 hx210_9 hx210_10 hx210_11 hx210_12 hx210_13)) | ((with_reducible refine gate_callee (f := 75) rfl ?_); refine goesY_ (some 46) Try.func75 #[.int .i64 ((rd_T33 l0 0).f1)] rfl ?_; (with_reducible refine (spec_l14Termed.calls ((rd_T33 l0 0).f1) true _ A21.out).mono ?_); rintro e w' ⟨rfl, ⟨nd, rfl⟩⟩; refine ⟨_, rfl, ?_⟩) | ((with_reducible refine gate_callee (f := 76) rfl ?_); refine goesY_ (some 51) Try.func76 #[.slice A213_12 ((rd_T33 l0 0).f12).length c213_12] rfl ?_; (with_reducible refine (spec_l12Fault.calls kj13 _ _ ((rd_T33 l0 0).f12) t216 _ ?_ ?_ A23.out).mono ?_); exact Kd.C_below HR213_12.out (HB_up HB.out); exact HC213_12.out; rintro e w24 ⟨rfl, hb⟩; refine ⟨_, rfl, ?_⟩; replace HB := Aside0.mk (below_step (HB_up HB.out) hb); (try clear hb)))
             go_ret
             exact ⟨ve_, hb_⟩
            ·
             replace c22 := Bool.eq_false_iff.mpr c22
             subst c22
             (try rw [if_neg (show ¬ (false = true) by decide)] at H)
             obtain rfl := Option.some.inj H
             go_wp2_with (first | ((with_reducible refine gate_callee (f := 74) rfl ?_); refine goesY_ (some 40) Try.func74 #[.pointer (some ad202)] rfl ?_; (with_reducible refine (spec_l14Numbers.calls kj13 _ (l0).length l0 true _ ?_ ?_ A18.out).mono ?_); exact C_up (Kd.C_below HR0.out HB.out); exact Nat.le_refl _; rintro e w' ⟨rfl, ⟨nd, rfl⟩⟩; refine ⟨_, rfl, ?_⟩; have p213 : 0 ≤ (0 : Int) := (by omega); have q213 : 0 < (l0.length : Int) := od_; obtain ⟨ad213, A213_3, c213_3, A213_7, c213_7, A213_9, c213_9, A213_12, c213_12, e213, hx213_0, hx213_1, hx213_2, hx213_3, hx213_4, hx213_5, hx213_6, hx213_7, hx213_8, hx213_9, hx213_10, hx213_11, hx213_12, hx213_13, hl213_3, hi213_3, hl213_7, hi213_7, hl213_9, hi213_9, hl213_12, hi213_12⟩ := at_T33 HR0.out 0 p213 q213; obtain rfl : ad202 = ad213 := (by injection e213); have qi213 : (0 < l0.length) = True := eq_true (by omega); (try rw [show ((0 : Int)).toNat = 0 from rfl] at hx213_0); (try rw [show 0 * 14 = 0 from rfl] at hx213_0); (try rw [Addr.add_zero'] at hx213_0); (try rw [show ((0 : Int)).toNat = 0 from rfl] at hx213_1); (try rw [show 0 * 14 = 0 from rfl] at hx213_1); (try rw [Addr.add_zero'] at hx213_1); (try rw [show ((0 : Int)).toNat = 0 from rfl] at hx213_2); (try rw [show 0 * 14 = 0 from rfl] at hx213_2); (try rw [Addr.add_zero'] at hx213_2); (try rw [show ((0 : Int)).toNat = 0 from rfl] at hx213_3); (try rw [show 0 * 14 = 0 from rfl] at hx213_3); (try rw [Addr.add_zero'] at hx213_3); (try rw [show ((0 : Int)).toNat = 0 from rfl] at hx213_4); (try rw [show 0 * 14 = 0 from rfl] at hx213_4); (try rw [Addr.add_zero'] at hx213_4); (try rw [show ((0 : Int)).toNat = 0 from rfl] at hx213_5); (try rw [show 0 * 14 = 0 from rfl] at hx213_5); (try rw [Addr.add_zero'] at hx213_5); (try rw [show ((0 : Int)).toNat = 0 from rfl] at hx213_6); (try rw [show 0 * 14 = 0 from rfl] at hx213_6); (try rw [Addr.add_zero'] at hx213_6); (try rw [show ((0 : Int)).toNat = 0 from rfl] at hx213_7); (try rw [show 0 * 14 = 0 from rfl] at hx213_7); (try rw [Addr.add_zero'] at hx213_7); (try rw [show ((0 : Int)).toNat = 0 from rfl] at hx213_8); (try rw [show 0 * 14 = 0 from rfl] at hx213_8); (try rw [Addr.add_zero'] at hx213_8); (try rw [show ((0 : Int)).toNat = 0 from rfl] at hx213_9); (try rw [show 0 * 14 = 0 from rfl] at hx213_9); (try rw [Addr.add_zero'] at hx213_9); (try rw [show ((0 : Int)).toNat = 0 from rfl] at hx213_10); (try rw [show 0 * 14 = 0 from rfl] at hx213_10); (try rw [Addr.add_zero'] at hx213_10); (try rw [show ((0 : Int)).toNat = 0 from rfl] at hx213_11); (try rw [show 0 * 14 = 0 from rfl] at hx213_11); (try rw [Addr.add_zero'] at hx213_11); (try rw [show ((0 : Int)).toNat = 0 from rfl] at hx213_12); (try rw [show 0 * 14 = 0 from rfl] at hx213_12); (try rw [Addr.add_zero'] at hx213_12); (try rw [show ((0 : Int)).toNat = 0 from rfl] at hx213_13); (try rw [show 0 * 14 = 0 from rfl] at hx213_13); (try rw [Addr.add_zero'] at hx213_13); replace hx213_0 := ck_ HB.out hx213_0; replace hx213_1 := ck_ HB.out hx213_1; replace hx213_2 := ck_ HB.out hx213_2; replace hx213_3 := ck_ HB.out hx213_3; replace hx213_4 := ck_ HB.out hx213_4; replace hx213_5 := ck_ HB.out hx213_5; replace hx213_6 := ck_ HB.out hx213_6; replace hx213_7 := ck_ HB.out hx213_7; replace hx213_8 := ck_ HB.out hx213_8; replace hx213_9 := ck_ HB.out hx213_9; replace hx213_10 := ck_ HB.out hx213_10; replace hx213_11 := ck_ HB.out hx213_11; replace hx213_12 := ck_ HB.out hx213_12; replace hx213_13 := ck_ HB.out hx213_13; have HR213_3 := Aside0.mk hi213_3; have HC213_3 := Aside0.mk hl213_3; clear hi213_3 hl213_3; have HR213_7 := Aside0.mk hi213_7; have HC213_7 := Aside0.mk hl213_7; clear hi213_7 hl213_7; have HR213_9 := Aside0.mk hi213_9; have HC213_9 := Aside0.mk hl213_9; clear hi213_9 hl213_9; have HR213_12 := Aside0.mk hi213_12; have HC213_12 := Aside0.mk hl213_12; clear hi213_12 hl213_12; replace p213 := eq_true p213; replace q213 := eq_true q213; (try clear hx202_0 hx202_1 hx202_2 hx202_3 hx202_4 hx202_5 hx202_6 hx202_7 hx202_8 hx202_9 hx202_10 hx202_11 hx202_12 hx202_13); (try clear hx205_0 hx205_1 hx205_2 hx205_3 hx205_4 hx205_5 hx205_6 hx205_7 hx205_8 hx205_9 hx205_10 hx205_11 hx205_12 hx205_13); (try clear hx205_0 hx205_1 hx205_2 hx205_3 hx205_4 hx205_5 hx205_6 hx205_7 hx205_8 hx205_9 hx205_10 hx205_11 hx205_12 hx205_13); (try clear hx208_0 hx208_1 hx208_2 hx208_3 hx208_4 hx208_5 hx208_6 hx208_7 hx208_8 hx208_9 hx208_10 hx208_11 hx208_12 hx208_13); (try clear hx210_0 hx210_1 hx210_2 hx210_3 hx210_4 hx210_5 hx210_6 hx210_7 hx210_8 hx210_9 hx210_10 hx210_11 hx210_12 hx210_13); (try clear hx210_0 hx210_1 hx210_2 hx210_3 hx210_4 hx210_5 hx210_6 hx210_7 hx210_8 hx210_9 hx210_10 hx210_11 hx210_12 hx210_13)) | ((with_reducible refine gate_callee (f := 75) rfl ?_); refine goesY_ (some 46) Try.func75 #[.int .i64 ((rd_T33 l0 0).f1)] rfl ?_; (with_reducible refine (spec_l14Termed.calls ((rd_T33 l0 0).f1) false _ A21.out).mono ?_); rintro e w' ⟨rfl, ⟨nd, rfl⟩⟩; refine ⟨_, rfl, ?_⟩))
             go_ret
             exact ⟨ve_, hb_⟩
           ·
            replace c19 := Bool.eq_false_iff.mpr c19
            subst c19
            (try rw [if_neg (show ¬ (false = true) by decide)] at H)
            obtain rfl := Option.some.inj H
            go_wp2_with (first | ((with_reducible refine gate_callee (f := 74) rfl ?_); refine goesY_ (some 40) Try.func74 #[.pointer (some ad202)] rfl ?_; (with_reducible refine (spec_l14Numbers.calls kj13 _ (l0).length l0 false _ ?_ ?_ A18.out).mono ?_); exact C_up (Kd.C_below HR0.out HB.out); exact Nat.le_refl _; rintro e w' ⟨rfl, ⟨nd, rfl⟩⟩; refine ⟨_, rfl, ?_⟩))
            go_ret
            exact ⟨ve_, hb_⟩
   ·
    replace c6 := Bool.eq_false_iff.mpr c6
    subst c6
    (try rw [if_neg (show ¬ (false = true) by decide)] at H)
    obtain rfl := Option.some.inj H
    have p202 : 0 ≤ (0 : Int) := (by omega)
    have q202 : 0 < (l0.length : Int) := od_
    obtain ⟨ad202, A202_3, c202_3, A202_7, c202_7, A202_9, c202_9, A202_12, c202_12, e202, hx202_0, hx202_1, hx202_2, hx202_3, hx202_4, hx202_5, hx202_6, hx202_7, hx202_8, hx202_9, hx202_10, hx202_11, hx202_12, hx202_13, hl202_3, hi202_3, hl202_7, hi202_7, hl202_9, hi202_9, hl202_12, hi202_12⟩ := at_T33 HR0.out 0 p202 q202
    cases e202
    have qi202 : (0 < l0.length) = True := eq_true (by omega)
    (try simp only [Int.toNat_zero, Nat.zero_mul, Addr.add_zero'] at hx202_0 hx202_1 hx202_2 hx202_3 hx202_4 hx202_5 hx202_6 hx202_7 hx202_8 hx202_9 hx202_10 hx202_11 hx202_12 hx202_13)
    have HR202_3 := Aside0.mk hi202_3
    have HC202_3 := Aside0.mk hl202_3
    clear hi202_3 hl202_3
    have HR202_7 := Aside0.mk hi202_7
    have HC202_7 := Aside0.mk hl202_7
    clear hi202_7 hl202_7
    have HR202_9 := Aside0.mk hi202_9
    have HC202_9 := Aside0.mk hl202_9
    clear hi202_9 hl202_9
    have HR202_12 := Aside0.mk hi202_12
    have HC202_12 := Aside0.mk hl202_12
    clear hi202_12 hl202_12
    replace p202 := eq_true p202
    replace q202 := eq_true q202
    (try clear hx205_0 hx205_1 hx205_2 hx205_3 hx205_4 hx205_5 hx205_6 hx205_7 hx205_8 hx205_9 hx205_10 hx205_11 hx205_12 hx205_13)
    (try clear hx205_0 hx205_1 hx205_2 hx205_3 hx205_4 hx205_5 hx205_6 hx205_7 hx205_8 hx205_9 hx205_10 hx205_11 hx205_12 hx205_13)
    (try clear hx208_0 hx208_1 hx208_2 hx208_3 hx208_4 hx208_5 hx208_6 hx208_7 hx208_8 hx208_9 hx208_10 hx208_11 hx208_12 hx208_13)
    (try clear hx210_0 hx210_1 hx210_2 hx210_3 hx210_4 hx210_5 hx210_6 hx210_7 hx210_8 hx210_9 hx210_10 hx210_11 hx210_12 hx210_13)
    (try clear hx210_0 hx210_1 hx210_2 hx210_3 hx210_4 hx210_5 hx210_6 hx210_7 hx210_8 hx210_9 hx210_10 hx210_11 hx210_12 hx210_13)
    (try clear hx213_0 hx213_1 hx213_2 hx213_3 hx213_4 hx213_5 hx213_6 hx213_7 hx213_8 hx213_9 hx213_10 hx213_11 hx213_12 hx213_13)
    (try clear hx213_0 hx213_1 hx213_2 hx213_3 hx213_4 hx213_5 hx213_6 hx213_7 hx213_8 hx213_9 hx213_10 hx213_11 hx213_12 hx213_13)
    go_enter Try.func31, Try.ntmps31
    go_wp2_with (first | ((with_reducible refine gate_callee (f := 68) rfl ?_); refine goesY_ (some 8) Try.func68 #[.string ((rd_T33 l0 0).f0)] rfl ?_; (with_reducible refine (spec_l14Tag.calls k ((rd_T33 l0 0).f0) true _ A3.out).mono ?_); rintro e w' ⟨rfl, ⟨nd, rfl⟩⟩; refine ⟨_, rfl, ?_⟩) | ((with_reducible refine gate_callee (f := 69) rfl ?_); refine goesY_ (some 11) Try.func69 #[.pointer (some ad202)] rfl ?_; (with_reducible refine (spec_l14Form.calls k _ (l0).length l0 false _ ?_ ?_ A5.out).mono ?_); exact C_up HR0.out; exact Nat.le_refl _; rintro e w' ⟨rfl, ⟨nd, rfl⟩⟩; refine ⟨_, rfl, ?_⟩))
    go_ret
    exact ⟨ve_, hb_⟩
  ·
   replace c4 := Bool.eq_false_iff.mpr c4
   subst c4
   (try rw [if_neg (show ¬ (false = true) by decide)] at H)
   obtain rfl := Option.some.inj H
   have p202 : 0 ≤ (0 : Int) := (by omega)
   have q202 : 0 < (l0.length : Int) := od_
   obtain ⟨ad202, A202_3, c202_3, A202_7, c202_7, A202_9, c202_9, A202_12, c202_12, e202, hx202_0, hx202_1, hx202_2, hx202_3, hx202_4, hx202_5, hx202_6, hx202_7, hx202_8, hx202_9, hx202_10, hx202_11, hx202_12, hx202_13, hl202_3, hi202_3, hl202_7, hi202_7, hl202_9, hi202_9, hl202_12, hi202_12⟩ := at_T33 HR0.out 0 p202 q202
   cases e202
   have qi202 : (0 < l0.length) = True := eq_true (by omega)
   (try simp only [Int.toNat_zero, Nat.zero_mul, Addr.add_zero'] at hx202_0 hx202_1 hx202_2 hx202_3 hx202_4 hx202_5 hx202_6 hx202_7 hx202_8 hx202_9 hx202_10 hx202_11 hx202_12 hx202_13)
   have HR202_3 := Aside0.mk hi202_3
   have HC202_3 := Aside0.mk hl202_3
   clear hi202_3 hl202_3
   have HR202_7 := Aside0.mk hi202_7
   have HC202_7 := Aside0.mk hl202_7
   clear hi202_7 hl202_7
   have HR202_9 := Aside0.mk hi202_9
   have HC202_9 := Aside0.mk hl202_9
   clear hi202_9 hl202_9
   have HR202_12 := Aside0.mk hi202_12
   have HC202_12 := Aside0.mk hl202_12
   clear hi202_12 hl202_12
   replace p202 := eq_true p202
   replace q202 := eq_true q202
   (try clear hx205_0 hx205_1 hx205_2 hx205_3 hx205_4 hx205_5 hx205_6 hx205_7 hx205_8 hx205_9 hx205_10 hx205_11 hx205_12 hx205_13)
   (try clear hx205_0 hx205_1 hx205_2 hx205_3 hx205_4 hx205_5 hx205_6 hx205_7 hx205_8 hx205_9 hx205_10 hx205_11 hx205_12 hx205_13)
   (try clear hx208_0 hx208_1 hx208_2 hx208_3 hx208_4 hx208_5 hx208_6 hx208_7 hx208_8 hx208_9 hx208_10 hx208_11 hx208_12 hx208_13)
   (try clear hx210_0 hx210_1 hx210_2 hx210_3 hx210_4 hx210_5 hx210_6 hx210_7 hx210_8 hx210_9 hx210_10 hx210_11 hx210_12 hx210_13)
   (try clear hx210_0 hx210_1 hx210_2 hx210_3 hx210_4 hx210_5 hx210_6 hx210_7 hx210_8 hx210_9 hx210_10 hx210_11 hx210_12 hx210_13)
   (try clear hx213_0 hx213_1 hx213_2 hx213_3 hx213_4 hx213_5 hx213_6 hx213_7 hx213_8 hx213_9 hx213_10 hx213_11 hx213_12 hx213_13)
   (try clear hx213_0 hx213_1 hx213_2 hx213_3 hx213_4 hx213_5 hx213_6 hx213_7 hx213_8 hx213_9 hx213_10 hx213_11 hx213_12 hx213_13)
   go_enter Try.func31, Try.ntmps31
   go_wp2_with (first | ((with_reducible refine gate_callee (f := 68) rfl ?_); refine goesY_ (some 8) Try.func68 #[.string ((rd_T33 l0 0).f0)] rfl ?_; (with_reducible refine (spec_l14Tag.calls k ((rd_T33 l0 0).f0) false _ A3.out).mono ?_); rintro e w' ⟨rfl, ⟨nd, rfl⟩⟩; refine ⟨_, rfl, ?_⟩))
   go_ret
   exact ⟨ve_, hb_⟩
 · rw [if_neg c2] at H
   exact absurd H (by simp)

/-! ### spec_CmdFault: function 7 -/
def spec_CmdFault.f (k : Nat) (a0_0 : ByteArray) (a0_1 : Int) (a0_2 : ByteArray) (l0_3 : List (S100)) (a0_4 : Int) (a0_5 : Int) (a0_6 : Int) (l0_7 : List Int) (a0_8 : Int) (l0_9 : List Int) (a0_10 : Int) (a0_11 : Bool) (l0_12 : List (S104)) (a0_13 : Int) : Option (Int) := (spec_l14Fault.f k [(⟨a0_0, a0_1, a0_2, l0_3, a0_4, a0_5, a0_6, l0_7, a0_8, l0_9, a0_10, a0_11, l0_12, a0_13⟩ : S33)]).bind fun t218 => (some t218)
set_option maxHeartbeats 8000000 in
set_option maxRecDepth 100000 in
theorem spec_CmdFault.calls (k : Nat) (a0_0 : ByteArray) (a0_1 : Int) (a0_2 : ByteArray) (A0_3 : Option Addr) (c0_3 : Nat) (l0_3 : List (S100)) (a0_4 : Int) (a0_5 : Int) (a0_6 : Int) (A0_7 : Option Addr) (c0_7 : Nat) (l0_7 : List Int) (a0_8 : Int) (A0_9 : Option Addr) (c0_9 : Nat) (l0_9 : List Int) (a0_10 : Int) (a0_11 : Bool) (A0_12 : Option Addr) (c0_12 : Nat) (l0_12 : List (S104)) (a0_13 : Int) (r : Int) (w : World) (hr0_3 : Kd.C k100 w A0_3 l0_3.length l0_3) (hc0_3 : l0_3.length ≤ c0_3) (hr0_7 : Kd.C (Kd.int .u8) w A0_7 l0_7.length l0_7) (hc0_7 : l0_7.length ≤ c0_7) (hr0_9 : Kd.C (Kd.int .i64) w A0_9 l0_9.length l0_9) (hc0_9 : l0_9.length ≤ c0_9) (hr0_12 : Kd.C k104 w A0_12 l0_12.length l0_12) (hc0_12 : l0_12.length ≤ c0_12) (h : spec_CmdFault.f k a0_0 a0_1 a0_2 l0_3 a0_4 a0_5 a0_6 l0_7 a0_8 l0_9 a0_10 a0_11 l0_12 a0_13 = some r) :
 Calls Try.prog 7 #[.agg #[.string a0_0, .int .i64 a0_1, .string a0_2, .slice A0_3 l0_3.length c0_3, .int .i64 a0_4, .int .i64 a0_5, .int .i64 a0_6, .slice A0_7 l0_7.length c0_7, .int .i64 a0_8, .slice A0_9 l0_9.length c0_9, .int .i64 a0_10, .bool a0_11, .slice A0_12 l0_12.length c0_12, .int .i64 a0_13]] w fun e w' => e = .returned (.int .i64 r) ∧ Below w.heap.size w w' := by
 have hu33 := Try.underlying33
 have HR0_3 := Aside0.mk hr0_3
 have HC0_3 := Aside0.mk hc0_3
 clear hr0_3 hc0_3
 have HR0_7 := Aside0.mk hr0_7
 have HC0_7 := Aside0.mk hc0_7
 clear hr0_7 hc0_7
 have HR0_9 := Aside0.mk hr0_9
 have HC0_9 := Aside0.mk hc0_9
 clear hr0_9 hc0_9
 have HR0_12 := Aside0.mk hr0_12
 have HC0_12 := Aside0.mk hc0_12
 clear hr0_12 hc0_12
 have HB := Aside0.mk (Below.refl w.heap.size w)
 have H : ((spec_l14Fault.f k [(⟨a0_0, a0_1, a0_2, l0_3, a0_4, a0_5, a0_6, l0_7, a0_8, l0_9, a0_10, a0_11, l0_12, a0_13⟩ : S33)]).bind fun t218 => (some t218)) = some r := h
 clear h
 replace H := Option.bind_eq_some_iff.mp H
 obtain ⟨t218, A20, H⟩ := H
 replace H : (some t218) = some r := H
 have A2 := Aside0.mk A20
 clear A20
 obtain rfl := Option.some.inj H
 go_enter Try.func7, Try.ntmps7
 go_wp2_with (first | ((with_reducible refine gate_dst (N := 1) rfl ?_); refine box_event ?hg (N := 1) ?hd (cs := #[.string a0_0, .int .i64 a0_1, .string a0_2, .slice A0_3 l0_3.length c0_3, .int .i64 a0_4, .int .i64 a0_5, .int .i64 a0_6, .slice A0_7 l0_7.length c0_7, .int .i64 a0_8, .slice A0_9 l0_9.length c0_9, .int .i64 a0_10, .bool a0_11, .slice A0_12 l0_12.length c0_12, .int .i64 a0_13]) (t := 33) ?hr ?_; (case hd => rfl); (case hg => rfl); (case hr => first | (go_simp; done) | (go_simp; rfl)); intro gb217 hg w3 hbox hb; have n0_ := Aside0.mk (below_step (HB_up HB.out) hb); have n1_ := Aside0.mk (hbox); have n2_ := Aside0.mk ((by rw [hg]; exact (below_size (HB_up HB.out)) : w.heap.size ≤ gb217)); have n3_ := Aside0.mk ((by rw [hg]; exact (below_size (HB_up HB.out)) : w.heap.size ≤ gb217)); clear HB; have HB := n0_; have BK217 := n1_; have GW217 := n2_; have GE217 := n3_; clear n0_ n1_ n2_ n3_; clear hb hbox hg) | ((with_reducible refine gate_callee (f := 31) rfl ?_); refine goesY_ (some 3) Try.func31 #[.pointer (some ⟨gb217, 0, none⟩)] rfl ?_; (with_reducible refine (spec_l14Fault.calls k _ ([(⟨a0_0, a0_1, a0_2, l0_3, a0_4, a0_5, a0_6, l0_7, a0_8, l0_9, a0_10, a0_11, l0_12, a0_13⟩ : S33)]).length [(⟨a0_0, a0_1, a0_2, l0_3, a0_4, a0_5, a0_6, l0_7, a0_8, l0_9, a0_10, a0_11, l0_12, a0_13⟩ : S33)] t218 _ ?_ ?_ A2.out).mono ?_); exact Kd.C_box (blk_up BK217.out) ⟨[.string a0_0], [.int .i64 a0_1, .string a0_2, .slice A0_3 l0_3.length c0_3, .int .i64 a0_4, .int .i64 a0_5, .int .i64 a0_6, .slice A0_7 l0_7.length c0_7, .int .i64 a0_8, .slice A0_9 l0_9.length c0_9, .int .i64 a0_10, .bool a0_11, .slice A0_12 l0_12.length c0_12, .int .i64 a0_13], rfl, rfl, ⟨[.int .i64 a0_1], [.string a0_2, .slice A0_3 l0_3.length c0_3, .int .i64 a0_4, .int .i64 a0_5, .int .i64 a0_6, .slice A0_7 l0_7.length c0_7, .int .i64 a0_8, .slice A0_9 l0_9.length c0_9, .int .i64 a0_10, .bool a0_11, .slice A0_12 l0_12.length c0_12, .int .i64 a0_13], rfl, rfl, ⟨[.string a0_2], [.slice A0_3 l0_3.length c0_3, .int .i64 a0_4, .int .i64 a0_5, .int .i64 a0_6, .slice A0_7 l0_7.length c0_7, .int .i64 a0_8, .slice A0_9 l0_9.length c0_9, .int .i64 a0_10, .bool a0_11, .slice A0_12 l0_12.length c0_12, .int .i64 a0_13], rfl, rfl, ⟨[.slice A0_3 l0_3.length c0_3], [.int .i64 a0_4, .int .i64 a0_5, .int .i64 a0_6, .slice A0_7 l0_7.length c0_7, .int .i64 a0_8, .slice A0_9 l0_9.length c0_9, .int .i64 a0_10, .bool a0_11, .slice A0_12 l0_12.length c0_12, .int .i64 a0_13], rfl, ⟨_, _, rfl, (by exact HC0_3.out), (by exact C_up (Kd.C_below HR0_3.out HB.out))⟩, ⟨[.int .i64 a0_4], [.int .i64 a0_5, .int .i64 a0_6, .slice A0_7 l0_7.length c0_7, .int .i64 a0_8, .slice A0_9 l0_9.length c0_9, .int .i64 a0_10, .bool a0_11, .slice A0_12 l0_12.length c0_12, .int .i64 a0_13], rfl, rfl, ⟨[.int .i64 a0_5], [.int .i64 a0_6, .slice A0_7 l0_7.length c0_7, .int .i64 a0_8, .slice A0_9 l0_9.length c0_9, .int .i64 a0_10, .bool a0_11, .slice A0_12 l0_12.length c0_12, .int .i64 a0_13], rfl, rfl, ⟨[.int .i64 a0_6], [.slice A0_7 l0_7.length c0_7, .int .i64 a0_8, .slice A0_9 l0_9.length c0_9, .int .i64 a0_10, .bool a0_11, .slice A0_12 l0_12.length c0_12, .int .i64 a0_13], rfl, rfl, ⟨[.slice A0_7 l0_7.length c0_7], [.int .i64 a0_8, .slice A0_9 l0_9.length c0_9, .int .i64 a0_10, .bool a0_11, .slice A0_12 l0_12.length c0_12, .int .i64 a0_13], rfl, ⟨_, _, rfl, (by exact HC0_7.out), (by exact C_up (Kd.C_below HR0_7.out HB.out))⟩, ⟨[.int .i64 a0_8], [.slice A0_9 l0_9.length c0_9, .int .i64 a0_10, .bool a0_11, .slice A0_12 l0_12.length c0_12, .int .i64 a0_13], rfl, rfl, ⟨[.slice A0_9 l0_9.length c0_9], [.int .i64 a0_10, .bool a0_11, .slice A0_12 l0_12.length c0_12, .int .i64 a0_13], rfl, ⟨_, _, rfl, (by exact HC0_9.out), (by exact C_up (Kd.C_below HR0_9.out HB.out))⟩, ⟨[.int .i64 a0_10], [.bool a0_11, .slice A0_12 l0_12.length c0_12, .int .i64 a0_13], rfl, rfl, ⟨[.bool a0_11], [.slice A0_12 l0_12.length c0_12, .int .i64 a0_13], rfl, rfl, ⟨[.slice A0_12 l0_12.length c0_12], [.int .i64 a0_13], rfl, ⟨_, _, rfl, (by exact HC0_12.out), (by exact C_up (Kd.C_below HR0_12.out HB.out))⟩, rfl⟩⟩⟩⟩⟩⟩⟩⟩⟩⟩⟩⟩⟩; exact Nat.le_refl _; rintro e w4 ⟨rfl, hb⟩; refine ⟨_, rfl, ?_⟩; replace BK217 := Aside0.mk (blk_below (g := gb217) (blk_up BK217.out) hb); replace HB := Aside0.mk (below_step (HB_up HB.out) hb); (try clear hb)))
 go_ret
 exact ⟨ve_, hs_⟩

/-! ### laws_toRange: function 77 -/
def laws_toRange.f (a0_0 : Int) (a0_1 : Int) : Option (Int × Int) := some (a0_0, a0_1)
set_option maxHeartbeats 8000000 in
set_option maxRecDepth 100000 in
theorem laws_toRange.calls (a0_0 : Int) (a0_1 : Int) (r1 : Int) (r2 : Int) (w : World) (h : laws_toRange.f a0_0 a0_1 = some (r1, r2)) :
 Calls Try.prog 77 #[.agg #[.int .i64 a0_0, .int .i64 a0_1]] w fun e w' => e = .returned (.agg #[.int .i64 r1, .int .i64 r2]) ∧ Below w.heap.size w w' := by
 have hu102 := Try.underlying102
 have hu100 := Try.underlying100
 have HB := Aside0.mk (Below.refl w.heap.size w)
 have H : (some (a0_0, a0_1)) = some (r1, r2) := h
 clear h
 simp only [Option.some.injEq, Prod.mk.injEq] at H
 obtain ⟨rfl, rfl⟩ := H
 go_enter Try.func77, Try.ntmps77
 go_wp2_with (first | ((with_reducible refine gate_dst (N := 1) rfl ?_); refine box_event ?hg (N := 1) ?hd (cs := #[.int .i64 a0_0, .int .i64 a0_1]) (t := 102) ?hr ?_; (case hd => rfl); (case hg => rfl); (case hr => first | (go_simp; done) | (go_simp; rfl)); intro gb219 hg w2 hbox hb; have n0_ := Aside0.mk (below_step hs_ hb); have n1_ := Aside0.mk (hbox); have n2_ := Aside0.mk ((by rw [hg]; exact (below_size hs_) : w.heap.size ≤ gb219)); have n3_ := Aside0.mk ((by rw [hg]; exact (below_size hs_) : w.heap.size ≤ gb219)); clear HB; have HB := n0_; have BK219 := n1_; have GW219 := n2_; have GE219 := n3_; clear n0_ n1_ n2_ n3_; clear hb hbox hg) | ((with_reducible refine gate_dst (N := 2) rfl ?_); refine box_event ?hg (N := 2) ?hd (cs := #[.int .i64 0, .int .i64 0]) (t := 100) ?hr ?_; (case hd => rfl); (case hg => rfl); (case hr => first | (go_simp; done) | (go_simp; rfl)); intro gb220 hg w3 hbox hb; have n0_ := Aside0.mk (blk_below (g := gb219) (blk_up BK219.out) hb); have n1_ := Aside0.mk (below_step hs_ hb); have n2_ := Aside0.mk (hbox); have n3_ := Aside0.mk ((by rw [hg]; exact (below_size hs_) : w.heap.size ≤ gb220)); have n4_ := Aside0.mk ((by rw [hg]; exact (below_size hs_) : w.heap.size ≤ gb220)); have n5_ := Aside0.mk ((by rw [hg]; exact Nat.ne_of_lt (blk_lt (g := gb219) (blk_up BK219.out)) : gb219 ≠ gb220)); have n6_ := Aside0.mk ((by rw [hg]; exact Nat.ne_of_gt (blk_lt (g := gb219) (blk_up BK219.out)) : gb220 ≠ gb219)); clear BK219; clear HB; have BK219 := n0_; have HB := n1_; have BK220 := n2_; have GW220 := n3_; have GE220 := n4_; have NB219_220 := n5_; have NB220_219 := n6_; clear n0_ n1_ n2_ n3_ n4_ n5_ n6_; clear hb hbox hg) | ((with_reducible refine gate_dst (N := 3) rfl ?_); refine box_event ?hg (N := 3) ?hd (cs := #[.int .i64 0, .int .i64 0]) (t := 100) ?hr ?_; (case hd => rfl); (case hg => rfl); (case hr => first | (go_simp; done) | (go_simp; rfl)); intro gb221 hg w4 hbox hb; have n0_ := Aside0.mk (blk_below (g := gb219) (blk_up BK219.out) hb); have n1_ := Aside0.mk (blk_below (g := gb220) (blk_up BK220.out) hb); have n2_ := Aside0.mk (below_step hs_ hb); have n3_ := Aside0.mk (hbox); have n4_ := Aside0.mk ((by rw [hg]; exact (below_size hs_) : w.heap.size ≤ gb221)); have n5_ := Aside0.mk ((by rw [hg]; exact (below_size hs_) : w.heap.size ≤ gb221)); have n6_ := Aside0.mk ((by rw [hg]; exact Nat.ne_of_lt (blk_lt (g := gb219) (blk_up BK219.out)) : gb219 ≠ gb221)); have n7_ := Aside0.mk ((by rw [hg]; exact Nat.ne_of_gt (blk_lt (g := gb219) (blk_up BK219.out)) : gb221 ≠ gb219)); have n8_ := Aside0.mk ((by rw [hg]; exact Nat.ne_of_lt (blk_lt (g := gb220) (blk_up BK220.out)) : gb220 ≠ gb221)); have n9_ := Aside0.mk ((by rw [hg]; exact Nat.ne_of_gt (blk_lt (g := gb220) (blk_up BK220.out)) : gb221 ≠ gb220)); clear BK219; clear BK220; clear HB; have BK219 := n0_; have BK220 := n1_; have HB := n2_; have BK221 := n3_; have GW221 := n4_; have GE221 := n5_; have NB219_221 := n6_; have NB221_219 := n7_; have NB220_221 := n8_; have NB221_220 := n9_; clear n0_ n1_ n2_ n3_ n4_ n5_ n6_ n7_ n8_ n9_; clear hb hbox hg; have hnb5 := NB219_220.out; have hnc5 := NB220_219.out; have hnb6 := NB219_221.out; have hnc6 := NB221_219.out; have hcz7_0 : w4.cell? ⟨gb219, 0, none⟩ = some (.int .i64 a0_0) := (blk_cell BK219.out 0).trans rfl; have hcz7_1 : w4.cell? ⟨gb219, 1, none⟩ = some (.int .i64 a0_1) := (blk_cell BK219.out 1).trans rfl; have hfz7_0 := blk_frozen BK219.out 0; have hfz7_1 := blk_frozen BK219.out 1; have hnb8 := NB221_220.out; have hnc8 := NB220_221.out; have hcz9_0 : w4.cell? ⟨gb221, 0, none⟩ = some (.int .i64 0) := (blk_cell BK221.out 0).trans rfl; have hcz9_1 : w4.cell? ⟨gb221, 1, none⟩ = some (.int .i64 0) := (blk_cell BK221.out 1).trans rfl; have hfz9_0 := blk_frozen BK221.out 0; have hfz9_1 := blk_frozen BK221.out 1; have hcz10_0 : w4.cell? ⟨gb220, 0, none⟩ = some (.int .i64 0) := (blk_cell BK220.out 0).trans rfl; have hcz10_1 : w4.cell? ⟨gb220, 1, none⟩ = some (.int .i64 0) := (blk_cell BK220.out 1).trans rfl; have hfz10_0 := blk_frozen BK220.out 0; have hfz10_1 := blk_frozen BK220.out 1))
 refine bodyPost_ret (results_cell_row rfl _ _ gb220 100 #[.int .i64 a0_0, .int .i64 a0_1] (0, 0) _ rfl (by (with_reducible repeat (first | refine blk_drewN ?_ _ | refine blk_drew ?_ | refine blk_alloc ?_ _)); refine blk_put (cs := #[.int .i64 a0_0, .int .i64 0]) ?_ 1 _ rfl; (with_reducible repeat (first | refine blk_drewN ?_ _ | refine blk_drew ?_ | refine blk_alloc ?_ _)); refine blk_put (cs := #[.int .i64 0, .int .i64 0]) ?_ 0 _ rfl; (with_reducible repeat (first | refine blk_drewN ?_ _ | refine blk_drew ?_ | refine blk_alloc ?_ _)); refine blk_far ?_ NB220_221.out _; (with_reducible repeat (first | refine blk_drewN ?_ _ | refine blk_drew ?_ | refine blk_alloc ?_ _)); refine blk_far ?_ NB220_221.out _; (with_reducible repeat (first | refine blk_drewN ?_ _ | refine blk_drew ?_ | refine blk_alloc ?_ _)); exact BK220.out) Try.underlying100 rfl (by kernel_rfl)) rfl ?_
 exact ⟨ve_, hs_⟩

end Go.Proofs.Ytnehephjliankaa.PFnExactCmdFault

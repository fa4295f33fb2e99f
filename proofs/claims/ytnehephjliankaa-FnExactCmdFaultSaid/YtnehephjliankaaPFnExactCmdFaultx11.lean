/- Functions of the program as Lean functions, each with the proof that its call comes to what that function says (texts written by a program of this session). Conditions: those that stand in each theorem. -/
import Derived.Test.YtnehephjliankaaPFnExactCmdFaultx0
import Derived.Test.YtnehephjliankaaPFnExactCmdFaultx8
import Derived.Test.YtnehephjliankaaPFnExactCmdFaultx10
namespace Go.Proofs.Ytnehephjliankaa.PFnExactCmdFault
open Go.RowKit Go.Proofs.YtnehephjliankaaW.PrintWords Go.Proofs.YtnehephjliankaaW.PrintLast Go.Proofs.YtnehephjliankaaW.PrintMore
attribute [local go_sem] max2_int min2_int max_two min_two max_three min_three max_four min_four   -- for this text's walks alone
set_option linter.unusedVariables false
set_option linter.unusedSimpArgs false

/-! ### impl_Term_isOnly: function 92 -/
def impl_Term_isOnly.f (a0_0 : Int) (a0_1 : Int) (l0_2 : List Int) (l0_3 : List (S100)) (a0_4 : Int) (a0_5 : Int) : Option (Bool) := (impl_hasNum.f a0_0).bind fun t385 => (if t385 = true then ((impl_hasCodes.f a0_0).bind fun t386 => (if t386 = true then (if a0_0 = 8 then (if a0_0 ≥ 10 then (some true) else (if a0_0 = 9 then (some (a0_5 == 0)) else (if a0_4 = 0 then (some (a0_5 == 0)) else (some false)))) else (if (l0_3.length : Int) = 0 then (if a0_0 ≥ 10 then (some true) else (if a0_0 = 9 then (some (a0_5 == 0)) else (if a0_4 = 0 then (some (a0_5 == 0)) else (some false)))) else (some false))) else (if (l0_2.length : Int) = 0 then (if a0_0 = 8 then (if a0_0 ≥ 10 then (some true) else (if a0_0 = 9 then (some (a0_5 == 0)) else (if a0_4 = 0 then (some (a0_5 == 0)) else (some false)))) else (if (l0_3.length : Int) = 0 then (if a0_0 ≥ 10 then (some true) else (if a0_0 = 9 then (some (a0_5 == 0)) else (if a0_4 = 0 then (some (a0_5 == 0)) else (some false)))) else (some false))) else (some false)))) else (if a0_1 = 0 then ((impl_hasCodes.f a0_0).bind fun t387 => (if t387 = true then (if a0_0 = 8 then (if a0_0 ≥ 10 then (some true) else (if a0_0 = 9 then (some (a0_5 == 0)) else (if a0_4 = 0 then (some (a0_5 == 0)) else (some false)))) else (if (l0_3.length : Int) = 0 then (if a0_0 ≥ 10 then (some true) else (if a0_0 = 9 then (some (a0_5 == 0)) else (if a0_4 = 0 then (some (a0_5 == 0)) else (some false)))) else (some false))) else (if (l0_2.length : Int) = 0 then (if a0_0 = 8 then (if a0_0 ≥ 10 then (some true) else (if a0_0 = 9 then (some (a0_5 == 0)) else (if a0_4 = 0 then (some (a0_5 == 0)) else (some false)))) else (if (l0_3.length : Int) = 0 then (if a0_0 ≥ 10 then (some true) else (if a0_0 = 9 then (some (a0_5 == 0)) else (if a0_4 = 0 then (some (a0_5 == 0)) else (some false)))) else (some false))) else (some false)))) else (some false)))
def impl_Term_isOnly.Tag (_ : Nat) (p : Prop) : Prop := p
theorem impl_Term_isOnly.Tag.un {n : Nat} {p : Prop} (h : impl_Term_isOnly.Tag n p) : p := h
theorem impl_Term_isOnly.Tag.mk (n : Nat) {p : Prop} (h : p) : impl_Term_isOnly.Tag n p := h
set_option maxHeartbeats 8000000 in
set_option maxRecDepth 100000 in
theorem impl_Term_isOnly.calls (a0_0 : Int) (a0_1 : Int) (A0_2 : Option Addr) (c0_2 : Nat) (l0_2 : List Int) (A0_3 : Option Addr) (c0_3 : Nat) (l0_3 : List (S100)) (a0_4 : Int) (a0_5 : Int) (r : Bool) (w : World) (hr0_2 : Kd.C (Kd.int .i64) w A0_2 l0_2.length l0_2) (hc0_2 : l0_2.length ≤ c0_2) (hr0_3 : Kd.C k100 w A0_3 l0_3.length l0_3) (hc0_3 : l0_3.length ≤ c0_3) (h : impl_Term_isOnly.f a0_0 a0_1 l0_2 l0_3 a0_4 a0_5 = some r) :
 Calls Try.prog 92 #[.agg #[.int .i64 a0_0, .int .i64 a0_1, .slice A0_2 l0_2.length c0_2, .slice A0_3 l0_3.length c0_3, .int .i64 a0_4, .int .i64 a0_5]] w fun e w' => e = .returned (.bool r) ∧ Below w.heap.size w w' := by
 have hu104 := Try.underlying104
 have HR0_2 := Aside0.mk hr0_2
 have HC0_2 := Aside0.mk hc0_2
 clear hr0_2 hc0_2
 have HR0_3 := Aside0.mk hr0_3
 have HC0_3 := Aside0.mk hc0_3
 clear hr0_3 hc0_3
 have HB := Aside0.mk (Below.refl w.heap.size w)
 have H : ((impl_hasNum.f a0_0).bind fun t385 => (if t385 = true then ((impl_hasCodes.f a0_0).bind fun t386 => (if t386 = true then (if a0_0 = 8 then (if a0_0 ≥ 10 then (some true) else (if a0_0 = 9 then (some (a0_5 == 0)) else (if a0_4 = 0 then (some (a0_5 == 0)) else (some false)))) else (if (l0_3.length : Int) = 0 then (if a0_0 ≥ 10 then (some true) else (if a0_0 = 9 then (some (a0_5 == 0)) else (if a0_4 = 0 then (some (a0_5 == 0)) else (some false)))) else (some false))) else (if (l0_2.length : Int) = 0 then (if a0_0 = 8 then (if a0_0 ≥ 10 then (some true) else (if a0_0 = 9 then (some (a0_5 == 0)) else (if a0_4 = 0 then (some (a0_5 == 0)) else (some false)))) else (if (l0_3.length : Int) = 0 then (if a0_0 ≥ 10 then (some true) else (if a0_0 = 9 then (some (a0_5 == 0)) else (if a0_4 = 0 then (some (a0_5 == 0)) else (some false)))) else (some false))) else (some false)))) else (if a0_1 = 0 then ((impl_hasCodes.f a0_0).bind fun t387 => (if t387 = true then (if a0_0 = 8 then (if a0_0 ≥ 10 then (some true) else (if a0_0 = 9 then (some (a0_5 == 0)) else (if a0_4 = 0 then (some (a0_5 == 0)) else (some false)))) else (if (l0_3.length : Int) = 0 then (if a0_0 ≥ 10 then (some true) else (if a0_0 = 9 then (some (a0_5 == 0)) else (if a0_4 = 0 then (some (a0_5 == 0)) else (some false)))) else (some false))) else (if (l0_2.length : Int) = 0 then (if a0_0 = 8 then (if a0_0 ≥ 10 then (some true) else (if a0_0 = 9 then (some (a0_5 == 0)) else (if a0_4 = 0 then (some (a0_5 == 0)) else (some false)))) else (if (l0_3.length : Int) = 0 then (if a0_0 ≥ 10 then (some true) else (if a0_0 = 9 then (some (a0_5 == 0)) else (if a0_4 = 0 then (some (a0_5 == 0)) else (some false)))) else (some false))) else (some false)))) else (some false)))) = some r := h
 clear h
 replace H := Option.bind_eq_some_iff.mp H
 obtain ⟨t385, A20, H⟩ := H
 (try dsimp only at H)
 have A2 := Aside0.mk A20
 clear A20
 by_cases c3 : t385 = true
 focus
  subst c3
  (try rw [if_pos rfl] at H)
  replace H := Option.bind_eq_some_iff.mp H
  obtain ⟨t386, A40, H⟩ := H
  (try dsimp only at H)
  have A4 := Aside0.mk A40
  clear A40
  by_cases c5 : t386 = true
  focus
   subst c5
   (try rw [if_pos rfl] at H)
   by_cases c6 : a0_0 = 8
   focus
    rw [if_pos c6] at H
    have c6b0 : (a0_0 == 8) = true := beq_iff_eq.mpr c6
    have c6b1 : (a0_0 != 8) = false := bne_eq_false_iff_eq.mpr c6
    clear c6
    by_cases c7 : a0_0 ≥ 10
    focus
     rw [if_pos c7] at H
     have c7b0 : decide (10 ≤ a0_0) = true := decide_eq_true c7
     clear c7
     obtain rfl := Option.some.inj H
     refine impl_Term_isOnly.Tag.un (n := 1) ?_
    rotate_left 1
    focus
     rw [if_neg c7] at H
     have c7b0 : decide (10 ≤ a0_0) = false := decide_eq_false c7
     clear c7
     by_cases c10 : a0_0 = 9
     focus
      rw [if_pos c10] at H
      have c10b0 : (a0_0 == 9) = true := beq_iff_eq.mpr c10
      have c10b1 : (a0_0 != 9) = false := bne_eq_false_iff_eq.mpr c10
      clear c10
      obtain rfl := Option.some.inj H
      refine impl_Term_isOnly.Tag.un (n := 1) ?_
     rotate_left 1
     focus
      rw [if_neg c10] at H
      have c10b0 : (a0_0 == 9) = false := beq_eq_false_iff_ne.mpr c10
      have c10b1 : (a0_0 != 9) = true := bne_iff_ne.mpr c10
      by_cases c13 : a0_4 = 0
      focus
       rw [if_pos c13] at H
       have c13b0 : (a0_4 == 0) = true := beq_iff_eq.mpr c13
       have c13b1 : (a0_4 != 0) = false := bne_eq_false_iff_eq.mpr c13
       clear c13
       obtain rfl := Option.some.inj H
       refine impl_Term_isOnly.Tag.un (n := 1) ?_
      rotate_left 1
      focus
       rw [if_neg c13] at H
       have c13b0 : (a0_4 == 0) = false := beq_eq_false_iff_ne.mpr c13
       have c13b1 : (a0_4 != 0) = true := bne_iff_ne.mpr c13
       obtain rfl := Option.some.inj H
       refine impl_Term_isOnly.Tag.un (n := 1) ?_
   rotate_left 4
   focus
    rw [if_neg c6] at H
    have c6b0 : (a0_0 == 8) = false := beq_eq_false_iff_ne.mpr c6
    have c6b1 : (a0_0 != 8) = true := bne_iff_ne.mpr c6
    by_cases c18 : (l0_3.length : Int) = 0
    focus
     rw [if_pos c18] at H
     have c18b0 : ((l0_3.length : Int) == 0) = true := beq_iff_eq.mpr c18
     have c18b1 : ((l0_3.length : Int) != 0) = false := bne_eq_false_iff_eq.mpr c18
     clear c18
     by_cases c19 : a0_0 ≥ 10
     focus
      rw [if_pos c19] at H
      have c19b0 : decide (10 ≤ a0_0) = true := decide_eq_true c19
      clear c19
      obtain rfl := Option.some.inj H
      refine impl_Term_isOnly.Tag.un (n := 1) ?_
     rotate_left 1
     focus
      rw [if_neg c19] at H
      have c19b0 : decide (10 ≤ a0_0) = false := decide_eq_false c19
      clear c19
      by_cases c22 : a0_0 = 9
      focus
       rw [if_pos c22] at H
       have c22b0 : (a0_0 == 9) = true := beq_iff_eq.mpr c22
       have c22b1 : (a0_0 != 9) = false := bne_eq_false_iff_eq.mpr c22
       clear c22
       obtain rfl := Option.some.inj H
       refine impl_Term_isOnly.Tag.un (n := 1) ?_
      rotate_left 1
      focus
       rw [if_neg c22] at H
       have c22b0 : (a0_0 == 9) = false := beq_eq_false_iff_ne.mpr c22
       have c22b1 : (a0_0 != 9) = true := bne_iff_ne.mpr c22
       by_cases c25 : a0_4 = 0
       focus
        rw [if_pos c25] at H
        have c25b0 : (a0_4 == 0) = true := beq_iff_eq.mpr c25
        have c25b1 : (a0_4 != 0) = false := bne_eq_false_iff_eq.mpr c25
        clear c25
        obtain rfl := Option.some.inj H
        refine impl_Term_isOnly.Tag.un (n := 1) ?_
       rotate_left 1
       focus
        rw [if_neg c25] at H
        have c25b0 : (a0_4 == 0) = false := beq_eq_false_iff_ne.mpr c25
        have c25b1 : (a0_4 != 0) = true := bne_iff_ne.mpr c25
        obtain rfl := Option.some.inj H
        refine impl_Term_isOnly.Tag.un (n := 1) ?_
    rotate_left 4
    focus
     rw [if_neg c18] at H
     have c18b0 : ((l0_3.length : Int) == 0) = false := beq_eq_false_iff_ne.mpr c18
     have c18b1 : ((l0_3.length : Int) != 0) = true := bne_iff_ne.mpr c18
     have c18b2 : ¬ (l0_3 = []) := fun h_ => c18 (by rw [h_]; rfl)
     obtain rfl := Option.some.inj H
     refine impl_Term_isOnly.Tag.un (n := 1) ?_
  rotate_left 9
  focus
   replace c5 := Bool.eq_false_iff.mpr c5
   subst c5
   (try rw [if_neg (show ¬ (false = true) by decide)] at H)
   by_cases c32 : (l0_2.length : Int) = 0
   focus
    rw [if_pos c32] at H
    have c32b0 : ((l0_2.length : Int) == 0) = true := beq_iff_eq.mpr c32
    have c32b1 : ((l0_2.length : Int) != 0) = false := bne_eq_false_iff_eq.mpr c32
    clear c32
    by_cases c33 : a0_0 = 8
    focus
     rw [if_pos c33] at H
     have c33b0 : (a0_0 == 8) = true := beq_iff_eq.mpr c33
     have c33b1 : (a0_0 != 8) = false := bne_eq_false_iff_eq.mpr c33
     clear c33
     by_cases c34 : a0_0 ≥ 10
     focus
      rw [if_pos c34] at H
      have c34b0 : decide (10 ≤ a0_0) = true := decide_eq_true c34
      clear c34
      obtain rfl := Option.some.inj H
      refine impl_Term_isOnly.Tag.un (n := 2) ?_
     rotate_left 1
     focus
      rw [if_neg c34] at H
      have c34b0 : decide (10 ≤ a0_0) = false := decide_eq_false c34
      clear c34
      by_cases c37 : a0_0 = 9
      focus
       rw [if_pos c37] at H
       have c37b0 : (a0_0 == 9) = true := beq_iff_eq.mpr c37
       have c37b1 : (a0_0 != 9) = false := bne_eq_false_iff_eq.mpr c37
       clear c37
       obtain rfl := Option.some.inj H
       refine impl_Term_isOnly.Tag.un (n := 2) ?_
      rotate_left 1
      focus
       rw [if_neg c37] at H
       have c37b0 : (a0_0 == 9) = false := beq_eq_false_iff_ne.mpr c37
       have c37b1 : (a0_0 != 9) = true := bne_iff_ne.mpr c37
       by_cases c40 : a0_4 = 0
       focus
        rw [if_pos c40] at H
        have c40b0 : (a0_4 == 0) = true := beq_iff_eq.mpr c40
        have c40b1 : (a0_4 != 0) = false := bne_eq_false_iff_eq.mpr c40
        clear c40
        obtain rfl := Option.some.inj H
        refine impl_Term_isOnly.Tag.un (n := 2) ?_
       rotate_left 1
       focus
        rw [if_neg c40] at H
        have c40b0 : (a0_4 == 0) = false := beq_eq_false_iff_ne.mpr c40
        have c40b1 : (a0_4 != 0) = true := bne_iff_ne.mpr c40
        obtain rfl := Option.some.inj H
        refine impl_Term_isOnly.Tag.un (n := 2) ?_
    rotate_left 4
    focus
     rw [if_neg c33] at H
     have c33b0 : (a0_0 == 8) = false := beq_eq_false_iff_ne.mpr c33
     have c33b1 : (a0_0 != 8) = true := bne_iff_ne.mpr c33
     by_cases c45 : (l0_3.length : Int) = 0
     focus
      rw [if_pos c45] at H
      have c45b0 : ((l0_3.length : Int) == 0) = true := beq_iff_eq.mpr c45
      have c45b1 : ((l0_3.length : Int) != 0) = false := bne_eq_false_iff_eq.mpr c45
      clear c45
      by_cases c46 : a0_0 ≥ 10
      focus
       rw [if_pos c46] at H
       have c46b0 : decide (10 ≤ a0_0) = true := decide_eq_true c46
       clear c46
       obtain rfl := Option.some.inj H
       refine impl_Term_isOnly.Tag.un (n := 2) ?_
      rotate_left 1
      focus
       rw [if_neg c46] at H
       have c46b0 : decide (10 ≤ a0_0) = false := decide_eq_false c46
       clear c46
       by_cases c49 : a0_0 = 9
       focus
        rw [if_pos c49] at H
        have c49b0 : (a0_0 == 9) = true := beq_iff_eq.mpr c49
        have c49b1 : (a0_0 != 9) = false := bne_eq_false_iff_eq.mpr c49
        clear c49
        obtain rfl := Option.some.inj H
        refine impl_Term_isOnly.Tag.un (n := 2) ?_
       rotate_left 1
       focus
        rw [if_neg c49] at H
        have c49b0 : (a0_0 == 9) = false := beq_eq_false_iff_ne.mpr c49
        have c49b1 : (a0_0 != 9) = true := bne_iff_ne.mpr c49
        by_cases c52 : a0_4 = 0
        focus
         rw [if_pos c52] at H
         have c52b0 : (a0_4 == 0) = true := beq_iff_eq.mpr c52
         have c52b1 : (a0_4 != 0) = false := bne_eq_false_iff_eq.mpr c52
         clear c52
         obtain rfl := Option.some.inj H
         refine impl_Term_isOnly.Tag.un (n := 2) ?_
        rotate_left 1
        focus
         rw [if_neg c52] at H
         have c52b0 : (a0_4 == 0) = false := beq_eq_false_iff_ne.mpr c52
         have c52b1 : (a0_4 != 0) = true := bne_iff_ne.mpr c52
         obtain rfl := Option.some.inj H
         refine impl_Term_isOnly.Tag.un (n := 2) ?_
     rotate_left 4
     focus
      rw [if_neg c45] at H
      have c45b0 : ((l0_3.length : Int) == 0) = false := beq_eq_false_iff_ne.mpr c45
      have c45b1 : ((l0_3.length : Int) != 0) = true := bne_iff_ne.mpr c45
      have c45b2 : ¬ (l0_3 = []) := fun h_ => c45 (by rw [h_]; rfl)
      obtain rfl := Option.some.inj H
      refine impl_Term_isOnly.Tag.un (n := 2) ?_
   rotate_left 9
   focus
    rw [if_neg c32] at H
    have c32b0 : ((l0_2.length : Int) == 0) = false := beq_eq_false_iff_ne.mpr c32
    have c32b1 : ((l0_2.length : Int) != 0) = true := bne_iff_ne.mpr c32
    have c32b2 : ¬ (l0_2 = []) := fun h_ => c32 (by rw [h_]; rfl)
    obtain rfl := Option.some.inj H
    refine impl_Term_isOnly.Tag.un (n := 2) ?_
 rotate_left 19
 focus
  replace c3 := Bool.eq_false_iff.mpr c3
  subst c3
  (try rw [if_neg (show ¬ (false = true) by decide)] at H)
  by_cases c61 : a0_1 = 0
  focus
   rw [if_pos c61] at H
   have c61b0 : (a0_1 == 0) = true := beq_iff_eq.mpr c61
   have c61b1 : (a0_1 != 0) = false := bne_eq_false_iff_eq.mpr c61
   clear c61
   replace H := Option.bind_eq_some_iff.mp H
   obtain ⟨t387, A620, H⟩ := H
   (try dsimp only at H)
   have A62 := Aside0.mk A620
   clear A620
   by_cases c63 : t387 = true
   focus
    subst c63
    (try rw [if_pos rfl] at H)
    by_cases c64 : a0_0 = 8
    focus
     rw [if_pos c64] at H
     have c64b0 : (a0_0 == 8) = true := beq_iff_eq.mpr c64
     have c64b1 : (a0_0 != 8) = false := bne_eq_false_iff_eq.mpr c64
     clear c64
     by_cases c65 : a0_0 ≥ 10
     focus
      rw [if_pos c65] at H
      have c65b0 : decide (10 ≤ a0_0) = true := decide_eq_true c65
      clear c65
      obtain rfl := Option.some.inj H
      refine impl_Term_isOnly.Tag.un (n := 3) ?_
     rotate_left 1
     focus
      rw [if_neg c65] at H
      have c65b0 : decide (10 ≤ a0_0) = false := decide_eq_false c65
      clear c65
      by_cases c68 : a0_0 = 9
      focus
       rw [if_pos c68] at H
       have c68b0 : (a0_0 == 9) = true := beq_iff_eq.mpr c68
       have c68b1 : (a0_0 != 9) = false := bne_eq_false_iff_eq.mpr c68
       clear c68
       obtain rfl := Option.some.inj H
       refine impl_Term_isOnly.Tag.un (n := 3) ?_
      rotate_left 1
      focus
       rw [if_neg c68] at H
       have c68b0 : (a0_0 == 9) = false := beq_eq_false_iff_ne.mpr c68
       have c68b1 : (a0_0 != 9) = true := bne_iff_ne.mpr c68
       by_cases c71 : a0_4 = 0
       focus
        rw [if_pos c71] at H
        have c71b0 : (a0_4 == 0) = true := beq_iff_eq.mpr c71
        have c71b1 : (a0_4 != 0) = false := bne_eq_false_iff_eq.mpr c71
        clear c71
        obtain rfl := Option.some.inj H
        refine impl_Term_isOnly.Tag.un (n := 3) ?_
       rotate_left 1
       focus
        rw [if_neg c71] at H
        have c71b0 : (a0_4 == 0) = false := beq_eq_false_iff_ne.mpr c71
        have c71b1 : (a0_4 != 0) = true := bne_iff_ne.mpr c71
        obtain rfl := Option.some.inj H
        refine impl_Term_isOnly.Tag.un (n := 3) ?_
    rotate_left 4
    focus
     rw [if_neg c64] at H
     have c64b0 : (a0_0 == 8) = false := beq_eq_false_iff_ne.mpr c64
     have c64b1 : (a0_0 != 8) = true := bne_iff_ne.mpr c64
     by_cases c76 : (l0_3.length : Int) = 0
     focus
      rw [if_pos c76] at H
      have c76b0 : ((l0_3.length : Int) == 0) = true := beq_iff_eq.mpr c76
      have c76b1 : ((l0_3.length : Int) != 0) = false := bne_eq_false_iff_eq.mpr c76
      clear c76
      by_cases c77 : a0_0 ≥ 10
      focus
       rw [if_pos c77] at H
       have c77b0 : decide (10 ≤ a0_0) = true := decide_eq_true c77
       clear c77
       obtain rfl := Option.some.inj H
       refine impl_Term_isOnly.Tag.un (n := 3) ?_
      rotate_left 1
      focus
       rw [if_neg c77] at H
       have c77b0 : decide (10 ≤ a0_0) = false := decide_eq_false c77
       clear c77
       by_cases c80 : a0_0 = 9
       focus
        rw [if_pos c80] at H
        have c80b0 : (a0_0 == 9) = true := beq_iff_eq.mpr c80
        have c80b1 : (a0_0 != 9) = false := bne_eq_false_iff_eq.mpr c80
        clear c80
        obtain rfl := Option.some.inj H
        refine impl_Term_isOnly.Tag.un (n := 3) ?_
       rotate_left 1
       focus
        rw [if_neg c80] at H
        have c80b0 : (a0_0 == 9) = false := beq_eq_false_iff_ne.mpr c80
        have c80b1 : (a0_0 != 9) = true := bne_iff_ne.mpr c80
        by_cases c83 : a0_4 = 0
        focus
         rw [if_pos c83] at H
         have c83b0 : (a0_4 == 0) = true := beq_iff_eq.mpr c83
         have c83b1 : (a0_4 != 0) = false := bne_eq_false_iff_eq.mpr c83
         clear c83
         obtain rfl := Option.some.inj H
         refine impl_Term_isOnly.Tag.un (n := 3) ?_
        rotate_left 1
        focus
         rw [if_neg c83] at H
         have c83b0 : (a0_4 == 0) = false := beq_eq_false_iff_ne.mpr c83
         have c83b1 : (a0_4 != 0) = true := bne_iff_ne.mpr c83
         obtain rfl := Option.some.inj H
         refine impl_Term_isOnly.Tag.un (n := 3) ?_
     rotate_left 4
     focus
      rw [if_neg c76] at H
      have c76b0 : ((l0_3.length : Int) == 0) = false := beq_eq_false_iff_ne.mpr c76
      have c76b1 : ((l0_3.length : Int) != 0) = true := bne_iff_ne.mpr c76
      have c76b2 : ¬ (l0_3 = []) := fun h_ => c76 (by rw [h_]; rfl)
      obtain rfl := Option.some.inj H
      refine impl_Term_isOnly.Tag.un (n := 3) ?_
   rotate_left 9
   focus
    replace c63 := Bool.eq_false_iff.mpr c63
    subst c63
    (try rw [if_neg (show ¬ (false = true) by decide)] at H)
    by_cases c90 : (l0_2.length : Int) = 0
    focus
     rw [if_pos c90] at H
     have c90b0 : ((l0_2.length : Int) == 0) = true := beq_iff_eq.mpr c90
     have c90b1 : ((l0_2.length : Int) != 0) = false := bne_eq_false_iff_eq.mpr c90
     clear c90
     by_cases c91 : a0_0 = 8
     focus
      rw [if_pos c91] at H
      have c91b0 : (a0_0 == 8) = true := beq_iff_eq.mpr c91
      have c91b1 : (a0_0 != 8) = false := bne_eq_false_iff_eq.mpr c91
      clear c91
      by_cases c92 : a0_0 ≥ 10
      focus
       rw [if_pos c92] at H
       have c92b0 : decide (10 ≤ a0_0) = true := decide_eq_true c92
       clear c92
       obtain rfl := Option.some.inj H
       refine impl_Term_isOnly.Tag.un (n := 4) ?_
      rotate_left 1
      focus
       rw [if_neg c92] at H
       have c92b0 : decide (10 ≤ a0_0) = false := decide_eq_false c92
       clear c92
       by_cases c95 : a0_0 = 9
       focus
        rw [if_pos c95] at H
        have c95b0 : (a0_0 == 9) = true := beq_iff_eq.mpr c95
        have c95b1 : (a0_0 != 9) = false := bne_eq_false_iff_eq.mpr c95
        clear c95
        obtain rfl := Option.some.inj H
        refine impl_Term_isOnly.Tag.un (n := 4) ?_
       rotate_left 1
       focus
        rw [if_neg c95] at H
        have c95b0 : (a0_0 == 9) = false := beq_eq_false_iff_ne.mpr c95
        have c95b1 : (a0_0 != 9) = true := bne_iff_ne.mpr c95
        by_cases c98 : a0_4 = 0
        focus
         rw [if_pos c98] at H
         have c98b0 : (a0_4 == 0) = true := beq_iff_eq.mpr c98
         have c98b1 : (a0_4 != 0) = false := bne_eq_false_iff_eq.mpr c98
         clear c98
         obtain rfl := Option.some.inj H
         refine impl_Term_isOnly.Tag.un (n := 4) ?_
        rotate_left 1
        focus
         rw [if_neg c98] at H
         have c98b0 : (a0_4 == 0) = false := beq_eq_false_iff_ne.mpr c98
         have c98b1 : (a0_4 != 0) = true := bne_iff_ne.mpr c98
         obtain rfl := Option.some.inj H
         refine impl_Term_isOnly.Tag.un (n := 4) ?_
     rotate_left 4
     focus
      rw [if_neg c91] at H
      have c91b0 : (a0_0 == 8) = false := beq_eq_false_iff_ne.mpr c91
      have c91b1 : (a0_0 != 8) = true := bne_iff_ne.mpr c91
      by_cases c103 : (l0_3.length : Int) = 0
      focus
       rw [if_pos c103] at H
       have c103b0 : ((l0_3.length : Int) == 0) = true := beq_iff_eq.mpr c103
       have c103b1 : ((l0_3.length : Int) != 0) = false := bne_eq_false_iff_eq.mpr c103
       clear c103
       by_cases c104 : a0_0 ≥ 10
       focus
        rw [if_pos c104] at H
        have c104b0 : decide (10 ≤ a0_0) = true := decide_eq_true c104
        clear c104
        obtain rfl := Option.some.inj H
        refine impl_Term_isOnly.Tag.un (n := 4) ?_
       rotate_left 1
       focus
        rw [if_neg c104] at H
        have c104b0 : decide (10 ≤ a0_0) = false := decide_eq_false c104
        clear c104
        by_cases c107 : a0_0 = 9
        focus
         rw [if_pos c107] at H
         have c107b0 : (a0_0 == 9) = true := beq_iff_eq.mpr c107
         have c107b1 : (a0_0 != 9) = false := bne_eq_false_iff_eq.mpr c107
         clear c107
         obtain rfl := Option.some.inj H
         refine impl_Term_isOnly.Tag.un (n := 4) ?_
        rotate_left 1
        focus
         rw [if_neg c107] at H
         have c107b0 : (a0_0 == 9) = false := beq_eq_false_iff_ne.mpr c107
         have c107b1 : (a0_0 != 9) = true := bne_iff_ne.mpr c107
         by_cases c110 : a0_4 = 0
         focus
          rw [if_pos c110] at H
          have c110b0 : (a0_4 == 0) = true := beq_iff_eq.mpr c110
          have c110b1 : (a0_4 != 0) = false := bne_eq_false_iff_eq.mpr c110
          clear c110
          obtain rfl := Option.some.inj H
          refine impl_Term_isOnly.Tag.un (n := 4) ?_
         rotate_left 1
         focus
          rw [if_neg c110] at H
          have c110b0 : (a0_4 == 0) = false := beq_eq_false_iff_ne.mpr c110
          have c110b1 : (a0_4 != 0) = true := bne_iff_ne.mpr c110
          obtain rfl := Option.some.inj H
          refine impl_Term_isOnly.Tag.un (n := 4) ?_
      rotate_left 4
      focus
       rw [if_neg c103] at H
       have c103b0 : ((l0_3.length : Int) == 0) = false := beq_eq_false_iff_ne.mpr c103
       have c103b1 : ((l0_3.length : Int) != 0) = true := bne_iff_ne.mpr c103
       have c103b2 : ¬ (l0_3 = []) := fun h_ => c103 (by rw [h_]; rfl)
       obtain rfl := Option.some.inj H
       refine impl_Term_isOnly.Tag.un (n := 4) ?_
    rotate_left 9
    focus
     rw [if_neg c90] at H
     have c90b0 : ((l0_2.length : Int) == 0) = false := beq_eq_false_iff_ne.mpr c90
     have c90b1 : ((l0_2.length : Int) != 0) = true := bne_iff_ne.mpr c90
     have c90b2 : ¬ (l0_2 = []) := fun h_ => c90 (by rw [h_]; rfl)
     obtain rfl := Option.some.inj H
     refine impl_Term_isOnly.Tag.un (n := 4) ?_
  rotate_left 19
  focus
   rw [if_neg c61] at H
   have c61b0 : (a0_1 == 0) = false := beq_eq_false_iff_ne.mpr c61
   have c61b1 : (a0_1 != 0) = true := bne_iff_ne.mpr c61
   obtain rfl := Option.some.inj H
   refine impl_Term_isOnly.Tag.un (n := 5) ?_
 all_goals first
  | (with_reducible refine impl_Term_isOnly.Tag.mk 1 ?_)
    go_enter Try.func92, Try.ntmps92
    go_wp2_with (first | ((with_reducible refine gate_dst (N := 1) rfl ?_); (try (refine gate_guard (by rfl) ?_; dsimp only)); refine box_event ?hg (N := 1) ?hd (cs := #[.int .i64 a0_0, .int .i64 a0_1, .slice A0_2 l0_2.length c0_2, .slice A0_3 l0_3.length c0_3, .int .i64 a0_4, .int .i64 a0_5]) (t := 104) ?hr ?_; (case hd => rfl); (case hg => rfl); (case hr => first | (go_simp; done) | (go_simp; rfl)); intro gb384 hg w8 hbox hb; have n0_ := Aside0.mk (below_step (HB_up HB.out) hb); have n1_ := Aside0.mk (hbox); have n2_ := Aside0.mk ((by rw [hg]; exact (below_size (HB_up HB.out)) : w.heap.size ≤ gb384)); have n3_ := Aside0.mk ((by rw [hg]; exact (below_size (HB_up HB.out)) : w.heap.size ≤ gb384)); clear HB; have HB := n0_; have BK384 := n1_; have GW384 := n2_; have GE384 := n3_; clear n0_ n1_ n2_ n3_; clear hb hbox hg; have hcz9_0 : w8.cell? ⟨gb384, 0, none⟩ = some (.int .i64 a0_0) := (blk_cell BK384.out 0).trans rfl; have hcz9_1 : w8.cell? ⟨gb384, 1, none⟩ = some (.int .i64 a0_1) := (blk_cell BK384.out 1).trans rfl; have hcz9_2 : w8.cell? ⟨gb384, 2, none⟩ = some (.slice A0_2 l0_2.length c0_2) := (blk_cell BK384.out 2).trans rfl; have hcz9_3 : w8.cell? ⟨gb384, 3, none⟩ = some (.slice A0_3 l0_3.length c0_3) := (blk_cell BK384.out 3).trans rfl; have hcz9_4 : w8.cell? ⟨gb384, 4, none⟩ = some (.int .i64 a0_4) := (blk_cell BK384.out 4).trans rfl; have hcz9_5 : w8.cell? ⟨gb384, 5, none⟩ = some (.int .i64 a0_5) := (blk_cell BK384.out 5).trans rfl; have hfz9_0 := blk_frozen BK384.out 0; have hfz9_1 := blk_frozen BK384.out 1; have hfz9_2 := blk_frozen BK384.out 2; have hfz9_3 := blk_frozen BK384.out 3; have hfz9_4 := blk_frozen BK384.out 4; have hfz9_5 := blk_frozen BK384.out 5) | ((with_reducible refine gate_callee (f := 131) rfl ?_); refine goesY_ (some 9) Try.func131 #[.int .i64 a0_0] rfl ?_; (with_reducible refine (impl_hasNum.calls a0_0 true _ A2.out).mono ?_); rintro e w' ⟨rfl, ⟨nd, rfl⟩⟩; refine ⟨_, rfl, ?_⟩) | (go_at_call 132; (with_reducible refine (impl_hasCodes.calls a0_0 true _ A4.out).mono ?_); rintro e w' ⟨rfl, ⟨nd, rfl⟩⟩))
    go_ret
    exact ⟨ve_, hs_⟩
  | (with_reducible refine impl_Term_isOnly.Tag.mk 2 ?_)
    go_enter Try.func92, Try.ntmps92
    go_wp2_with (first | ((with_reducible refine gate_dst (N := 1) rfl ?_); (try (refine gate_guard (by rfl) ?_; dsimp only)); refine box_event ?hg (N := 1) ?hd (cs := #[.int .i64 a0_0, .int .i64 a0_1, .slice A0_2 l0_2.length c0_2, .slice A0_3 l0_3.length c0_3, .int .i64 a0_4, .int .i64 a0_5]) (t := 104) ?hr ?_; (case hd => rfl); (case hg => rfl); (case hr => first | (go_simp; done) | (go_simp; rfl)); intro gb384 hg w35 hbox hb; have n0_ := Aside0.mk (below_step (HB_up HB.out) hb); have n1_ := Aside0.mk (hbox); have n2_ := Aside0.mk ((by rw [hg]; exact (below_size (HB_up HB.out)) : w.heap.size ≤ gb384)); have n3_ := Aside0.mk ((by rw [hg]; exact (below_size (HB_up HB.out)) : w.heap.size ≤ gb384)); clear HB; have HB := n0_; have BK384 := n1_; have GW384 := n2_; have GE384 := n3_; clear n0_ n1_ n2_ n3_; clear hb hbox hg; have hcz36_0 : w35.cell? ⟨gb384, 0, none⟩ = some (.int .i64 a0_0) := (blk_cell BK384.out 0).trans rfl; have hcz36_1 : w35.cell? ⟨gb384, 1, none⟩ = some (.int .i64 a0_1) := (blk_cell BK384.out 1).trans rfl; have hcz36_2 : w35.cell? ⟨gb384, 2, none⟩ = some (.slice A0_2 l0_2.length c0_2) := (blk_cell BK384.out 2).trans rfl; have hcz36_3 : w35.cell? ⟨gb384, 3, none⟩ = some (.slice A0_3 l0_3.length c0_3) := (blk_cell BK384.out 3).trans rfl; have hcz36_4 : w35.cell? ⟨gb384, 4, none⟩ = some (.int .i64 a0_4) := (blk_cell BK384.out 4).trans rfl; have hcz36_5 : w35.cell? ⟨gb384, 5, none⟩ = some (.int .i64 a0_5) := (blk_cell BK384.out 5).trans rfl; have hfz36_0 := blk_frozen BK384.out 0; have hfz36_1 := blk_frozen BK384.out 1; have hfz36_2 := blk_frozen BK384.out 2; have hfz36_3 := blk_frozen BK384.out 3; have hfz36_4 := blk_frozen BK384.out 4; have hfz36_5 := blk_frozen BK384.out 5) | ((with_reducible refine gate_callee (f := 131) rfl ?_); refine goesY_ (some 9) Try.func131 #[.int .i64 a0_0] rfl ?_; (with_reducible refine (impl_hasNum.calls a0_0 true _ A2.out).mono ?_); rintro e w' ⟨rfl, ⟨nd, rfl⟩⟩; refine ⟨_, rfl, ?_⟩) | (go_at_call 132; (with_reducible refine (impl_hasCodes.calls a0_0 false _ A4.out).mono ?_); rintro e w' ⟨rfl, ⟨nd, rfl⟩⟩))
    go_ret
    exact ⟨ve_, hs_⟩
  | (with_reducible refine impl_Term_isOnly.Tag.mk 3 ?_)
    go_enter Try.func92, Try.ntmps92
    go_wp2_with (first | ((with_reducible refine gate_dst (N := 1) rfl ?_); (try (refine gate_guard (by rfl) ?_; dsimp only)); refine box_event ?hg (N := 1) ?hd (cs := #[.int .i64 a0_0, .int .i64 a0_1, .slice A0_2 l0_2.length c0_2, .slice A0_3 l0_3.length c0_3, .int .i64 a0_4, .int .i64 a0_5]) (t := 104) ?hr ?_; (case hd => rfl); (case hg => rfl); (case hr => first | (go_simp; done) | (go_simp; rfl)); intro gb384 hg w66 hbox hb; have n0_ := Aside0.mk (below_step (HB_up HB.out) hb); have n1_ := Aside0.mk (hbox); have n2_ := Aside0.mk ((by rw [hg]; exact (below_size (HB_up HB.out)) : w.heap.size ≤ gb384)); have n3_ := Aside0.mk ((by rw [hg]; exact (below_size (HB_up HB.out)) : w.heap.size ≤ gb384)); clear HB; have HB := n0_; have BK384 := n1_; have GW384 := n2_; have GE384 := n3_; clear n0_ n1_ n2_ n3_; clear hb hbox hg; have hcz67_0 : w66.cell? ⟨gb384, 0, none⟩ = some (.int .i64 a0_0) := (blk_cell BK384.out 0).trans rfl; have hcz67_1 : w66.cell? ⟨gb384, 1, none⟩ = some (.int .i64 a0_1) := (blk_cell BK384.out 1).trans rfl; have hcz67_2 : w66.cell? ⟨gb384, 2, none⟩ = some (.slice A0_2 l0_2.length c0_2) := (blk_cell BK384.out 2).trans rfl; have hcz67_3 : w66.cell? ⟨gb384, 3, none⟩ = some (.slice A0_3 l0_3.length c0_3) := (blk_cell BK384.out 3).trans rfl; have hcz67_4 : w66.cell? ⟨gb384, 4, none⟩ = some (.int .i64 a0_4) := (blk_cell BK384.out 4).trans rfl; have hcz67_5 : w66.cell? ⟨gb384, 5, none⟩ = some (.int .i64 a0_5) := (blk_cell BK384.out 5).trans rfl; have hfz67_0 := blk_frozen BK384.out 0; have hfz67_1 := blk_frozen BK384.out 1; have hfz67_2 := blk_frozen BK384.out 2; have hfz67_3 := blk_frozen BK384.out 3; have hfz67_4 := blk_frozen BK384.out 4; have hfz67_5 := blk_frozen BK384.out 5) | ((with_reducible refine gate_callee (f := 131) rfl ?_); refine goesY_ (some 9) Try.func131 #[.int .i64 a0_0] rfl ?_; (with_reducible refine (impl_hasNum.calls a0_0 false _ A2.out).mono ?_); rintro e w' ⟨rfl, ⟨nd, rfl⟩⟩; refine ⟨_, rfl, ?_⟩) | (go_at_call 132; (with_reducible refine (impl_hasCodes.calls a0_0 true _ A62.out).mono ?_); rintro e w' ⟨rfl, ⟨nd, rfl⟩⟩))
    go_ret
    exact ⟨ve_, hs_⟩
  | (with_reducible refine impl_Term_isOnly.Tag.mk 4 ?_)
    go_enter Try.func92, Try.ntmps92
    go_wp2_with (first | ((with_reducible refine gate_dst (N := 1) rfl ?_); (try (refine gate_guard (by rfl) ?_; dsimp only)); refine box_event ?hg (N := 1) ?hd (cs := #[.int .i64 a0_0, .int .i64 a0_1, .slice A0_2 l0_2.length c0_2, .slice A0_3 l0_3.length c0_3, .int .i64 a0_4, .int .i64 a0_5]) (t := 104) ?hr ?_; (case hd => rfl); (case hg => rfl); (case hr => first | (go_simp; done) | (go_simp; rfl)); intro gb384 hg w93 hbox hb; have n0_ := Aside0.mk (below_step (HB_up HB.out) hb); have n1_ := Aside0.mk (hbox); have n2_ := Aside0.mk ((by rw [hg]; exact (below_size (HB_up HB.out)) : w.heap.size ≤ gb384)); have n3_ := Aside0.mk ((by rw [hg]; exact (below_size (HB_up HB.out)) : w.heap.size ≤ gb384)); clear HB; have HB := n0_; have BK384 := n1_; have GW384 := n2_; have GE384 := n3_; clear n0_ n1_ n2_ n3_; clear hb hbox hg; have hcz94_0 : w93.cell? ⟨gb384, 0, none⟩ = some (.int .i64 a0_0) := (blk_cell BK384.out 0).trans rfl; have hcz94_1 : w93.cell? ⟨gb384, 1, none⟩ = some (.int .i64 a0_1) := (blk_cell BK384.out 1).trans rfl; have hcz94_2 : w93.cell? ⟨gb384, 2, none⟩ = some (.slice A0_2 l0_2.length c0_2) := (blk_cell BK384.out 2).trans rfl; have hcz94_3 : w93.cell? ⟨gb384, 3, none⟩ = some (.slice A0_3 l0_3.length c0_3) := (blk_cell BK384.out 3).trans rfl; have hcz94_4 : w93.cell? ⟨gb384, 4, none⟩ = some (.int .i64 a0_4) := (blk_cell BK384.out 4).trans rfl; have hcz94_5 : w93.cell? ⟨gb384, 5, none⟩ = some (.int .i64 a0_5) := (blk_cell BK384.out 5).trans rfl; have hfz94_0 := blk_frozen BK384.out 0; have hfz94_1 := blk_frozen BK384.out 1; have hfz94_2 := blk_frozen BK384.out 2; have hfz94_3 := blk_frozen BK384.out 3; have hfz94_4 := blk_frozen BK384.out 4; have hfz94_5 := blk_frozen BK384.out 5) | ((with_reducible refine gate_callee (f := 131) rfl ?_); refine goesY_ (some 9) Try.func131 #[.int .i64 a0_0] rfl ?_; (with_reducible refine (impl_hasNum.calls a0_0 false _ A2.out).mono ?_); rintro e w' ⟨rfl, ⟨nd, rfl⟩⟩; refine ⟨_, rfl, ?_⟩) | (go_at_call 132; (with_reducible refine (impl_hasCodes.calls a0_0 false _ A62.out).mono ?_); rintro e w' ⟨rfl, ⟨nd, rfl⟩⟩))
    go_ret
    exact ⟨ve_, hs_⟩
  | (with_reducible refine impl_Term_isOnly.Tag.mk 5 ?_)
    go_enter Try.func92, Try.ntmps92
    go_wp2_with (first | ((with_reducible refine gate_dst (N := 1) rfl ?_); (try (refine gate_guard (by rfl) ?_; dsimp only)); refine box_event ?hg (N := 1) ?hd (cs := #[.int .i64 a0_0, .int .i64 a0_1, .slice A0_2 l0_2.length c0_2, .slice A0_3 l0_3.length c0_3, .int .i64 a0_4, .int .i64 a0_5]) (t := 104) ?hr ?_; (case hd => rfl); (case hg => rfl); (case hr => first | (go_simp; done) | (go_simp; rfl)); intro gb384 hg w119 hbox hb; have n0_ := Aside0.mk (below_step (HB_up HB.out) hb); have n1_ := Aside0.mk (hbox); have n2_ := Aside0.mk ((by rw [hg]; exact (below_size (HB_up HB.out)) : w.heap.size ≤ gb384)); have n3_ := Aside0.mk ((by rw [hg]; exact (below_size (HB_up HB.out)) : w.heap.size ≤ gb384)); clear HB; have HB := n0_; have BK384 := n1_; have GW384 := n2_; have GE384 := n3_; clear n0_ n1_ n2_ n3_; clear hb hbox hg; have hcz120_0 : w119.cell? ⟨gb384, 0, none⟩ = some (.int .i64 a0_0) := (blk_cell BK384.out 0).trans rfl; have hcz120_1 : w119.cell? ⟨gb384, 1, none⟩ = some (.int .i64 a0_1) := (blk_cell BK384.out 1).trans rfl; have hcz120_2 : w119.cell? ⟨gb384, 2, none⟩ = some (.slice A0_2 l0_2.length c0_2) := (blk_cell BK384.out 2).trans rfl; have hcz120_3 : w119.cell? ⟨gb384, 3, none⟩ = some (.slice A0_3 l0_3.length c0_3) := (blk_cell BK384.out 3).trans rfl; have hcz120_4 : w119.cell? ⟨gb384, 4, none⟩ = some (.int .i64 a0_4) := (blk_cell BK384.out 4).trans rfl; have hcz120_5 : w119.cell? ⟨gb384, 5, none⟩ = some (.int .i64 a0_5) := (blk_cell BK384.out 5).trans rfl; have hfz120_0 := blk_frozen BK384.out 0; have hfz120_1 := blk_frozen BK384.out 1; have hfz120_2 := blk_frozen BK384.out 2; have hfz120_3 := blk_frozen BK384.out 3; have hfz120_4 := blk_frozen BK384.out 4; have hfz120_5 := blk_frozen BK384.out 5) | ((with_reducible refine gate_callee (f := 131) rfl ?_); refine goesY_ (some 9) Try.func131 #[.int .i64 a0_0] rfl ?_; (with_reducible refine (impl_hasNum.calls a0_0 false _ A2.out).mono ?_); rintro e w' ⟨rfl, ⟨nd, rfl⟩⟩; refine ⟨_, rfl, ?_⟩))
    go_ret
    exact ⟨ve_, hs_⟩

/-! ### impl_Term_isNum: function 93 -/
def impl_Term_isNum.j0 : Nat → Int → Bool → Int → Int → List Int → List (S100) → Int → Int → Option (Bool)
 | 0, _, _, _, _, _, _, _, _ => none
 | k + 1, x4, x25, x389000, x389001, x389002, x389003, x389004, x389005 => if x25 = true then ((impl_isDate.f x389001).bind fun t389 => (some t389)) else (if x4 = 5 then ((impl_within.f x389001 0 400).bind fun t390 => (some t390)) else (some true))
def impl_Term_isNum.f (k : Nat) (a0_0 : Int) (a0_1 : Int) (l0_2 : List Int) (l0_3 : List (S100)) (a0_4 : Int) (a0_5 : Int) : Option (Bool) := if a0_0 = 2 then (if a0_1 = 1 then (some true) else (if a0_1 = 2 then (some true) else (if a0_1 = 4 then (some true) else (some (a0_1 == 8))))) else (if a0_0 = 3 then (impl_Term_isNum.j0 k a0_0 (a0_0 == 3) a0_0 a0_1 l0_2 l0_3 a0_4 a0_5) else (impl_Term_isNum.j0 k a0_0 (a0_0 == 4) a0_0 a0_1 l0_2 l0_3 a0_4 a0_5))
set_option maxHeartbeats 8000000 in
set_option maxRecDepth 100000 in
theorem impl_Term_isNum.calls (k : Nat) (a0_0 : Int) (a0_1 : Int) (A0_2 : Option Addr) (c0_2 : Nat) (l0_2 : List Int) (A0_3 : Option Addr) (c0_3 : Nat) (l0_3 : List (S100)) (a0_4 : Int) (a0_5 : Int) (r : Bool) (w : World) (hr0_2 : Kd.C (Kd.int .i64) w A0_2 l0_2.length l0_2) (hc0_2 : l0_2.length ≤ c0_2) (hr0_3 : Kd.C k100 w A0_3 l0_3.length l0_3) (hc0_3 : l0_3.length ≤ c0_3) (h : impl_Term_isNum.f k a0_0 a0_1 l0_2 l0_3 a0_4 a0_5 = some r) :
 Calls Try.prog 93 #[.agg #[.int .i64 a0_0, .int .i64 a0_1, .slice A0_2 l0_2.length c0_2, .slice A0_3 l0_3.length c0_3, .int .i64 a0_4, .int .i64 a0_5]] w fun e w' => e = .returned (.bool r) ∧ Below w.heap.size w w' := by
 have hu104 := Try.underlying104
 have HR0_2 := Aside0.mk hr0_2
 have HC0_2 := Aside0.mk hc0_2
 clear hr0_2 hc0_2
 have HR0_3 := Aside0.mk hr0_3
 have HC0_3 := Aside0.mk hc0_3
 clear hr0_3 hc0_3
 have HB := Aside0.mk (Below.refl w.heap.size w)
 have H : (if a0_0 = 2 then (if a0_1 = 1 then (some true) else (if a0_1 = 2 then (some true) else (if a0_1 = 4 then (some true) else (some (a0_1 == 8))))) else (if a0_0 = 3 then (impl_Term_isNum.j0 k a0_0 (a0_0 == 3) a0_0 a0_1 l0_2 l0_3 a0_4 a0_5) else (impl_Term_isNum.j0 k a0_0 (a0_0 == 4) a0_0 a0_1 l0_2 l0_3 a0_4 a0_5))) = some r := h
 clear h
 by_cases c2 : a0_0 = 2
 ·
  rw [if_pos c2] at H
  have c2b0 : (a0_0 == 2) = true := beq_iff_eq.mpr c2
  have c2b1 : (a0_0 != 2) = false := bne_eq_false_iff_eq.mpr c2
  clear c2
  by_cases c3 : a0_1 = 1
  ·
   rw [if_pos c3] at H
   have c3b0 : (a0_1 == 1) = true := beq_iff_eq.mpr c3
   have c3b1 : (a0_1 != 1) = false := bne_eq_false_iff_eq.mpr c3
   clear c3
   obtain rfl := Option.some.inj H
   go_enter Try.func93, Try.ntmps93
   go_wp2_with (first | ((with_reducible refine gate_dst (N := 1) rfl ?_); refine box_event ?hg (N := 1) ?hd (cs := #[.int .i64 a0_0, .int .i64 a0_1, .slice A0_2 l0_2.length c0_2, .slice A0_3 l0_3.length c0_3, .int .i64 a0_4, .int .i64 a0_5]) (t := 104) ?hr ?_; (case hd => rfl); (case hg => rfl); (case hr => first | (go_simp; done) | (go_simp; rfl)); intro gb388 hg w4 hbox hb; have n0_ := Aside0.mk (below_step (HB_up HB.out) hb); have n1_ := Aside0.mk (hbox); have n2_ := Aside0.mk ((by rw [hg]; exact (below_size (HB_up HB.out)) : w.heap.size ≤ gb388)); have n3_ := Aside0.mk ((by rw [hg]; exact (below_size (HB_up HB.out)) : w.heap.size ≤ gb388)); clear HB; have HB := n0_; have BK388 := n1_; have GW388 := n2_; have GE388 := n3_; clear n0_ n1_ n2_ n3_; clear hb hbox hg; have hcz5_0 : w4.cell? ⟨gb388, 0, none⟩ = some (.int .i64 a0_0) := (blk_cell BK388.out 0).trans rfl; have hcz5_1 : w4.cell? ⟨gb388, 1, none⟩ = some (.int .i64 a0_1) := (blk_cell BK388.out 1).trans rfl; have hcz5_2 : w4.cell? ⟨gb388, 2, none⟩ = some (.slice A0_2 l0_2.length c0_2) := (blk_cell BK388.out 2).trans rfl; have hcz5_3 : w4.cell? ⟨gb388, 3, none⟩ = some (.slice A0_3 l0_3.length c0_3) := (blk_cell BK388.out 3).trans rfl; have hcz5_4 : w4.cell? ⟨gb388, 4, none⟩ = some (.int .i64 a0_4) := (blk_cell BK388.out 4).trans rfl; have hcz5_5 : w4.cell? ⟨gb388, 5, none⟩ = some (.int .i64 a0_5) := (blk_cell BK388.out 5).trans rfl; have hfz5_0 := blk_frozen BK388.out 0; have hfz5_1 := blk_frozen BK388.out 1; have hfz5_2 := blk_frozen BK388.out 2; have hfz5_3 := blk_frozen BK388.out 3; have hfz5_4 := blk_frozen BK388.out 4; have hfz5_5 := blk_frozen BK388.out 5))
   go_ret
   exact ⟨ve_, hs_⟩
  ·
   rw [if_neg c3] at H
   have c3b0 : (a0_1 == 1) = false := beq_eq_false_iff_ne.mpr c3
   have c3b1 : (a0_1 != 1) = true := bne_iff_ne.mpr c3
   by_cases c6 : a0_1 = 2
   ·
    rw [if_pos c6] at H
    have c6b0 : (a0_1 == 2) = true := beq_iff_eq.mpr c6
    have c6b1 : (a0_1 != 2) = false := bne_eq_false_iff_eq.mpr c6
    clear c6
    obtain rfl := Option.some.inj H
    go_enter Try.func93, Try.ntmps93
    go_wp2_with (first | ((with_reducible refine gate_dst (N := 1) rfl ?_); refine box_event ?hg (N := 1) ?hd (cs := #[.int .i64 a0_0, .int .i64 a0_1, .slice A0_2 l0_2.length c0_2, .slice A0_3 l0_3.length c0_3, .int .i64 a0_4, .int .i64 a0_5]) (t := 104) ?hr ?_; (case hd => rfl); (case hg => rfl); (case hr => first | (go_simp; done) | (go_simp; rfl)); intro gb388 hg w7 hbox hb; have n0_ := Aside0.mk (below_step (HB_up HB.out) hb); have n1_ := Aside0.mk (hbox); have n2_ := Aside0.mk ((by rw [hg]; exact (below_size (HB_up HB.out)) : w.heap.size ≤ gb388)); have n3_ := Aside0.mk ((by rw [hg]; exact (below_size (HB_up HB.out)) : w.heap.size ≤ gb388)); clear HB; have HB := n0_; have BK388 := n1_; have GW388 := n2_; have GE388 := n3_; clear n0_ n1_ n2_ n3_; clear hb hbox hg; have hcz8_0 : w7.cell? ⟨gb388, 0, none⟩ = some (.int .i64 a0_0) := (blk_cell BK388.out 0).trans rfl; have hcz8_1 : w7.cell? ⟨gb388, 1, none⟩ = some (.int .i64 a0_1) := (blk_cell BK388.out 1).trans rfl; have hcz8_2 : w7.cell? ⟨gb388, 2, none⟩ = some (.slice A0_2 l0_2.length c0_2) := (blk_cell BK388.out 2).trans rfl; have hcz8_3 : w7.cell? ⟨gb388, 3, none⟩ = some (.slice A0_3 l0_3.length c0_3) := (blk_cell BK388.out 3).trans rfl; have hcz8_4 : w7.cell? ⟨gb388, 4, none⟩ = some (.int .i64 a0_4) := (blk_cell BK388.out 4).trans rfl; have hcz8_5 : w7.cell? ⟨gb388, 5, none⟩ = some (.int .i64 a0_5) := (blk_cell BK388.out 5).trans rfl; have hfz8_0 := blk_frozen BK388.out 0; have hfz8_1 := blk_frozen BK388.out 1; have hfz8_2 := blk_frozen BK388.out 2; have hfz8_3 := blk_frozen BK388.out 3; have hfz8_4 := blk_frozen BK388.out 4; have hfz8_5 := blk_frozen BK388.out 5))
    go_ret
    exact ⟨ve_, hs_⟩
   ·
    rw [if_neg c6] at H
    have c6b0 : (a0_1 == 2) = false := beq_eq_false_iff_ne.mpr c6
    have c6b1 : (a0_1 != 2) = true := bne_iff_ne.mpr c6
    by_cases c9 : a0_1 = 4
    ·
     rw [if_pos c9] at H
     have c9b0 : (a0_1 == 4) = true := beq_iff_eq.mpr c9
     have c9b1 : (a0_1 != 4) = false := bne_eq_false_iff_eq.mpr c9
     clear c9
     obtain rfl := Option.some.inj H
     go_enter Try.func93, Try.ntmps93
     go_wp2_with (first | ((with_reducible refine gate_dst (N := 1) rfl ?_); refine box_event ?hg (N := 1) ?hd (cs := #[.int .i64 a0_0, .int .i64 a0_1, .slice A0_2 l0_2.length c0_2, .slice A0_3 l0_3.length c0_3, .int .i64 a0_4, .int .i64 a0_5]) (t := 104) ?hr ?_; (case hd => rfl); (case hg => rfl); (case hr => first | (go_simp; done) | (go_simp; rfl)); intro gb388 hg w10 hbox hb; have n0_ := Aside0.mk (below_step (HB_up HB.out) hb); have n1_ := Aside0.mk (hbox); have n2_ := Aside0.mk ((by rw [hg]; exact (below_size (HB_up HB.out)) : w.heap.size ≤ gb388)); have n3_ := Aside0.mk ((by rw [hg]; exact (below_size (HB_up HB.out)) : w.heap.size ≤ gb388)); clear HB; have HB := n0_; have BK388 := n1_; have GW388 := n2_; have GE388 := n3_; clear n0_ n1_ n2_ n3_; clear hb hbox hg; have hcz11_0 : w10.cell? ⟨gb388, 0, none⟩ = some (.int .i64 a0_0) := (blk_cell BK388.out 0).trans rfl; have hcz11_1 : w10.cell? ⟨gb388, 1, none⟩ = some (.int .i64 a0_1) := (blk_cell BK388.out 1).trans rfl; have hcz11_2 : w10.cell? ⟨gb388, 2, none⟩ = some (.slice A0_2 l0_2.length c0_2) := (blk_cell BK388.out 2).trans rfl; have hcz11_3 : w10.cell? ⟨gb388, 3, none⟩ = some (.slice A0_3 l0_3.length c0_3) := (blk_cell BK388.out 3).trans rfl; have hcz11_4 : w10.cell? ⟨gb388, 4, none⟩ = some (.int .i64 a0_4) := (blk_cell BK388.out 4).trans rfl; have hcz11_5 : w10.cell? ⟨gb388, 5, none⟩ = some (.int .i64 a0_5) := (blk_cell BK388.out 5).trans rfl; have hfz11_0 := blk_frozen BK388.out 0; have hfz11_1 := blk_frozen BK388.out 1; have hfz11_2 := blk_frozen BK388.out 2; have hfz11_3 := blk_frozen BK388.out 3; have hfz11_4 := blk_frozen BK388.out 4; have hfz11_5 := blk_frozen BK388.out 5))
     go_ret
     exact ⟨ve_, hs_⟩
    ·
     rw [if_neg c9] at H
     have c9b0 : (a0_1 == 4) = false := beq_eq_false_iff_ne.mpr c9
     have c9b1 : (a0_1 != 4) = true := bne_iff_ne.mpr c9
     obtain rfl := Option.some.inj H
     go_enter Try.func93, Try.ntmps93
     go_wp2_with (first | ((with_reducible refine gate_dst (N := 1) rfl ?_); refine box_event ?hg (N := 1) ?hd (cs := #[.int .i64 a0_0, .int .i64 a0_1, .slice A0_2 l0_2.length c0_2, .slice A0_3 l0_3.length c0_3, .int .i64 a0_4, .int .i64 a0_5]) (t := 104) ?hr ?_; (case hd => rfl); (case hg => rfl); (case hr => first | (go_simp; done) | (go_simp; rfl)); intro gb388 hg w12 hbox hb; have n0_ := Aside0.mk (below_step (HB_up HB.out) hb); have n1_ := Aside0.mk (hbox); have n2_ := Aside0.mk ((by rw [hg]; exact (below_size (HB_up HB.out)) : w.heap.size ≤ gb388)); have n3_ := Aside0.mk ((by rw [hg]; exact (below_size (HB_up HB.out)) : w.heap.size ≤ gb388)); clear HB; have HB := n0_; have BK388 := n1_; have GW388 := n2_; have GE388 := n3_; clear n0_ n1_ n2_ n3_; clear hb hbox hg; have hcz13_0 : w12.cell? ⟨gb388, 0, none⟩ = some (.int .i64 a0_0) := (blk_cell BK388.out 0).trans rfl; have hcz13_1 : w12.cell? ⟨gb388, 1, none⟩ = some (.int .i64 a0_1) := (blk_cell BK388.out 1).trans rfl; have hcz13_2 : w12.cell? ⟨gb388, 2, none⟩ = some (.slice A0_2 l0_2.length c0_2) := (blk_cell BK388.out 2).trans rfl; have hcz13_3 : w12.cell? ⟨gb388, 3, none⟩ = some (.slice A0_3 l0_3.length c0_3) := (blk_cell BK388.out 3).trans rfl; have hcz13_4 : w12.cell? ⟨gb388, 4, none⟩ = some (.int .i64 a0_4) := (blk_cell BK388.out 4).trans rfl; have hcz13_5 : w12.cell? ⟨gb388, 5, none⟩ = some (.int .i64 a0_5) := (blk_cell BK388.out 5).trans rfl; have hfz13_0 := blk_frozen BK388.out 0; have hfz13_1 := blk_frozen BK388.out 1; have hfz13_2 := blk_frozen BK388.out 2; have hfz13_3 := blk_frozen BK388.out 3; have hfz13_4 := blk_frozen BK388.out 4; have hfz13_5 := blk_frozen BK388.out 5))
     go_ret
     exact ⟨ve_, hs_⟩
 ·
  rw [if_neg c2] at H
  have c2b0 : (a0_0 == 2) = false := beq_eq_false_iff_ne.mpr c2
  have c2b1 : (a0_0 != 2) = true := bne_iff_ne.mpr c2
  have HC14 := Aside0.mk H
  clear H
  go_enter Try.func93, Try.ntmps93
  go_upto_if 25 with (first | ((with_reducible refine gate_dst (N := 1) rfl ?_); refine box_event ?hg (N := 1) ?hd (cs := #[.int .i64 a0_0, .int .i64 a0_1, .slice A0_2 l0_2.length c0_2, .slice A0_3 l0_3.length c0_3, .int .i64 a0_4, .int .i64 a0_5]) (t := 104) ?hr ?_; (case hd => rfl); (case hg => rfl); (case hr => first | (go_simp; done) | (go_simp; rfl)); intro gb388 hg w15 hbox hb; have n0_ := Aside0.mk (below_step (HB_up HB.out) hb); have n1_ := Aside0.mk (hbox); have n2_ := Aside0.mk ((by rw [hg]; exact (below_size (HB_up HB.out)) : w.heap.size ≤ gb388)); have n3_ := Aside0.mk ((by rw [hg]; exact (below_size (HB_up HB.out)) : w.heap.size ≤ gb388)); clear HB; have HB := n0_; have BK388 := n1_; have GW388 := n2_; have GE388 := n3_; clear n0_ n1_ n2_ n3_; clear hb hbox hg; have hcz16_0 : w15.cell? ⟨gb388, 0, none⟩ = some (.int .i64 a0_0) := (blk_cell BK388.out 0).trans rfl; have hcz16_1 : w15.cell? ⟨gb388, 1, none⟩ = some (.int .i64 a0_1) := (blk_cell BK388.out 1).trans rfl; have hcz16_2 : w15.cell? ⟨gb388, 2, none⟩ = some (.slice A0_2 l0_2.length c0_2) := (blk_cell BK388.out 2).trans rfl; have hcz16_3 : w15.cell? ⟨gb388, 3, none⟩ = some (.slice A0_3 l0_3.length c0_3) := (blk_cell BK388.out 3).trans rfl; have hcz16_4 : w15.cell? ⟨gb388, 4, none⟩ = some (.int .i64 a0_4) := (blk_cell BK388.out 4).trans rfl; have hcz16_5 : w15.cell? ⟨gb388, 5, none⟩ = some (.int .i64 a0_5) := (blk_cell BK388.out 5).trans rfl; have hfz16_0 := blk_frozen BK388.out 0; have hfz16_1 := blk_frozen BK388.out 1; have hfz16_2 := blk_frozen BK388.out 2; have hfz16_3 := blk_frozen BK388.out 3; have hfz16_4 := blk_frozen BK388.out 4; have hfz16_5 := blk_frozen BK388.out 5))
  (try simp only [Act.put, List.setIfInBounds_toArray, List.set_cons_zero, List.set_cons_succ])
  go_cut [25] (fun v25 wc => ∃ (kq : Nat) (x25_13 : Bool), v25 = .bool x25_13 ∧ Aside0 (impl_Term_isNum.j0 kq a0_0 x25_13 a0_0 a0_1 l0_2 l0_3 a0_4 a0_5 = some r) ∧ Aside0 (kq ≤ k) ∧ Aside0 (wc.heap[gb388]? = some (.cells #[.int .i64 a0_0, .int .i64 a0_1, (.slice A0_2 l0_2.length c0_2), (.slice A0_3 l0_3.length c0_3), .int .i64 a0_4, .int .i64 a0_5] 104 (0, 0))) ∧ Aside0 (Below w.heap.size w wc))
  case first =>
   have H := HC14.out
   clear HC14
   by_cases c17 : a0_0 = 3
   ·
    rw [if_pos c17] at H
    have c17b0 : (a0_0 == 3) = true := beq_iff_eq.mpr c17
    have c17b1 : (a0_0 != 3) = false := bne_eq_false_iff_eq.mpr c17
    clear c17
    (first | rw [c17b0] | (simp only [i64_w, i32_w]; rw [c17b0]) | skip)
    have H' := Aside0.mk H
    clear H
    go_wp2
    go_meet
    case rel => exact ⟨_, ((a0_0 == 3)), vl_, H', ⟨le_⟩, ⟨blk_up BK388.out⟩, ⟨hs_⟩⟩
   ·
    rw [if_neg c17] at H
    have c17b0 : (a0_0 == 3) = false := beq_eq_false_iff_ne.mpr c17
    have c17b1 : (a0_0 != 3) = true := bne_iff_ne.mpr c17
    (first | rw [c17b0] | (simp only [i64_w, i32_w]; rw [c17b0]) | skip)
    have H' := Aside0.mk H
    clear H
    go_wp2
    go_meet
    case rel => exact ⟨_, ((a0_0 == 4)), vl_, H', ⟨le_⟩, ⟨blk_up BK388.out⟩, ⟨hs_⟩⟩
  case rest =>
   clear HC14
   try clear c2
   try clear c2b0
   try clear c2b1
   try clear hcz16_0
   try clear hcz16_1
   try clear hcz16_2
   try clear hcz16_3
   try clear hcz16_4
   try clear hcz16_5
   try clear hfz16_0
   try clear hfz16_1
   try clear hfz16_2
   try clear hfz16_3
   try clear hfz16_4
   try clear hfz16_5
   obtain ⟨kq, x25_13, rfl, HA, HJ13, BK388, HB⟩ := hcut
   cases kq with
   | zero => exact absurd HA.out (by simp [impl_Term_isNum.j0])
   | succ kj13 =>
     have H := HA.out
     clear HA
     simp only [impl_Term_isNum.j0] at H
     by_cases c18 : x25_13 = true
     ·
      subst c18
      (try rw [if_pos rfl] at H)
      replace H := Option.bind_eq_some_iff.mp H
      obtain ⟨t389, A190, H⟩ := H
      replace H : (some t389) = some r := H
      have A19 := Aside0.mk A190
      clear A190
      obtain rfl := Option.some.inj H
      have hcz20_0 : wc.cell? ⟨gb388, 0, none⟩ = some (.int .i64 a0_0) := (blk_cell BK388.out 0).trans rfl
      have hcz20_1 : wc.cell? ⟨gb388, 1, none⟩ = some (.int .i64 a0_1) := (blk_cell BK388.out 1).trans rfl
      have hcz20_2 : wc.cell? ⟨gb388, 2, none⟩ = some (.slice A0_2 l0_2.length c0_2) := (blk_cell BK388.out 2).trans rfl
      have hcz20_3 : wc.cell? ⟨gb388, 3, none⟩ = some (.slice A0_3 l0_3.length c0_3) := (blk_cell BK388.out 3).trans rfl
      have hcz20_4 : wc.cell? ⟨gb388, 4, none⟩ = some (.int .i64 a0_4) := (blk_cell BK388.out 4).trans rfl
      have hcz20_5 : wc.cell? ⟨gb388, 5, none⟩ = some (.int .i64 a0_5) := (blk_cell BK388.out 5).trans rfl
      have hfz20_0 := blk_frozen BK388.out 0
      have hfz20_1 := blk_frozen BK388.out 1
      have hfz20_2 := blk_frozen BK388.out 2
      have hfz20_3 := blk_frozen BK388.out 3
      have hfz20_4 := blk_frozen BK388.out 4
      have hfz20_5 := blk_frozen BK388.out 5
      go_wp2_with (first | ((with_reducible refine gate_callee (f := 86) rfl ?_); refine goesY_ (some 30) Try.func86 #[.int .i64 a0_1] rfl ?_; (with_reducible refine (impl_isDate.calls a0_1 t389 _ A19.out).mono ?_); rintro e w' ⟨rfl, ⟨nd, rfl⟩⟩; refine ⟨_, rfl, ?_⟩))
      go_ret
      exact ⟨ve_, hs_⟩
     ·
      replace c18 := Bool.eq_false_iff.mpr c18
      subst c18
      (try rw [if_neg (show ¬ (false = true) by decide)] at H)
      by_cases c21 : a0_0 = 5
      ·
       rw [if_pos c21] at H
       have c21b0 : (a0_0 == 5) = true := beq_iff_eq.mpr c21
       have c21b1 : (a0_0 != 5) = false := bne_eq_false_iff_eq.mpr c21
       clear c21
       replace H := Option.bind_eq_some_iff.mp H
       obtain ⟨t390, A220, H⟩ := H
       replace H : (some t390) = some r := H
       have A22 := Aside0.mk A220
       clear A220
       obtain rfl := Option.some.inj H
       have hcz23_0 : wc.cell? ⟨gb388, 0, none⟩ = some (.int .i64 a0_0) := (blk_cell BK388.out 0).trans rfl
       have hcz23_1 : wc.cell? ⟨gb388, 1, none⟩ = some (.int .i64 a0_1) := (blk_cell BK388.out 1).trans rfl
       have hcz23_2 : wc.cell? ⟨gb388, 2, none⟩ = some (.slice A0_2 l0_2.length c0_2) := (blk_cell BK388.out 2).trans rfl
       have hcz23_3 : wc.cell? ⟨gb388, 3, none⟩ = some (.slice A0_3 l0_3.length c0_3) := (blk_cell BK388.out 3).trans rfl
       have hcz23_4 : wc.cell? ⟨gb388, 4, none⟩ = some (.int .i64 a0_4) := (blk_cell BK388.out 4).trans rfl
       have hcz23_5 : wc.cell? ⟨gb388, 5, none⟩ = some (.int .i64 a0_5) := (blk_cell BK388.out 5).trans rfl
       have hfz23_0 := blk_frozen BK388.out 0
       have hfz23_1 := blk_frozen BK388.out 1
       have hfz23_2 := blk_frozen BK388.out 2
       have hfz23_3 := blk_frozen BK388.out 3
       have hfz23_4 := blk_frozen BK388.out 4
       have hfz23_5 := blk_frozen BK388.out 5
       go_wp2_with (first | ((with_reducible refine gate_callee (f := 37) rfl ?_); refine goesY_ (some 35) Try.func37 #[.int .i64 a0_1, .int .i64 0, .int .i64 400] rfl ?_; (with_reducible refine (impl_within.calls a0_1 0 400 t390 _ A22.out).mono ?_); rintro e w' ⟨rfl, ⟨nd, rfl⟩⟩; refine ⟨_, rfl, ?_⟩))
       go_ret
       exact ⟨ve_, hs_⟩
      ·
       rw [if_neg c21] at H
       have c21b0 : (a0_0 == 5) = false := beq_eq_false_iff_ne.mpr c21
       have c21b1 : (a0_0 != 5) = true := bne_iff_ne.mpr c21
       obtain rfl := Option.some.inj H
       go_wp2
       go_ret
       exact ⟨ve_, hs_⟩

/-! ### impl_length_int64: function 133 -/
def impl_length_int64.f (l0 : List Int) : Option (Int) := some (l0.length : Int)
set_option maxHeartbeats 8000000 in
set_option maxRecDepth 100000 in
theorem impl_length_int64.calls (A0 : Option Addr) (c0 : Nat) (l0 : List Int) (r : Int) (w : World) (hr0 : Kd.C (Kd.int .i64) w A0 l0.length l0) (hc0 : l0.length ≤ c0) (h : impl_length_int64.f l0 = some r) :
 Calls Try.prog 133 #[.slice A0 l0.length c0] w fun e w' => e = .returned (.int .i64 r) ∧ Drawn0 w w' := by
 have HR0 := Aside0.mk hr0
 have HC0 := Aside0.mk hc0
 clear hr0 hc0
 have H : (some (l0.length : Int)) = some r := h
 clear h
 obtain rfl := Option.some.inj H
 go_enter Try.func133, Try.ntmps133
 go_wp2
 go_ret
 exact ⟨vl_, dr_⟩

/-! ### impl_isChar: function 135 -/
def impl_isChar.f (a0 : Int) : Option (Bool) := (impl_within.f a0 0 65535).bind fun t391 => (if t391 = true then ((impl_within.f a0 55296 57343).bind fun t392 => (some (!t392))) else (some false))
set_option maxHeartbeats 8000000 in
set_option maxRecDepth 100000 in
theorem impl_isChar.calls (a0 : Int) (r : Bool) (w : World) (h : impl_isChar.f a0 = some r) :
 Calls Try.prog 135 #[.int .i64 a0] w fun e w' => e = .returned (.bool r) ∧ Drawn0 w w' := by
 have H : ((impl_within.f a0 0 65535).bind fun t391 => (if t391 = true then ((impl_within.f a0 55296 57343).bind fun t392 => (some (!t392))) else (some false))) = some r := h
 clear h
 replace H := Option.bind_eq_some_iff.mp H
 obtain ⟨t391, A20, H⟩ := H
 (try dsimp only at H)
 have A2 := Aside0.mk A20
 clear A20
 by_cases c3 : t391 = true
 ·
  subst c3
  (try rw [if_pos rfl] at H)
  replace H := Option.bind_eq_some_iff.mp H
  obtain ⟨t392, A40, H⟩ := H
  replace H : (some (!t392)) = some r := H
  have A4 := Aside0.mk A40
  clear A40
  obtain rfl := Option.some.inj H
  go_enter Try.func135, Try.ntmps135
  go_wp2_with (first | ((with_reducible refine gate_callee (f := 37) rfl ?_); refine goesY_ (some 4) Try.func37 #[.int .i64 a0, .int .i64 0, .int .i64 65535] rfl ?_; (with_reducible refine (impl_within.calls a0 0 65535 true _ A2.out).mono ?_); rintro e w' ⟨rfl, ⟨nd, rfl⟩⟩; refine ⟨_, rfl, ?_⟩) | (go_at_call 37; (with_reducible refine (impl_within.calls a0 55296 57343 t392 _ A4.out).mono ?_); rintro e w' ⟨rfl, ⟨nd, rfl⟩⟩))
  go_ret
  exact ⟨vl_, dr_⟩
 ·
  replace c3 := Bool.eq_false_iff.mpr c3
  subst c3
  (try rw [if_neg (show ¬ (false = true) by decide)] at H)
  obtain rfl := Option.some.inj H
  go_enter Try.func135, Try.ntmps135
  go_wp2_with (first | ((with_reducible refine gate_callee (f := 37) rfl ?_); refine goesY_ (some 4) Try.func37 #[.int .i64 a0, .int .i64 0, .int .i64 65535] rfl ?_; (with_reducible refine (impl_within.calls a0 0 65535 false _ A2.out).mono ?_); rintro e w' ⟨rfl, ⟨nd, rfl⟩⟩; refine ⟨_, rfl, ?_⟩))
  go_ret
  exact ⟨vl_, dr_⟩

/-! ### impl_Term_areCodes_1: function 134 -/
def impl_Term_areCodes_1.f (a0 : Int) : Option (Bool) := (impl_isChar.f a0).bind fun t393 => (if t393 = true then (if a0 < 33 then (some true) else (some (a0 == 127))) else (some true))
set_option maxHeartbeats 8000000 in
set_option maxRecDepth 100000 in
theorem impl_Term_areCodes_1.calls (a0 : Int) (r : Bool) (w : World) (h : impl_Term_areCodes_1.f a0 = some r) :
 Calls Try.prog 134 #[.int .i64 a0] w fun e w' => e = .returned (.bool r) ∧ Drawn0 w w' := by
 have H : ((impl_isChar.f a0).bind fun t393 => (if t393 = true then (if a0 < 33 then (some true) else (some (a0 == 127))) else (some true))) = some r := h
 clear h
 replace H := Option.bind_eq_some_iff.mp H
 obtain ⟨t393, A20, H⟩ := H
 (try dsimp only at H)
 have A2 := Aside0.mk A20
 clear A20
 by_cases c3 : t393 = true
 ·
  subst c3
  (try rw [if_pos rfl] at H)
  by_cases c4 : a0 < 33
  ·
   rw [if_pos c4] at H
   have c4b0 : decide (a0 < 33) = true := decide_eq_true c4
   clear c4
   obtain rfl := Option.some.inj H
   go_enter Try.func134, Try.ntmps134
   go_wp2_with (first | ((with_reducible refine gate_callee (f := 135) rfl ?_); refine goesY_ (some 4) Try.func135 #[.int .i64 a0] rfl ?_; (with_reducible refine (impl_isChar.calls a0 true _ A2.out).mono ?_); rintro e w' ⟨rfl, ⟨nd, rfl⟩⟩; refine ⟨_, rfl, ?_⟩))
   go_ret
   exact ⟨vl_, dr_⟩
  ·
   rw [if_neg c4] at H
   have c4b0 : decide (a0 < 33) = false := decide_eq_false c4
   clear c4
   obtain rfl := Option.some.inj H
   go_enter Try.func134, Try.ntmps134
   go_wp2_with (first | ((with_reducible refine gate_callee (f := 135) rfl ?_); refine goesY_ (some 4) Try.func135 #[.int .i64 a0] rfl ?_; (with_reducible refine (impl_isChar.calls a0 true _ A2.out).mono ?_); rintro e w' ⟨rfl, ⟨nd, rfl⟩⟩; refine ⟨_, rfl, ?_⟩))
   go_ret
   exact ⟨vl_, dr_⟩
 ·
  replace c3 := Bool.eq_false_iff.mpr c3
  subst c3
  (try rw [if_neg (show ¬ (false = true) by decide)] at H)
  obtain rfl := Option.some.inj H
  go_enter Try.func134, Try.ntmps134
  go_wp2_with (first | ((with_reducible refine gate_callee (f := 135) rfl ?_); refine goesY_ (some 4) Try.func135 #[.int .i64 a0] rfl ?_; (with_reducible refine (impl_isChar.calls a0 false _ A2.out).mono ?_); rintro e w' ⟨rfl, ⟨nd, rfl⟩⟩; refine ⟨_, rfl, ?_⟩))
  go_ret
  exact ⟨vl_, dr_⟩

end Go.Proofs.Ytnehephjliankaa.PFnExactCmdFault

/- Functions of the program as Lean functions, each with the proof that its call comes to what that function says (texts written by a program of this session). Conditions: those that stand in each theorem. -/
import Derived.Test.YtfbgfakdflifdaaPFnExactSameStoresx0
namespace Go.Proofs.Ytfbgfakdflifdaa.PFnExactSameStores
open Go.RowKit Go.Proofs.YtfbgfakdflifdaaW.PrintWords Go.Proofs.YtfbgfakdflifdaaW.PrintLast Go.Proofs.YtfbgfakdflifdaaW.PrintMore
attribute [local go_sem] max2_int min2_int max_two min_two max_three min_three max_four min_four   -- for this text's walks alone
set_option linter.unusedVariables false
set_option linter.unusedSimpArgs false

/-! ### spec_l7SameMessage: function 180 -/
def spec_l7SameMessage.f (l0 : List (S133)) (l1 : List (S133)) : Option (Bool) := if 0 < (l0.length : Int) then (if 0 < (l1.length : Int) then (if ((rd_T133 l0 0).f0) = ((rd_T133 l1 0).f0) then (if ((rd_T133 l0 0).f1) = ((rd_T133 l1 0).f1) then (if ((rd_T133 l0 0).f2) = ((rd_T133 l1 0).f2) then (some ((strOfNums ((rd_T133 l0 0).f3)).toList == (strOfNums ((rd_T133 l1 0).f3)).toList)) else (some false)) else (some false)) else (some false)) else (none)) else (none)
set_option maxHeartbeats 8000000 in
set_option maxRecDepth 100000 in
theorem spec_l7SameMessage.calls (A0 : Option Addr) (c0 : Nat) (l0 : List (S133)) (A1 : Option Addr) (c1 : Nat) (l1 : List (S133)) (r : Bool) (w : World) (hr0 : Kd.C k133 w A0 l0.length l0) (hc0 : l0.length ≤ c0) (hr1 : Kd.C k133 w A1 l1.length l1) (hc1 : l1.length ≤ c1) (h : spec_l7SameMessage.f l0 l1 = some r) :
    Calls Try.prog 180 #[.pointer A0, .pointer A1] w fun e w' => e = .returned (.bool r) ∧ Drawn0 w w' := by
  have HR0 := Aside0.mk hr0
  have HC0 := Aside0.mk hc0
  clear hr0 hc0
  have HR1 := Aside0.mk hr1
  have HC1 := Aside0.mk hc1
  clear hr1 hc1
  have H : (if 0 < (l0.length : Int) then (if 0 < (l1.length : Int) then (if ((rd_T133 l0 0).f0) = ((rd_T133 l1 0).f0) then (if ((rd_T133 l0 0).f1) = ((rd_T133 l1 0).f1) then (if ((rd_T133 l0 0).f2) = ((rd_T133 l1 0).f2) then (some ((strOfNums ((rd_T133 l0 0).f3)).toList == (strOfNums ((rd_T133 l1 0).f3)).toList)) else (some false)) else (some false)) else (some false)) else (none)) else (none)) = some r := h
  clear h
  by_cases c3 : 0 < (l0.length : Int)
  · rw [if_pos c3] at H
    have c3b0 : decide (0 < (l0.length : Int)) = true := decide_eq_true c3
    have c3b1 : decide (0 < l0.length) = true := decide_eq_true (by omega)
    clear c3
    by_cases c4 : 0 < (l1.length : Int)
    · rw [if_pos c4] at H
      have c4b0 : decide (0 < (l1.length : Int)) = true := decide_eq_true c4
      have c4b1 : decide (0 < l1.length) = true := decide_eq_true (by omega)
      clear c4
      by_cases c5 : ((rd_T133 l0 0).f0) = ((rd_T133 l1 0).f0)
      · rw [if_pos c5] at H
        have c5b0 : (((rd_T133 l0 0).f0) == ((rd_T133 l1 0).f0)) = true := beq_iff_eq.mpr c5
        have c5b1 : (((rd_T133 l0 0).f0) != ((rd_T133 l1 0).f0)) = false := bne_eq_false_iff_eq.mpr c5
        clear c5
        by_cases c6 : ((rd_T133 l0 0).f1) = ((rd_T133 l1 0).f1)
        · rw [if_pos c6] at H
          have c6b0 : (((rd_T133 l0 0).f1) == ((rd_T133 l1 0).f1)) = true := beq_iff_eq.mpr c6
          have c6b1 : (((rd_T133 l0 0).f1) != ((rd_T133 l1 0).f1)) = false := bne_eq_false_iff_eq.mpr c6
          clear c6
          by_cases c7 : ((rd_T133 l0 0).f2) = ((rd_T133 l1 0).f2)
          · rw [if_pos c7] at H
            have c7b0 : (((rd_T133 l0 0).f2) == ((rd_T133 l1 0).f2)) = true := beq_iff_eq.mpr c7
            have c7b1 : (((rd_T133 l0 0).f2) != ((rd_T133 l1 0).f2)) = false := bne_eq_false_iff_eq.mpr c7
            clear c7
            obtain rfl := Option.some.inj H
            have p111 : 0 ≤ (0 : Int) := (by omega)
            have q111 : 0 < (l0.length : Int) := of_decide_eq_true (by first | (with_reducible assumption) | assumption)
            obtain ⟨ad111, A111_3, c111_3, e111, hx111_0, hx111_1, hx111_2, hx111_3, hl111_3, hi111_3⟩ := at_T133 HR0.out 0 p111 q111
            cases e111
            have qi111 : (0 < l0.length) = True := eq_true (by omega)
            (try rw [show ((0 : Int)).toNat = 0 from rfl] at hx111_0)
            (try rw [show 0 * 4 = 0 from rfl] at hx111_0)
            (try rw [Addr.add_zero'] at hx111_0)
            (try rw [show ((0 : Int)).toNat = 0 from rfl] at hx111_1)
            (try rw [show 0 * 4 = 0 from rfl] at hx111_1)
            (try rw [Addr.add_zero'] at hx111_1)
            (try rw [show ((0 : Int)).toNat = 0 from rfl] at hx111_2)
            (try rw [show 0 * 4 = 0 from rfl] at hx111_2)
            (try rw [Addr.add_zero'] at hx111_2)
            (try rw [show ((0 : Int)).toNat = 0 from rfl] at hx111_3)
            (try rw [show 0 * 4 = 0 from rfl] at hx111_3)
            (try rw [Addr.add_zero'] at hx111_3)
            have HR111_3 := Aside0.mk hi111_3
            have HC111_3 := Aside0.mk hl111_3
            clear hi111_3 hl111_3
            replace p111 := eq_true p111
            replace q111 := eq_true q111
            have p112 : 0 ≤ (0 : Int) := (by omega)
            have q112 : 0 < (l1.length : Int) := of_decide_eq_true (by first | (with_reducible assumption) | assumption)
            obtain ⟨ad112, A112_3, c112_3, e112, hx112_0, hx112_1, hx112_2, hx112_3, hl112_3, hi112_3⟩ := at_T133 HR1.out 0 p112 q112
            cases e112
            have qi112 : (0 < l1.length) = True := eq_true (by omega)
            (try rw [show ((0 : Int)).toNat = 0 from rfl] at hx112_0)
            (try rw [show 0 * 4 = 0 from rfl] at hx112_0)
            (try rw [Addr.add_zero'] at hx112_0)
            (try rw [show ((0 : Int)).toNat = 0 from rfl] at hx112_1)
            (try rw [show 0 * 4 = 0 from rfl] at hx112_1)
            (try rw [Addr.add_zero'] at hx112_1)
            (try rw [show ((0 : Int)).toNat = 0 from rfl] at hx112_2)
            (try rw [show 0 * 4 = 0 from rfl] at hx112_2)
            (try rw [Addr.add_zero'] at hx112_2)
            (try rw [show ((0 : Int)).toNat = 0 from rfl] at hx112_3)
            (try rw [show 0 * 4 = 0 from rfl] at hx112_3)
            (try rw [Addr.add_zero'] at hx112_3)
            have HR112_3 := Aside0.mk hi112_3
            have HC112_3 := Aside0.mk hl112_3
            clear hi112_3 hl112_3
            replace p112 := eq_true p112
            replace q112 := eq_true q112
            have p113 : 0 ≤ (0 : Int) := (by omega)
            have q113 : 0 < (l0.length : Int) := of_decide_eq_true (by first | (with_reducible assumption) | assumption)
            obtain ⟨ad113, A113_3, c113_3, e113, hx113_0, hx113_1, hx113_2, hx113_3, hl113_3, hi113_3⟩ := at_T133 HR0.out 0 p113 q113
            obtain rfl : ad111 = ad113 := (by injection e113)
            have qi113 : (0 < l0.length) = True := eq_true (by omega)
            (try rw [show ((0 : Int)).toNat = 0 from rfl] at hx113_0)
            (try rw [show 0 * 4 = 0 from rfl] at hx113_0)
            (try rw [Addr.add_zero'] at hx113_0)
            (try rw [show ((0 : Int)).toNat = 0 from rfl] at hx113_1)
            (try rw [show 0 * 4 = 0 from rfl] at hx113_1)
            (try rw [Addr.add_zero'] at hx113_1)
            (try rw [show ((0 : Int)).toNat = 0 from rfl] at hx113_2)
            (try rw [show 0 * 4 = 0 from rfl] at hx113_2)
            (try rw [Addr.add_zero'] at hx113_2)
            (try rw [show ((0 : Int)).toNat = 0 from rfl] at hx113_3)
            (try rw [show 0 * 4 = 0 from rfl] at hx113_3)
            (try rw [Addr.add_zero'] at hx113_3)
            have HR113_3 := Aside0.mk hi113_3
            have HC113_3 := Aside0.mk hl113_3
            clear hi113_3 hl113_3
            replace p113 := eq_true p113
            replace q113 := eq_true q113
            have ea_ := Option.some.inj (hx111_3.symm.trans hx113_3)
            injection ea_ with ea_ en_ ec_
            subst ea_
            subst ec_
            clear en_
            have p114 : 0 ≤ (0 : Int) := (by omega)
            have q114 : 0 < (l1.length : Int) := of_decide_eq_true (by first | (with_reducible assumption) | assumption)
            obtain ⟨ad114, A114_3, c114_3, e114, hx114_0, hx114_1, hx114_2, hx114_3, hl114_3, hi114_3⟩ := at_T133 HR1.out 0 p114 q114
            obtain rfl : ad112 = ad114 := (by injection e114)
            have qi114 : (0 < l1.length) = True := eq_true (by omega)
            (try rw [show ((0 : Int)).toNat = 0 from rfl] at hx114_0)
            (try rw [show 0 * 4 = 0 from rfl] at hx114_0)
            (try rw [Addr.add_zero'] at hx114_0)
            (try rw [show ((0 : Int)).toNat = 0 from rfl] at hx114_1)
            (try rw [show 0 * 4 = 0 from rfl] at hx114_1)
            (try rw [Addr.add_zero'] at hx114_1)
            (try rw [show ((0 : Int)).toNat = 0 from rfl] at hx114_2)
            (try rw [show 0 * 4 = 0 from rfl] at hx114_2)
            (try rw [Addr.add_zero'] at hx114_2)
            (try rw [show ((0 : Int)).toNat = 0 from rfl] at hx114_3)
            (try rw [show 0 * 4 = 0 from rfl] at hx114_3)
            (try rw [Addr.add_zero'] at hx114_3)
            have HR114_3 := Aside0.mk hi114_3
            have HC114_3 := Aside0.mk hl114_3
            clear hi114_3 hl114_3
            replace p114 := eq_true p114
            replace q114 := eq_true q114
            have ea_ := Option.some.inj (hx112_3.symm.trans hx114_3)
            injection ea_ with ea_ en_ ec_
            subst ea_
            subst ec_
            clear en_
            have p115 : 0 ≤ (0 : Int) := (by omega)
            have q115 : 0 < (l0.length : Int) := of_decide_eq_true (by first | (with_reducible assumption) | assumption)
            obtain ⟨ad115, A115_3, c115_3, e115, hx115_0, hx115_1, hx115_2, hx115_3, hl115_3, hi115_3⟩ := at_T133 HR0.out 0 p115 q115
            obtain rfl : ad111 = ad115 := (by injection e115)
            have qi115 : (0 < l0.length) = True := eq_true (by omega)
            (try rw [show ((0 : Int)).toNat = 0 from rfl] at hx115_0)
            (try rw [show 0 * 4 = 0 from rfl] at hx115_0)
            (try rw [Addr.add_zero'] at hx115_0)
            (try rw [show ((0 : Int)).toNat = 0 from rfl] at hx115_1)
            (try rw [show 0 * 4 = 0 from rfl] at hx115_1)
            (try rw [Addr.add_zero'] at hx115_1)
            (try rw [show ((0 : Int)).toNat = 0 from rfl] at hx115_2)
            (try rw [show 0 * 4 = 0 from rfl] at hx115_2)
            (try rw [Addr.add_zero'] at hx115_2)
            (try rw [show ((0 : Int)).toNat = 0 from rfl] at hx115_3)
            (try rw [show 0 * 4 = 0 from rfl] at hx115_3)
            (try rw [Addr.add_zero'] at hx115_3)
            have HR115_3 := Aside0.mk hi115_3
            have HC115_3 := Aside0.mk hl115_3
            clear hi115_3 hl115_3
            replace p115 := eq_true p115
            replace q115 := eq_true q115
            have ea_ := Option.some.inj (hx111_3.symm.trans hx115_3)
            injection ea_ with ea_ en_ ec_
            subst ea_
            subst ec_
            clear en_
            have p116 : 0 ≤ (0 : Int) := (by omega)
            have q116 : 0 < (l1.length : Int) := of_decide_eq_true (by first | (with_reducible assumption) | assumption)
            obtain ⟨ad116, A116_3, c116_3, e116, hx116_0, hx116_1, hx116_2, hx116_3, hl116_3, hi116_3⟩ := at_T133 HR1.out 0 p116 q116
            obtain rfl : ad112 = ad116 := (by injection e116)
            have qi116 : (0 < l1.length) = True := eq_true (by omega)
            (try rw [show ((0 : Int)).toNat = 0 from rfl] at hx116_0)
            (try rw [show 0 * 4 = 0 from rfl] at hx116_0)
            (try rw [Addr.add_zero'] at hx116_0)
            (try rw [show ((0 : Int)).toNat = 0 from rfl] at hx116_1)
            (try rw [show 0 * 4 = 0 from rfl] at hx116_1)
            (try rw [Addr.add_zero'] at hx116_1)
            (try rw [show ((0 : Int)).toNat = 0 from rfl] at hx116_2)
            (try rw [show 0 * 4 = 0 from rfl] at hx116_2)
            (try rw [Addr.add_zero'] at hx116_2)
            (try rw [show ((0 : Int)).toNat = 0 from rfl] at hx116_3)
            (try rw [show 0 * 4 = 0 from rfl] at hx116_3)
            (try rw [Addr.add_zero'] at hx116_3)
            have HR116_3 := Aside0.mk hi116_3
            have HC116_3 := Aside0.mk hl116_3
            clear hi116_3 hl116_3
            replace p116 := eq_true p116
            replace q116 := eq_true q116
            have ea_ := Option.some.inj (hx112_3.symm.trans hx116_3)
            injection ea_ with ea_ en_ ec_
            subst ea_
            subst ec_
            clear en_
            have p117 : 0 ≤ (0 : Int) := (by omega)
            have q117 : 0 < (l0.length : Int) := of_decide_eq_true (by first | (with_reducible assumption) | assumption)
            obtain ⟨ad117, A117_3, c117_3, e117, hx117_0, hx117_1, hx117_2, hx117_3, hl117_3, hi117_3⟩ := at_T133 HR0.out 0 p117 q117
            obtain rfl : ad111 = ad117 := (by injection e117)
            have qi117 : (0 < l0.length) = True := eq_true (by omega)
            (try rw [show ((0 : Int)).toNat = 0 from rfl] at hx117_0)
            (try rw [show 0 * 4 = 0 from rfl] at hx117_0)
            (try rw [Addr.add_zero'] at hx117_0)
            (try rw [show ((0 : Int)).toNat = 0 from rfl] at hx117_1)
            (try rw [show 0 * 4 = 0 from rfl] at hx117_1)
            (try rw [Addr.add_zero'] at hx117_1)
            (try rw [show ((0 : Int)).toNat = 0 from rfl] at hx117_2)
            (try rw [show 0 * 4 = 0 from rfl] at hx117_2)
            (try rw [Addr.add_zero'] at hx117_2)
            (try rw [show ((0 : Int)).toNat = 0 from rfl] at hx117_3)
            (try rw [show 0 * 4 = 0 from rfl] at hx117_3)
            (try rw [Addr.add_zero'] at hx117_3)
            have HR117_3 := Aside0.mk hi117_3
            have HC117_3 := Aside0.mk hl117_3
            clear hi117_3 hl117_3
            replace p117 := eq_true p117
            replace q117 := eq_true q117
            have ea_ := Option.some.inj (hx111_3.symm.trans hx117_3)
            injection ea_ with ea_ en_ ec_
            subst ea_
            subst ec_
            clear en_
            have hcv8 := Kd.C_string (P := Try.prog) (A := A111_3) (c := c111_3) Try.underlying35 Try.underlying5 Try.underlying9 HR117_3.out
            have hcq9 := fun (nq_ : Nat) => Kd.C_string (P := Try.prog) (A := A111_3) (c := c111_3) Try.underlying35 Try.underlying5 Try.underlying9 (Kd.C_drewN HR117_3.out nq_)
            have p118 : 0 ≤ (0 : Int) := (by omega)
            have q118 : 0 < (l1.length : Int) := of_decide_eq_true (by first | (with_reducible assumption) | assumption)
            obtain ⟨ad118, A118_3, c118_3, e118, hx118_0, hx118_1, hx118_2, hx118_3, hl118_3, hi118_3⟩ := at_T133 HR1.out 0 p118 q118
            obtain rfl : ad112 = ad118 := (by injection e118)
            have qi118 : (0 < l1.length) = True := eq_true (by omega)
            (try rw [show ((0 : Int)).toNat = 0 from rfl] at hx118_0)
            (try rw [show 0 * 4 = 0 from rfl] at hx118_0)
            (try rw [Addr.add_zero'] at hx118_0)
            (try rw [show ((0 : Int)).toNat = 0 from rfl] at hx118_1)
            (try rw [show 0 * 4 = 0 from rfl] at hx118_1)
            (try rw [Addr.add_zero'] at hx118_1)
            (try rw [show ((0 : Int)).toNat = 0 from rfl] at hx118_2)
            (try rw [show 0 * 4 = 0 from rfl] at hx118_2)
            (try rw [Addr.add_zero'] at hx118_2)
            (try rw [show ((0 : Int)).toNat = 0 from rfl] at hx118_3)
            (try rw [show 0 * 4 = 0 from rfl] at hx118_3)
            (try rw [Addr.add_zero'] at hx118_3)
            have HR118_3 := Aside0.mk hi118_3
            have HC118_3 := Aside0.mk hl118_3
            clear hi118_3 hl118_3
            replace p118 := eq_true p118
            replace q118 := eq_true q118
            have ea_ := Option.some.inj (hx112_3.symm.trans hx118_3)
            injection ea_ with ea_ en_ ec_
            subst ea_
            subst ec_
            clear en_
            have hcv10 := Kd.C_string (P := Try.prog) (A := A112_3) (c := c112_3) Try.underlying35 Try.underlying5 Try.underlying9 HR118_3.out
            have hcq11 := fun (nq_ : Nat) => Kd.C_string (P := Try.prog) (A := A112_3) (c := c112_3) Try.underlying35 Try.underlying5 Try.underlying9 (Kd.C_drewN HR118_3.out nq_)
            go_enter Try.func180, Try.ntmps180
            go_wp2
            repeat (go_quiet (fail); try go_wp2)
            go_ret
            exact ⟨by first | rfl | (simp; done) | (simp [*]; done), by repeat (first | exact Drawn0.refl _ | apply Drawn0.step)⟩
          · rw [if_neg c7] at H
            have c7b0 : (((rd_T133 l0 0).f2) == ((rd_T133 l1 0).f2)) = false := beq_eq_false_iff_ne.mpr c7
            have c7b1 : (((rd_T133 l0 0).f2) != ((rd_T133 l1 0).f2)) = true := bne_iff_ne.mpr c7
            obtain rfl := Option.some.inj H
            have p111 : 0 ≤ (0 : Int) := (by omega)
            have q111 : 0 < (l0.length : Int) := of_decide_eq_true (by first | (with_reducible assumption) | assumption)
            obtain ⟨ad111, A111_3, c111_3, e111, hx111_0, hx111_1, hx111_2, hx111_3, hl111_3, hi111_3⟩ := at_T133 HR0.out 0 p111 q111
            cases e111
            have qi111 : (0 < l0.length) = True := eq_true (by omega)
            (try rw [show ((0 : Int)).toNat = 0 from rfl] at hx111_0)
            (try rw [show 0 * 4 = 0 from rfl] at hx111_0)
            (try rw [Addr.add_zero'] at hx111_0)
            (try rw [show ((0 : Int)).toNat = 0 from rfl] at hx111_1)
            (try rw [show 0 * 4 = 0 from rfl] at hx111_1)
            (try rw [Addr.add_zero'] at hx111_1)
            (try rw [show ((0 : Int)).toNat = 0 from rfl] at hx111_2)
            (try rw [show 0 * 4 = 0 from rfl] at hx111_2)
            (try rw [Addr.add_zero'] at hx111_2)
            (try rw [show ((0 : Int)).toNat = 0 from rfl] at hx111_3)
            (try rw [show 0 * 4 = 0 from rfl] at hx111_3)
            (try rw [Addr.add_zero'] at hx111_3)
            have HR111_3 := Aside0.mk hi111_3
            have HC111_3 := Aside0.mk hl111_3
            clear hi111_3 hl111_3
            replace p111 := eq_true p111
            replace q111 := eq_true q111
            have p112 : 0 ≤ (0 : Int) := (by omega)
            have q112 : 0 < (l1.length : Int) := of_decide_eq_true (by first | (with_reducible assumption) | assumption)
            obtain ⟨ad112, A112_3, c112_3, e112, hx112_0, hx112_1, hx112_2, hx112_3, hl112_3, hi112_3⟩ := at_T133 HR1.out 0 p112 q112
            cases e112
            have qi112 : (0 < l1.length) = True := eq_true (by omega)
            (try rw [show ((0 : Int)).toNat = 0 from rfl] at hx112_0)
            (try rw [show 0 * 4 = 0 from rfl] at hx112_0)
            (try rw [Addr.add_zero'] at hx112_0)
            (try rw [show ((0 : Int)).toNat = 0 from rfl] at hx112_1)
            (try rw [show 0 * 4 = 0 from rfl] at hx112_1)
            (try rw [Addr.add_zero'] at hx112_1)
            (try rw [show ((0 : Int)).toNat = 0 from rfl] at hx112_2)
            (try rw [show 0 * 4 = 0 from rfl] at hx112_2)
            (try rw [Addr.add_zero'] at hx112_2)
            (try rw [show ((0 : Int)).toNat = 0 from rfl] at hx112_3)
            (try rw [show 0 * 4 = 0 from rfl] at hx112_3)
            (try rw [Addr.add_zero'] at hx112_3)
            have HR112_3 := Aside0.mk hi112_3
            have HC112_3 := Aside0.mk hl112_3
            clear hi112_3 hl112_3
            replace p112 := eq_true p112
            replace q112 := eq_true q112
            have p113 : 0 ≤ (0 : Int) := (by omega)
            have q113 : 0 < (l0.length : Int) := of_decide_eq_true (by first | (with_reducible assumption) | assumption)
            obtain ⟨ad113, A113_3, c113_3, e113, hx113_0, hx113_1, hx113_2, hx113_3, hl113_3, hi113_3⟩ := at_T133 HR0.out 0 p113 q113
            obtain rfl : ad111 = ad113 := (by injection e113)
            have qi113 : (0 < l0.length) = True := eq_true (by omega)
            (try rw [show ((0 : Int)).toNat = 0 from rfl] at hx113_0)
            (try rw [show 0 * 4 = 0 from rfl] at hx113_0)
            (try rw [Addr.add_zero'] at hx113_0)
            (try rw [show ((0 : Int)).toNat = 0 from rfl] at hx113_1)
            (try rw [show 0 * 4 = 0 from rfl] at hx113_1)
            (try rw [Addr.add_zero'] at hx113_1)
            (try rw [show ((0 : Int)).toNat = 0 from rfl] at hx113_2)
            (try rw [show 0 * 4 = 0 from rfl] at hx113_2)
            (try rw [Addr.add_zero'] at hx113_2)
            (try rw [show ((0 : Int)).toNat = 0 from rfl] at hx113_3)
            (try rw [show 0 * 4 = 0 from rfl] at hx113_3)
            (try rw [Addr.add_zero'] at hx113_3)
            have HR113_3 := Aside0.mk hi113_3
            have HC113_3 := Aside0.mk hl113_3
            clear hi113_3 hl113_3
            replace p113 := eq_true p113
            replace q113 := eq_true q113
            have ea_ := Option.some.inj (hx111_3.symm.trans hx113_3)
            injection ea_ with ea_ en_ ec_
            subst ea_
            subst ec_
            clear en_
            have p114 : 0 ≤ (0 : Int) := (by omega)
            have q114 : 0 < (l1.length : Int) := of_decide_eq_true (by first | (with_reducible assumption) | assumption)
            obtain ⟨ad114, A114_3, c114_3, e114, hx114_0, hx114_1, hx114_2, hx114_3, hl114_3, hi114_3⟩ := at_T133 HR1.out 0 p114 q114
            obtain rfl : ad112 = ad114 := (by injection e114)
            have qi114 : (0 < l1.length) = True := eq_true (by omega)
            (try rw [show ((0 : Int)).toNat = 0 from rfl] at hx114_0)
            (try rw [show 0 * 4 = 0 from rfl] at hx114_0)
            (try rw [Addr.add_zero'] at hx114_0)
            (try rw [show ((0 : Int)).toNat = 0 from rfl] at hx114_1)
            (try rw [show 0 * 4 = 0 from rfl] at hx114_1)
            (try rw [Addr.add_zero'] at hx114_1)
            (try rw [show ((0 : Int)).toNat = 0 from rfl] at hx114_2)
            (try rw [show 0 * 4 = 0 from rfl] at hx114_2)
            (try rw [Addr.add_zero'] at hx114_2)
            (try rw [show ((0 : Int)).toNat = 0 from rfl] at hx114_3)
            (try rw [show 0 * 4 = 0 from rfl] at hx114_3)
            (try rw [Addr.add_zero'] at hx114_3)
            have HR114_3 := Aside0.mk hi114_3
            have HC114_3 := Aside0.mk hl114_3
            clear hi114_3 hl114_3
            replace p114 := eq_true p114
            replace q114 := eq_true q114
            have ea_ := Option.some.inj (hx112_3.symm.trans hx114_3)
            injection ea_ with ea_ en_ ec_
            subst ea_
            subst ec_
            clear en_
            have p115 : 0 ≤ (0 : Int) := (by omega)
            have q115 : 0 < (l0.length : Int) := of_decide_eq_true (by first | (with_reducible assumption) | assumption)
            obtain ⟨ad115, A115_3, c115_3, e115, hx115_0, hx115_1, hx115_2, hx115_3, hl115_3, hi115_3⟩ := at_T133 HR0.out 0 p115 q115
            obtain rfl : ad111 = ad115 := (by injection e115)
            have qi115 : (0 < l0.length) = True := eq_true (by omega)
            (try rw [show ((0 : Int)).toNat = 0 from rfl] at hx115_0)
            (try rw [show 0 * 4 = 0 from rfl] at hx115_0)
            (try rw [Addr.add_zero'] at hx115_0)
            (try rw [show ((0 : Int)).toNat = 0 from rfl] at hx115_1)
            (try rw [show 0 * 4 = 0 from rfl] at hx115_1)
            (try rw [Addr.add_zero'] at hx115_1)
            (try rw [show ((0 : Int)).toNat = 0 from rfl] at hx115_2)
            (try rw [show 0 * 4 = 0 from rfl] at hx115_2)
            (try rw [Addr.add_zero'] at hx115_2)
            (try rw [show ((0 : Int)).toNat = 0 from rfl] at hx115_3)
            (try rw [show 0 * 4 = 0 from rfl] at hx115_3)
            (try rw [Addr.add_zero'] at hx115_3)
            have HR115_3 := Aside0.mk hi115_3
            have HC115_3 := Aside0.mk hl115_3
            clear hi115_3 hl115_3
            replace p115 := eq_true p115
            replace q115 := eq_true q115
            have ea_ := Option.some.inj (hx111_3.symm.trans hx115_3)
            injection ea_ with ea_ en_ ec_
            subst ea_
            subst ec_
            clear en_
            have p116 : 0 ≤ (0 : Int) := (by omega)
            have q116 : 0 < (l1.length : Int) := of_decide_eq_true (by first | (with_reducible assumption) | assumption)
            obtain ⟨ad116, A116_3, c116_3, e116, hx116_0, hx116_1, hx116_2, hx116_3, hl116_3, hi116_3⟩ := at_T133 HR1.out 0 p116 q116
            obtain rfl : ad112 = ad116 := (by injection e116)
            have qi116 : (0 < l1.length) = True := eq_true (by omega)
            (try rw [show ((0 : Int)).toNat = 0 from rfl] at hx116_0)
            (try rw [show 0 * 4 = 0 from rfl] at hx116_0)
            (try rw [Addr.add_zero'] at hx116_0)
            (try rw [show ((0 : Int)).toNat = 0 from rfl] at hx116_1)
            (try rw [show 0 * 4 = 0 from rfl] at hx116_1)
            (try rw [Addr.add_zero'] at hx116_1)
            (try rw [show ((0 : Int)).toNat = 0 from rfl] at hx116_2)
            (try rw [show 0 * 4 = 0 from rfl] at hx116_2)
            (try rw [Addr.add_zero'] at hx116_2)
            (try rw [show ((0 : Int)).toNat = 0 from rfl] at hx116_3)
            (try rw [show 0 * 4 = 0 from rfl] at hx116_3)
            (try rw [Addr.add_zero'] at hx116_3)
            have HR116_3 := Aside0.mk hi116_3
            have HC116_3 := Aside0.mk hl116_3
            clear hi116_3 hl116_3
            replace p116 := eq_true p116
            replace q116 := eq_true q116
            have ea_ := Option.some.inj (hx112_3.symm.trans hx116_3)
            injection ea_ with ea_ en_ ec_
            subst ea_
            subst ec_
            clear en_
            go_enter Try.func180, Try.ntmps180
            go_wp2
            repeat (go_quiet (fail); try go_wp2)
            go_ret
            exact ⟨by first | rfl | (simp; done) | (simp [*]; done), by repeat (first | exact Drawn0.refl _ | apply Drawn0.step)⟩
        · rw [if_neg c6] at H
          have c6b0 : (((rd_T133 l0 0).f1) == ((rd_T133 l1 0).f1)) = false := beq_eq_false_iff_ne.mpr c6
          have c6b1 : (((rd_T133 l0 0).f1) != ((rd_T133 l1 0).f1)) = true := bne_iff_ne.mpr c6
          obtain rfl := Option.some.inj H
          have p111 : 0 ≤ (0 : Int) := (by omega)
          have q111 : 0 < (l0.length : Int) := of_decide_eq_true (by first | (with_reducible assumption) | assumption)
          obtain ⟨ad111, A111_3, c111_3, e111, hx111_0, hx111_1, hx111_2, hx111_3, hl111_3, hi111_3⟩ := at_T133 HR0.out 0 p111 q111
          cases e111
          have qi111 : (0 < l0.length) = True := eq_true (by omega)
          (try rw [show ((0 : Int)).toNat = 0 from rfl] at hx111_0)
          (try rw [show 0 * 4 = 0 from rfl] at hx111_0)
          (try rw [Addr.add_zero'] at hx111_0)
          (try rw [show ((0 : Int)).toNat = 0 from rfl] at hx111_1)
          (try rw [show 0 * 4 = 0 from rfl] at hx111_1)
          (try rw [Addr.add_zero'] at hx111_1)
          (try rw [show ((0 : Int)).toNat = 0 from rfl] at hx111_2)
          (try rw [show 0 * 4 = 0 from rfl] at hx111_2)
          (try rw [Addr.add_zero'] at hx111_2)
          (try rw [show ((0 : Int)).toNat = 0 from rfl] at hx111_3)
          (try rw [show 0 * 4 = 0 from rfl] at hx111_3)
          (try rw [Addr.add_zero'] at hx111_3)
          have HR111_3 := Aside0.mk hi111_3
          have HC111_3 := Aside0.mk hl111_3
          clear hi111_3 hl111_3
          replace p111 := eq_true p111
          replace q111 := eq_true q111
          have p112 : 0 ≤ (0 : Int) := (by omega)
          have q112 : 0 < (l1.length : Int) := of_decide_eq_true (by first | (with_reducible assumption) | assumption)
          obtain ⟨ad112, A112_3, c112_3, e112, hx112_0, hx112_1, hx112_2, hx112_3, hl112_3, hi112_3⟩ := at_T133 HR1.out 0 p112 q112
          cases e112
          have qi112 : (0 < l1.length) = True := eq_true (by omega)
          (try rw [show ((0 : Int)).toNat = 0 from rfl] at hx112_0)
          (try rw [show 0 * 4 = 0 from rfl] at hx112_0)
          (try rw [Addr.add_zero'] at hx112_0)
          (try rw [show ((0 : Int)).toNat = 0 from rfl] at hx112_1)
          (try rw [show 0 * 4 = 0 from rfl] at hx112_1)
          (try rw [Addr.add_zero'] at hx112_1)
          (try rw [show ((0 : Int)).toNat = 0 from rfl] at hx112_2)
          (try rw [show 0 * 4 = 0 from rfl] at hx112_2)
          (try rw [Addr.add_zero'] at hx112_2)
          (try rw [show ((0 : Int)).toNat = 0 from rfl] at hx112_3)
          (try rw [show 0 * 4 = 0 from rfl] at hx112_3)
          (try rw [Addr.add_zero'] at hx112_3)
          have HR112_3 := Aside0.mk hi112_3
          have HC112_3 := Aside0.mk hl112_3
          clear hi112_3 hl112_3
          replace p112 := eq_true p112
          replace q112 := eq_true q112
          have p113 : 0 ≤ (0 : Int) := (by omega)
          have q113 : 0 < (l0.length : Int) := of_decide_eq_true (by first | (with_reducible assumption) | assumption)
          obtain ⟨ad113, A113_3, c113_3, e113, hx113_0, hx113_1, hx113_2, hx113_3, hl113_3, hi113_3⟩ := at_T133 HR0.out 0 p113 q113
          obtain rfl : ad111 = ad113 := (by injection e113)
          have qi113 : (0 < l0.length) = True := eq_true (by omega)
          (try rw [show ((0 : Int)).toNat = 0 from rfl] at hx113_0)
          (try rw [show 0 * 4 = 0 from rfl] at hx113_0)
          (try rw [Addr.add_zero'] at hx113_0)
          (try rw [show ((0 : Int)).toNat = 0 from rfl] at hx113_1)
          (try rw [show 0 * 4 = 0 from rfl] at hx113_1)
          (try rw [Addr.add_zero'] at hx113_1)
          (try rw [show ((0 : Int)).toNat = 0 from rfl] at hx113_2)
          (try rw [show 0 * 4 = 0 from rfl] at hx113_2)
          (try rw [Addr.add_zero'] at hx113_2)
          (try rw [show ((0 : Int)).toNat = 0 from rfl] at hx113_3)
          (try rw [show 0 * 4 = 0 from rfl] at hx113_3)
          (try rw [Addr.add_zero'] at hx113_3)
          have HR113_3 := Aside0.mk hi113_3
          have HC113_3 := Aside0.mk hl113_3
          clear hi113_3 hl113_3
          replace p113 := eq_true p113
          replace q113 := eq_true q113
          have ea_ := Option.some.inj (hx111_3.symm.trans hx113_3)
          injection ea_ with ea_ en_ ec_
          subst ea_
          subst ec_
          clear en_
          have p114 : 0 ≤ (0 : Int) := (by omega)
          have q114 : 0 < (l1.length : Int) := of_decide_eq_true (by first | (with_reducible assumption) | assumption)
          obtain ⟨ad114, A114_3, c114_3, e114, hx114_0, hx114_1, hx114_2, hx114_3, hl114_3, hi114_3⟩ := at_T133 HR1.out 0 p114 q114
          obtain rfl : ad112 = ad114 := (by injection e114)
          have qi114 : (0 < l1.length) = True := eq_true (by omega)
          (try rw [show ((0 : Int)).toNat = 0 from rfl] at hx114_0)
          (try rw [show 0 * 4 = 0 from rfl] at hx114_0)
          (try rw [Addr.add_zero'] at hx114_0)
          (try rw [show ((0 : Int)).toNat = 0 from rfl] at hx114_1)
          (try rw [show 0 * 4 = 0 from rfl] at hx114_1)
          (try rw [Addr.add_zero'] at hx114_1)
          (try rw [show ((0 : Int)).toNat = 0 from rfl] at hx114_2)
          (try rw [show 0 * 4 = 0 from rfl] at hx114_2)
          (try rw [Addr.add_zero'] at hx114_2)
          (try rw [show ((0 : Int)).toNat = 0 from rfl] at hx114_3)
          (try rw [show 0 * 4 = 0 from rfl] at hx114_3)
          (try rw [Addr.add_zero'] at hx114_3)
          have HR114_3 := Aside0.mk hi114_3
          have HC114_3 := Aside0.mk hl114_3
          clear hi114_3 hl114_3
          replace p114 := eq_true p114
          replace q114 := eq_true q114
          have ea_ := Option.some.inj (hx112_3.symm.trans hx114_3)
          injection ea_ with ea_ en_ ec_
          subst ea_
          subst ec_
          clear en_
          go_enter Try.func180, Try.ntmps180
          go_wp2
          repeat (go_quiet (fail); try go_wp2)
          go_ret
          exact ⟨by first | rfl | (simp; done) | (simp [*]; done), by repeat (first | exact Drawn0.refl _ | apply Drawn0.step)⟩
      · rw [if_neg c5] at H
        have c5b0 : (((rd_T133 l0 0).f0) == ((rd_T133 l1 0).f0)) = false := beq_eq_false_iff_ne.mpr c5
        have c5b1 : (((rd_T133 l0 0).f0) != ((rd_T133 l1 0).f0)) = true := bne_iff_ne.mpr c5
        obtain rfl := Option.some.inj H
        have p111 : 0 ≤ (0 : Int) := (by omega)
        have q111 : 0 < (l0.length : Int) := of_decide_eq_true (by first | (with_reducible assumption) | assumption)
        obtain ⟨ad111, A111_3, c111_3, e111, hx111_0, hx111_1, hx111_2, hx111_3, hl111_3, hi111_3⟩ := at_T133 HR0.out 0 p111 q111
        cases e111
        have qi111 : (0 < l0.length) = True := eq_true (by omega)
        (try rw [show ((0 : Int)).toNat = 0 from rfl] at hx111_0)
        (try rw [show 0 * 4 = 0 from rfl] at hx111_0)
        (try rw [Addr.add_zero'] at hx111_0)
        (try rw [show ((0 : Int)).toNat = 0 from rfl] at hx111_1)
        (try rw [show 0 * 4 = 0 from rfl] at hx111_1)
        (try rw [Addr.add_zero'] at hx111_1)
        (try rw [show ((0 : Int)).toNat = 0 from rfl] at hx111_2)
        (try rw [show 0 * 4 = 0 from rfl] at hx111_2)
        (try rw [Addr.add_zero'] at hx111_2)
        (try rw [show ((0 : Int)).toNat = 0 from rfl] at hx111_3)
        (try rw [show 0 * 4 = 0 from rfl] at hx111_3)
        (try rw [Addr.add_zero'] at hx111_3)
        have HR111_3 := Aside0.mk hi111_3
        have HC111_3 := Aside0.mk hl111_3
        clear hi111_3 hl111_3
        replace p111 := eq_true p111
        replace q111 := eq_true q111
        have p112 : 0 ≤ (0 : Int) := (by omega)
        have q112 : 0 < (l1.length : Int) := of_decide_eq_true (by first | (with_reducible assumption) | assumption)
        obtain ⟨ad112, A112_3, c112_3, e112, hx112_0, hx112_1, hx112_2, hx112_3, hl112_3, hi112_3⟩ := at_T133 HR1.out 0 p112 q112
        cases e112
        have qi112 : (0 < l1.length) = True := eq_true (by omega)
        (try rw [show ((0 : Int)).toNat = 0 from rfl] at hx112_0)
        (try rw [show 0 * 4 = 0 from rfl] at hx112_0)
        (try rw [Addr.add_zero'] at hx112_0)
        (try rw [show ((0 : Int)).toNat = 0 from rfl] at hx112_1)
        (try rw [show 0 * 4 = 0 from rfl] at hx112_1)
        (try rw [Addr.add_zero'] at hx112_1)
        (try rw [show ((0 : Int)).toNat = 0 from rfl] at hx112_2)
        (try rw [show 0 * 4 = 0 from rfl] at hx112_2)
        (try rw [Addr.add_zero'] at hx112_2)
        (try rw [show ((0 : Int)).toNat = 0 from rfl] at hx112_3)
        (try rw [show 0 * 4 = 0 from rfl] at hx112_3)
        (try rw [Addr.add_zero'] at hx112_3)
        have HR112_3 := Aside0.mk hi112_3
        have HC112_3 := Aside0.mk hl112_3
        clear hi112_3 hl112_3
        replace p112 := eq_true p112
        replace q112 := eq_true q112
        go_enter Try.func180, Try.ntmps180
        go_wp2
        repeat (go_quiet (fail); try go_wp2)
        go_ret
        exact ⟨by first | rfl | (simp; done) | (simp [*]; done), by repeat (first | exact Drawn0.refl _ | apply Drawn0.step)⟩
    · rw [if_neg c4] at H
      exact absurd H (by simp)
  · rw [if_neg c3] at H
    exact absurd H (by simp)

end Go.Proofs.Ytfbgfakdflifdaa.PFnExactSameStores
